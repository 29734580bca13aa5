/-
  For all strings the call of TramReads returns true, and each argument reads behind the call as it read before. Conditions: none beyond those of the given card.
-/
import Derived.Test.YtajdcjkalbbogaaGreatDoorRe3
import Derived.Test.YtajdcjkalbbogaaGreatDoorTie
import Derived.Test.YtajdcjkalbbogaaGreatDoorCards
set_option maxRecDepth 100000
set_option maxHeartbeats 8000000
set_option linter.all false
namespace Go.Proofs.Tryz
open Go Go.AL Go.RowKit Go.Proofs Go.Proofs.Tram
attribute [local simp] aU bB fT fu aV aJ aK av az aW aw ao bO bP an ar ev aM.S aM.H bj aF bl AL.start AV.cells AV.storable AV.aZ aP bt bV bu HR.okB post bQ bG bH AV.out AV.aX aG aL fz cL AV.vw bT vI int a_ aq bD bq cd cj bZ bI aI AV.bC AV.dE
variable{GI:World->Prop}
def XP(hG:aQ GI)(l:List (List UInt8))(hl:l.length<1000)(h:∀p∈l,p.length<10000):AC prog GI 106 [strs l,.int .i64 223] (.ret (.str (Kn 223 l))):=by
 rw[sy]
 have pJ:∀i,(eL (l.take i)).length<=10000*1000:=λi=>by
  have:=uu (l:=l.take i) (b:=10000) λx hx=>h x (aeL hx)
  have h2:10000*(l.take i).length<=10000*1000:=agn _ (by rw[aes];omega);omega
 have km:∀i,0<=dM 0 (l.take i)/\dM 0 (l.take i)<=25500000000000000:=λi=>by
  have:=nA (l.take i) 0 (by rw[aes];omega) λx hx=>by have:=h x (aeL hx);omega
  rw[aes]at this;omega
 refine dF hG func106 ntmps106 c106 ?_;simp[c106,af,ae];refine cK 7 l.length (λi S H=>S 0=strs l/\S 1=.int .i64 223/\S 7=.int .i64 (i:Nat)/\S 5=.str (eL (l.take i))/\S 6=.int .i64 (dM 0 (l.take i))) (λi S H h=>h.2.2.1) ⟨by simp[af,ae,strs],by simp[af,ae],by simp[af,ae],by simp[af,ae,eL],by simp[af,ae,dM]⟩ ?_;rintro i hi S H ⟨s0,s1,s7,s5,s6⟩
 by_cases aN:i<l.length
 case neg=>
  have dV:i=l.length:=zo
  subst dV;rw[aee (aed _)]at s5 s6;have hf:=pJ l.length;have hc:=km l.length;rw[aee (aed _)]at hf hc
  generalize eL l=F at*
  obtain⟨c,P4⟩:∃c:Nat,dM 0 l=c:=⟨(dM 0 l).toNat,zo⟩
  rw[P4]at s6⊢
  have hm:(c:Int).tmod 223=((c % 223:Nat):Int):=by rw[aeR zo];omega
  have vy:(c:Int) % 223=((c % 223:Nat):Int):=zo
  have Ul:c % 223<223:=agT _ zo;rw[vy]
  generalize c % 223=r at*
  have n1:eE ((r:Int)/100):=⟨zo,zo⟩
  have n2:eE ((r:Int)/10 % 10):=⟨zo,zo⟩
  have n3:eE ((r:Int) % 10):=⟨zo,zo⟩
  have q1:IntKind.i64.wrap ((r:Int)/100)=(r:Int)/100:=bU zo;have q2:IntKind.i64.wrap ((r:Int)/10)=(r:Int)/10:=bU zo;have t1:(r:Int).tdiv 100=(r:Int)/100:=aeZ zo;have t2:(r:Int).tdiv 10=(r:Int)/10:=aeZ zo;have t3:((r:Int)/10).tmod 10=(r:Int)/10 % 10:=aeR zo;have t4:(r:Int).tmod 10=(r:Int) % 10:=aeR zo;have a1:=tM hG n1;have a2:=tM hG n2;have a3:=tM hG n3;have d1:=(fO n1).1;have d2:=(fO n2).1;have d3:=(fO n3).1;have hE:nc (r:Int)=[101,110,100,32]++bW ((r:Int)/100)++bW ((r:Int)/10 % 10)++bW ((r:Int) % 10):=rfl;rw[hE]
  generalize bW ((r:Int)/100)=u at*
  generalize bW ((r:Int)/10 % 10)=v at*
  generalize bW ((r:Int) % 10)=w at*
  have e1:F.length+(u.length+1+1+1+1)+v.length<1073741824:=zo
  have e2:F.length+(u.length+v.length+1+1+1+1)+w.length<1073741824:=zo
  have e3:F.length+(u.length+(v.length+w.length)+1+1+1+1)+1<1073741824:=zo
  have e4:F.length+(u.length+v.length+w.length+1+1+1+1)+1<1073741824:=zo
  have b1:F.length+4<1073741824:=zo
  have b2:F.length+(u.length+4)<1073741824:=zo
  have b3:F.length+(v.length+u.length+4)<1073741824:=zo
  have b4:F.length+4+u.length<1073741824:=zo
  have b5:F.length+4+u.length+v.length<1073741824:=zo
  have b6:F.length+4+u.length+v.length+w.length<1073741824:=zo
  have b7:F.length+4+u.length+v.length+w.length+1<1073741824:=zo
  simp[af,ae,s0,s1,s7,s5,s6,strs,hm,vy,q1,q2,t1,t2,t3,t4,b1];refine oc a1 ?_;simp[af,ae,s0,s1,s7,s5,s6,strs,hm,vy,q1,q2,t1,t2,t3,t4,b1,b4];refine oc a2 ?_;simp[af,ae,s0,s1,s7,s5,s6,strs,hm,vy,q1,q2,t1,t2,t3,t4,b1,b4,b5,e1];refine oc a3 ?_;simp[af,ae,s0,s1,s7,s5,s6,strs,hm,vy,q1,q2,t1,t2,t3,t4,b1,b4,b5,e1,e2,e3,e4]
 have hw:IntKind.i64.wrap ((i:Int)+1)=i+1:=bU zo;have hp:=h _ (ad2 aN);have hf:=pJ i;have hc:=km i;have vV:eL (l.take (i+1))=eL (l.take i)++l[i]++[10]:=sB aN;have wM:=q_ aN
 have Fc:∀k,0<=eN 0 (l[i].take k)/\eN 0 (l[i].take k)<=25500000000:=λk=>by
  have:=mN (l[i].take k) 0 (by rw[aes];omega);rw[aes]at this;omega
 rw[vV,wM];clear vV wM
 generalize eL (l.take i)=F at*
 generalize dM 0 (l.take i)=c at*
 have jL:(l.map AV.str)[i]?=some (.str l[i]):=by rw[aeK,ad_ aN]<;>rfl
 generalize tr:l[i]=p at*
 refine aY (λS H=>S 0=strs l/\S 1=.int .i64 223/\S 7=.int .i64 (i:Nat)/\S 5=.str F/\S 6=.int .i64 c) (by simp[af,ae,s0,s1,s7,s5,s6,strs,aN]) ?_;clear s0 s1 s7 s5 s6 S H;rintro S H ⟨s0,s1,s7,s5,s6⟩;refine aY (λS H=>S 0=strs l/\S 1=.int .i64 223/\S 7=.int .i64 (i:Nat)/\S 5=.str (F++p++[10])/\S 6=.int .i64 (c+eN 0 p*(i+1))) ?_ ?_
 .refine kC ?_;refine aY (λS H=>S 0=strs l/\S 1=.int .i64 223/\S 7=.int .i64 (i:Nat)/\S 5=.str F/\S 6=.int .i64 (c+eN 0 p*(i+1))) ?_ ?_
  .simp[af,ae,s0,s1,s7,s5,s6];refine cK 8 p.length (λk S H=>S 0=strs l/\S 1=.int .i64 223/\S 7=.int .i64 (i:Nat)/\S 5=.str F/\S 8=.int .i64 (k:Nat)/\S 6=.int .i64 (c+eN 0 (p.take k)*(i+1))) (λi S H h=>h.2.2.2.2.1) ⟨by simp[af,ae,s0],by simp[af,ae,s1],by simp[af,ae,s7],by simp[af,ae,s5],by simp[af,ae],by simp[af,ae,s6,eN]⟩ ?_;clear s0 s1 s7 s5 s6 S H;rintro k hk S H ⟨s0,s1,s7,s5,s8,s6⟩
   by_cases jW:k<p.length
   case neg=>
    have dp:k=p.length:=zo
    subst dp;rw[aee (aed _)]at s6;simp[af,ae,s0,s1,s7,s5,s8,s6,strs,aN,tr]
   have tF:IntKind.i64.wrap ((k:Int)+1)=k+1:=bU zo;have pn:=Fc k;have IE:=wh p[k];rw[sf jW]
   generalize eN 0 (p.take k)=u at*
   generalize Qd:p[k].toNat=y at*
   have Z0:p[k]?=some p[k]:=ad_ jW;have m1:(y:Int)*(k+1)<=255*10000:=ae6 zo zo zo zo;have m0:0<=(y:Int)*(k+1):=ae3 zo zo;have m2:(y:Int)*(k+1)*(i+1)<=2550000*1000:=ae6 zo zo zo zo;have m3:0<=(y:Int)*(k+1)*(i+1):=ae3 zo zo;have m4:u*(i+1)<=25500000000*1000:=ae6 zo zo zo zo;have m5:0<=u*(i+1):=ae3 zo zo;have w0:IntKind.i64.wrap (y:Int)=y:=bU zo;have w1:IntKind.i64.wrap ((y:Int)*(k+1))=(y:Int)*(k+1):=bU zo;have w2:IntKind.i64.wrap ((y:Int)*(k+1)*(i+1))=(y:Int)*(k+1)*(i+1):=bU zo
   have w3:IntKind.i64.wrap (c+u*(i+1)+(y:Int)*(k+1)*(i+1))=c+(u+(y:Int)*(k+1))*(i+1):=by
    rw[bU zo,ahp];omega
   simp[af,ae,s0,s1,s7,s5,s8,s6,strs,aN,tr,jW,Qd,w0,w1,w2,w3,hw,tF]
  clear s0 s1 s7 s5 s6 S H;rintro S H ⟨s0,s1,s7,s5,s6⟩
  have b1:F.length+p.length<1073741824:=zo
  have b2:F.length+p.length+1<1073741824:=zo
  have b3:F.length+(p.length+1)<1073741824:=zo
  simp[af,ae,s0,s1,s7,s5,s6,strs,aN,tr,b1,b2,b3]
 clear s0 s1 s7 s5 s6 S H;rintro S H ⟨s0,s1,s7,s5,s6⟩;simp[af,ae,s0,s1,s7,s5,s6,strs,hw,aN]
def Bp(b:Bool):List UInt8:=32::jy b
def L1(c:fC):eI c=gQ vA ([c.lo,c.hi].map bW)++Bp c.hid:=by
 unfold eI gQ ma Bp;simp[fL]
def LK{c:fC}(h:gB c.lo/\gB c.hi):(eI c).length<=100:=by
 have h1:=(fO (n:=c.lo) ⟨h.1.1,by have:=h.1.2;omega⟩).1;have h2:=(fO (n:=c.hi) ⟨h.2.1,by have:=h.2.2;omega⟩).1
 have h3:(jy c.hid).length<=3:=by cases c.hid<;>decide
 unfold eI gQ;simp[ma,vA,fL];omega
def YS(hG:aQ GI)(s:bf)(hN:kH s)(lL:s.cells.length<=900):AC prog GI 46 [cH s] (.ret (.str (eS s))):=by
 have xr:(fx s).length<1000:=by unfold fx;simp;omega
 have aS:=XP hG (fx s) xr (xY hN);have aH:=Be (GI:=GI) hG IQ (fm s) zd (by simp[fm]) (Bf hN.head);have aH:AC prog GI 105 [.str [116,114,97,109],.slice .view [AV.int .i64 s.pos,AV.int .i64 s.reach,AV.int .i64 s.fh,AV.int .i64 s.eF]] (.ret (.str (lB s))):=aH;have aS:AC prog GI 106 [.slice .view (((lB s)::s.cells.map eI).map AV.str),.int .i64 223] (.ret (.str (eS s))):=aS;have L9:br 1 [AV.int .i64 s.pos,AV.int .i64 s.reach,AV.int .i64 s.fh,AV.int .i64 s.eF]=true:=rfl
 generalize eS s=T at*
 generalize lB s=HT at*
 clear xr
 have dG:∀t,br 1 [AV.str t]=true:=λ_=>rfl
 refine dF hG func46 ntmps46 c46 ?_;refine aY (λS H=>S 1=.box 1 0/\H 1=some (bh s)) (by simp[af,ae,cH,bh,ai]) ?_;rintro S H ⟨s1,h1⟩;refine aY (λS H=>S 1=.box 1 0/\H 1=some (bh s)/\S 3=grow 9 [.str HT]) ?_ ?_
 .simp[af,ae,s1,h1,bh,ai,L9];refine oc aH ?_;simp[af,ae,s1,h1,bh,ai,dG,grow]
 clear s1 h1 S H;rintro S H ⟨s1,h1,s3⟩;refine aY (λS H=>S 3=grow 9 ((HT::s.cells.map eI).map AV.str)) ?_ ?_
 .simp[af,ae,s1,h1,s3];refine cK 4 s.cells.length (λi S H=>S 1=.box 1 0/\H 1=some (bh s)/\S 4=.int .i64 (i:Nat)/\S 3=grow 9 ((HT::(s.cells.take i).map eI).map AV.str)) (λi S H h=>h.2.2.1) ⟨by simp[af,ae,s1],by simp[af,ae,h1],by simp[af,ae],by simp[af,ae,s3,grow]⟩ ?_;clear s1 h1 s3 S H;rintro i hi S H ⟨s1,h1,s4,s3⟩
  by_cases aN:i<s.cells.length
  case neg=>
   have dV:i=s.cells.length:=zo
   subst dV;rw[aee (aed _)]at s3;simp[af,ae,s1,h1,s4,s3,bh,ai]
  have hw:IntKind.i64.wrap ((i:Int)+1)=i+1:=bU zo
  obtain⟨c,hc⟩:∃c,s.cells[i]=c:=⟨_,rfl⟩
  have Bs:=hN.cells _ (ad2 aN);rw[hc]at Bs
  have ht:HT::(s.cells.take (i+1)).map eI=(HT::(s.cells.take i).map eI)++[eI c]:=by
   rw[aec aN,aeB,List.cons_append,hc]<;>rfl
  have hlen:(HT::(s.cells.take i).map eI).length<=2000:=by simp;omega
  have aR:=Be (GI:=GI) hG vA [c.lo,c.hi] zd ah7 (Bf λn hn=>by simp at hn;rcases hn with rfl|rfl;exact Bs.1;exact Bs.2);have aR:AC prog GI 105 [.str [99,101,108,108],.slice .view [AV.int .i64 c.lo,AV.int .i64 c.hi]] (.ret (.str (gQ vA ([c.lo,c.hi].map bW)))):=aR;have nu:=L1 c;have Yh:=LK Bs;rw[ht];rw[nu]at Yh⊢
  generalize gQ vA ([c.lo,c.hi].map bW)=RT at*
  generalize HT::(s.cells.take i).map eI=B at*
  have gZ:br 1 [AV.int .i64 c.lo,AV.int .i64 c.hi]=true:=rfl;refine aY (λS H=>S 1=.box 1 0/\H 1=some (bh s)/\S 4=.int .i64 (i:Nat)/\S 3=grow 9 (B.map AV.str)) (by simp[af,ae,s1,h1,s4,s3,aN,bh,ai]) ?_;clear s1 h1 s4 s3 S H;rintro S H ⟨s1,h1,s4,s3⟩;refine aY (λS H=>S 1=.box 1 0/\H 1=some (bh s)/\S 4=.int .i64 (i:Nat)/\S 3=grow 9 ((B++[RT++Bp c.hid]).map AV.str)) ?_ ?_
  .refine kC ?_;refine aY (λS H=>S 1=.box 1 0/\H 1=some (bh s)/\S 4=.int .i64 (i:Nat)/\S 3=grow 9 (B.map AV.str)/\S 5=.str [32,110,111]) (by simp[af,ae,s1,h1,s4,s3]) ?_;clear s1 h1 s4 s3 S H;rintro S H ⟨s1,h1,s4,s3,s5⟩;refine aY (λS H=>S 1=.box 1 0/\H 1=some (bh s)/\S 4=.int .i64 (i:Nat)/\S 3=grow 9 (B.map AV.str)/\S 5=.str (Bp c.hid)) ?_ ?_
   .cases hh:c.hid<;>simp[af,ae,s1,h1,s4,s3,s5,bh,ai,gD,aN,hc,hh,Bp,jy]
   clear s1 h1 s4 s3 s5 S H;rintro S H ⟨s1,h1,s4,s3,s5⟩
   generalize Bp c.hid=tw at*
   have AP:RT.length+tw.length<1073741824:=by rw[aeu]at Yh;omega
   simp[s1,h1,s4,s3,s5,bh,ai,gD,aN,hc,gZ];refine oc aR ?_;simp[s1,h1,s4,s3,s5,bh,ai,gD,aN,hc,dG,AP];refine jG (B.map AV.str) (AV.str (RT++tw)) (.own 9) (by simp[s3,grow]) ah7 rfl (fN B) (by rw[aef];omega) ?_;intro S' sd dp;simp[sd,dp,s1,h1,s4,bh,ai,grow]
  clear s1 h1 s4 s3 S H;rintro S H ⟨s1,h1,s4,s3⟩;simp[af,ae,s1,h1,s4,s3,hw,aN]
 clear s1 h1 s3 S H;rintro S H s3;have hg:grow 9 ((HT::s.cells.map eI).map AV.str)=.slice (.own 9) ((HT::s.cells.map eI).map AV.str):=rfl;rw[hg]at s3
 generalize(HT::s.cells.map eI).map AV.str=L at*
 simp[af,ae,s3];refine oc aS ?_;simp[af,ae]
def iB(s:bf):List UInt8:=eS s++fb s.name
def Ye(hG:aQ GI)(s:bf)(hN:kH s)(lL:s.cells.length<=900)(hNn:j4 s.name)(hf:F' s.name)(hl:(iB s).length<1000000):AC prog GI 12 [cH s] (.ret (.str (iB s))):=by
 have a1:=YS hG s hN lL;have a2:=YL (GI:=GI) hG s.name hNn hf;unfold iB at hl⊢;rw[aeu]at hl
 generalize eS s=t1 at*
 generalize fb s.name=t2 at*
 have pk:t1.length+t2.length<1073741824:=zo
 refine dF hG func12 ntmps12 c12 ?_;simp[c12,cH,bh,ai,af,ae];refine oc a1 ?_;simp[af,ae];refine oc a2 ?_;simp[pk,af,ae]
end Go.Proofs.Tryz
namespace Go.Proofs.YtajdcjkalbbogaaGreatDoor
open Go Go.AL Go.ChangeShapes Go.WideShapes Go.ChangeAt Go.RowKit
def own:ownKnob Tryz.prog.godebug=none:=by kernel_rfl
def HJ:laidOutB Tryz.prog=true:=by kernel_rfl
def GI(w:World):Prop:=∃m,w.cell? ⟨1,0,none⟩=some (.int .i64 m)
def NV:aQ GI:=by
 rintro w w' ⟨m,hm⟩ hb;refine⟨m,?_⟩
 have h1:1<w.heap.size:=by
  unfold World.cell? at hm
  by_cases h:1<w.heap.size
  .exact h
  .have:w.heap[1]?=none:=by simp;omega
   simp[this]at hm
 unfold World.cell? at hm⊢;rw[hb.block 1 h1];exact hm
def aan{w:World}(h:w.ShapedOpen Tryz.prog):GI w:=
 cell_of_shapedOpen_int (g:=1) (t:=3) (zero:=#[.int .i64 0]) (k:=.i64) h (agb zk) zk rfl zk zk zk
abbrev um:List (String×DataW Unit):=Rows.tramPrintsRow.laid
variable{H:Type}{enc:TypeId×Value->H}
def uX{w:World}{base:Nat}{spare:Nat->Bool}{held:Bool}:∀{ts:List TypeId}{vs:List Value}{ds:List (DataW H)}{ps:List MemPlace},DataW.TrodAll enc Tryz.prog w base spare held ts vs ds ps->ds.length=ts.length
 |[],[],[],_,_=>rfl
 |_::_,_::_,_::_,_,⟨_,_,_,h,_⟩=>congrArg (·+1) (uX h)
def wD {W W':World} (hb:Below W.heap.size W W'):∀ {ts:List TypeId} {vs:List Value} {ds:List (DataW H)} {ps:List MemPlace},(∀ t∈ts,Tryz.prog.readableRec t=true∧t < Tryz.prog.types.size) →
  DataW.TrodAll enc Tryz.prog W 0 (λ_=>true) true ts vs ds ps->(∀x∈ps,x.block<W.heap.size)->DataW.TrodAll enc Tryz.prog W' 0 (λb=>decide (b<W.heap.size)) true ts vs ds ps
 |[],[],[],_,_,h,_=>h
 |t::_,_::_,_::_,_,hr,⟨p,q,h1,h2,e⟩,aN=>by
  subst e;exact⟨p,q,Below.trod HJ (hr t aen).1 (hr t aen).2 h1 hb (λx hx=>aN x (age _ hx)),wD hb (λu hu=>hr u (aei _ hu)) h2 (λx hx=>aN x (agB _ hx)),rfl⟩
end Go.Proofs.YtajdcjkalbbogaaGreatDoor
namespace Go.Proofs.YtajdcjkalbbogaaGreatDoor
open Go Go.AL Go.ChangeShapes Go.WideShapes Go.ChangeAt Go.RowKit
def ch(l:List Nat):List Char:=l.map Char.ofNat
def w1:List Nat:=[104,97,114,110,101,115,115]
def w2:List Nat:=[56,50,49,55,49,48,57,50,98,101,57,49,52,51,54,55,54,102,52,53,97,51,48,53,54,101,98,53,99,54,98,52,97,102,55,56,55,100,100,102,57,53,51,50,99,51,50,57,98,51,54,51,53,56,100,52,57,56,97,50,49,54,100,101]
def w3:List Nat:=[99,117,116]
def w4:List Nat:=[97,116,32,109,97,104,108,115,116,105,99,107,47,109,97,104,108,115,116,105,99,107,108,97,119,48,57,46,84,114,97,109,80,114,105,110,116,115,32,109,97,104,108,115,116,105,99,107,47,109,97,104,108,115,116,105,99,107,108,97,119,48,57,46,84,114,97,109,82,101,97,100,115,32,109,97,104,108,115,116,105,99,107,47,109,97,104,108,115,116,105,99,107,108,97,119,48,57,46,84,114,97,109,83,112,111,105,108,116]
def sk:∀{a b:List Char},(a.all λc=>c !=Char.ofNat 32)=true->wordsSigns (a++Char.ofNat 32::b)=a::wordsSigns b
 |[],b,_=>rfl
 |c::a,b,h=>by
  simp only[List.all_cons,aeb,agU]at h;have ih:=sk (b:=b) h.2;show wordsSigns (c::(a++Char.ofNat 32::b))=_
  conv=>lhs;unfold wordsSigns
  split
  .rename_i e;cases e
  .rename_i e;cases e;exact absurd rfl h.1
  .rename_i e;cases e;rw[ih]
def head_eq:Tryz.prog.initOrder=String.ofList (ch w1++Char.ofNat 32::(ch w2++Char.ofNat 32::(ch w3++Char.ofNat 32::ch w4))):=by kernel_rfl
def B8:wordsSigns Tryz.prog.initOrder.toList=ch w1::ch w2::ch w3::wordsSigns (ch w4):=by
 rw[head_eq,ahk,sk zk,sk zk,sk zk]
def aa1:ch w2 = "82171092be9143676f45a3056eb5c6b4af787ddf9532c329b36358d498a216de".toList:=by
 have : "82171092be9143676f45a3056eb5c6b4af787ddf9532c329b36358d498a216de" = String.ofList (ch w2):=by kernel_rfl
 rw[this,ahk]
def tl(s:String)(l:List Nat)(h:s=String.ofList (ch l)):s.toList=ch l:=by rw[h,ahk]
def CE : "harness".toList=ch [104,97,114,110,101,115,115]:=tl _ _ zk
def Md : "ownmain".toList=ch [111,119,110,109,97,105,110]:=tl _ _ zk
def Qq : "gc".toList=ch [103,99]:=tl _ _ zk
def MJ : "spec".toList=ch [115,112,101,99]:=tl _ _ zk
def Vo : "stop".toList=ch [115,116,111,112]:=tl _ _ zk
def wG : "carried".toList=ch [99,97,114,114,105,101,100]:=tl _ _ zk
def Dk : "cut".toList=ch [99,117,116]:=tl _ _ zk
def En : "finals".toList=ch [102,105,110,97,108,115]:=tl _ _ zk
def Dg : "reflectrows".toList=ch [114,101,102,108,101,99,116,114,111,119,115]:=tl _ _ zk
def IY : "leanrows".toList=ch [108,101,97,110,114,111,119,115]:=tl _ _ zk
def JR : "onebuild".toList=ch [111,110,101,98,117,105,108,100]:=tl _ _ zk
def Dx : "publicsums".toList=ch [112,117,98,108,105,99,115,117,109,115]:=tl _ _ zk
def MS : "eqguard".toList=ch [101,113,103,117,97,114,100]:=tl _ _ zk
def Gl : "ownunsafe".toList=ch [111,119,110,117,110,115,97,102,101]:=tl _ _ zk
def F_ : "libbeside".toList=ch [108,105,98,98,101,115,105,100,101]:=tl _ _ zk
def FX : "ownbeside".toList=ch [111,119,110,98,101,115,105,100,101]:=tl _ _ zk
def EH : "reflbeside".toList=ch [114,101,102,108,98,101,115,105,100,101]:=tl _ _ zk
def MN : "aliases".toList=ch [97,108,105,97,115,101,115]:=tl _ _ zk
def F9 : "afterinit".toList=ch [97,102,116,101,114,105,110,105,116]:=tl _ _ zk
def Kj : "crcplain".toList=ch [99,114,99,112,108,97,105,110]:=tl _ _ zk
def Dv : "roadunsafe".toList=ch [114,111,97,100,117,110,115,97,102,101]:=tl _ _ zk
def Gz : "fmthandon".toList=ch [102,109,116,104,97,110,100,111,110]:=tl _ _ zk
def NH:isSumSigns (ch w2)=true:=by kernel_rfl
def Dm(ws:List (List Char)):Option (Bool×List Char):=match ws with
 |h::s::_=>if !isSumSigns s then none else if h == "harness".toList then some (true,s) else if h == "ownmain".toList then some (false,s) else none
 |_=>none
def Oj(P:Program):P.mainIs=Dm (wordsSigns P.initOrder.toList):=rfl
def PK(R:List (List Char)):Dm (ch w1::ch w2::ch w3::R)=some (true,ch w2):=by
 simp only[Dm,NH,CE]
 rfl
def RI:Tryz.prog.mainIs=some (true,ch w2):=(Oj _).trans ((congrArg Dm B8).trans (PK _))
def PL(R:List (List Char)):behindMainWord (ch w1::ch w2::R)=R:=by
 simp only[behindMainWord,NH,CE,Md]
 rfl
def xh:behindMainWord (wordsSigns Tryz.prog.initOrder.toList)=ch w3::wordsSigns (ch w4):=(congrArg behindMainWord B8).trans (PL _)
def MM(R:List (List Char)):stripLifts liftWords (ch w3::R)=([],ch w3::R):=by
 unfold liftWords;simp only[stripLifts,En,Dg,IY,JR,Dx,MS,Gl,F_,FX,EH,MN,F9,Kj,Dv,Gz]
 rfl
def Dq (ws:List (List Char)):List String:=if (stripLifts liftWords ws).2.head? == some "cut".toList then (stripLifts liftWords ws).1 else []
def Gr(P:Program):P.headLifts=Dq (behindMainWord (wordsSigns P.initOrder.toList)):=rfl
def OI(R:List (List Char)):Dq (ch w3::R)=[]:=by
 simp only[Dq,MM,Dk]
 rfl
def zt:Tryz.prog.headLifts=[]:=(Gr _).trans ((congrArg Dq xh).trans (OI _))
def Ol{P:Program}{R:List (List Char)}(h:behindMainWord (wordsSigns P.initOrder.toList)=ch w3::R)(hl:P.headLifts=[]):P.make=some .cut:=by
 unfold Program.make;rw[h];simp only[Dk,Qq,MJ,En,wG,hl]
 rfl
def Xv:Tryz.prog.make=some .cut:=Ol xh zt
def E1{P:Program}{R:List (List Char)}(h:behindMainWord (wordsSigns P.initOrder.toList)=ch w3::R)(hl:P.headLifts=[]):P.liftsFinal=false:=by
 unfold Program.liftsFinal;simp only[h,Dk,Qq,wG,hl]
 rfl
def Gy:Tryz.prog.liftsFinal=false:=E1 xh zt
def Iz:Tryz.prog.laysLater=false:=by kernel_rfl
def C8:Tryz.prog.bearsReflect=false:=by kernel_rfl
def Ms:Tryz.prog.doorFits []=true:=by kernel_rfl
def I'{P:Program}{R:List (List Char)}(h:behindMainWord (wordsSigns P.initOrder.toList)=ch w3::R)(h1:P.laysLater=false)(h2:P.bearsReflect=false)(h3:P.doorFits []=true):P.mayEnter=true:=by
 unfold Program.mayEnter;rw[h];simp only[MM,Dk,Qq,wG,MJ,Vo,h1,h2,h3]
 rfl
def Mv:Tryz.prog.mayEnter=true:=I' xh Iz C8 Ms
def GT (w:World):Prop:=GI w/\Lib.TabIs Tryz.prog w "internal/strconv.uint64pow10" .u64 Lib.pow10Tab
def PQ:aQ GT:=λw w' h hb=>⟨NV w w' h.1 hb,Lib.tabBelow_of_tabIs h.2 w' hb⟩
def Fj{P:Program}{w:World}{x:String×DataW Unit}{l:List (String×DataW Unit)}{ps:List MemPlace}(h:DataW.LaidVars P w (x::l) ps):∃p qs,ps=p++qs/\DataW.LaidVars P w l qs:=by
 obtain⟨g',t',cs,fuel,p,q,Bt,vt,adX,hd,hr,e⟩:=h;exact⟨_,q,e,hr⟩
def x8{P:Program}{w:World}{x:String×DataW Unit}{l:List (String×DataW Unit)}(h:laidMet P (x::l) w):laidMet P l w:=by
 obtain⟨ps,h1,h2,h3⟩:=h;obtain⟨p,qs,rfl,h4⟩:=Fj h1;exact⟨qs,h4,(List.nodup_append.1 h2).2.1,λb off hm=>h3 b off (agB _ hm)⟩
def Wp {w:World} (h:laidMetH Tryz.prog Rows.tramPrintsRow.laid w.memory):Lib.TabIs Tryz.prog w "internal/strconv.uint64pow10" .u64 Lib.pow10Tab:=by
 rw [ahy _ _ _ zk] at h;have h3:=x8 (x8 h);exact Lib.tabIs_of_head (W:=w.memory) (P:=Tryz.prog) (name := "internal/strconv.uint64pow10") (g:=0) (t:=256) (e:=234) (n:=20) zk zk zk zk zk zk h3
variable{H:Type}{enc:TypeId×Value->H}
def KY (f:FuncId) (fn:Func) (Wa:Tryz.checked.prog.funcs[f]? = some fn) (XZ:Tryz.checked.prog.inits.idxOf? f=none) (LW:fn.resultTypes = #[4]) (spec:ChangeSpec) (Uk:spec.vars=[])
  (Qa:∀(ds:List (DataW H)),ds.length=fn.params.size->spec.fn H ds={ results:=[.lit (.bool true)],args:=ds })
  (ec:∀t∈fn.params.toList,Tryz.prog.readableRec t=true/\t<Tryz.prog.types.size)
  (os:Os) (started:os.Started) (ue:Array Value) (fuel:Nat)
  (gC:((World.laidAll Tryz.prog os um).forCall (λ_ _=>0) ⟨#[],ue,[]⟩).Shaped Tryz.checked.prog)
  (df:Input.okWideB Tryz.checked.prog ((World.laidAll Tryz.prog os um).forCall (λ_ _=>0) ⟨#[],ue,[]⟩) f ⟨#[],ue,[]⟩=true)
  (adm:spec.preB enc Tryz.checked.prog fn [] false ((World.laidAll Tryz.prog os um).forCall (λ_ _=>0) ⟨#[],ue,[]⟩).memory ue fuel=true)
  (cM:spec.sizedB enc Tryz.checked.prog fn false ((World.laidAll Tryz.prog os um).forCall (λ_ _=>0) ⟨#[],ue,[]⟩).memory ue fuel=true)
  (hx:laidMetH Tryz.prog um ((World.laidAll Tryz.prog os um).forCall (λ_ _=>0) ⟨#[],ue,[]⟩).memory)
  (nq:∀(W:World)(base:Nat)(args:Array Value)(ds:List (DataW H))(p:List MemPlace),GT W->
   (∀(j:Nat) t v,fn.params[j]?=some t->args[j]?=some v->Value.okWide Tryz.prog W .any base t v)->
   DataW.TrodAll enc Tryz.prog W 0 (λ_=>true) true fn.params.toList args.toList ds p->
   Calls Tryz.prog f args W λe W'=>e=.returned (.bool true)/\Below W.heap.size W W'):
  ReturnsInHanded {} Tryz.checked os f .any (λw args=>(spec.pre enc Tryz.checked.prog fn [] false w args/\laidMetH Tryz.checked.prog um w)/\sizedMet enc Tryz.checked.prog fn (OpenSpec.ofChange spec) false w args)
   (spec.post enc Tryz.checked.prog fn false true false false):=by
 refine returnsInHanded_of_calls (C:=Tryz.checked) own started XZ
  (ChangeSpec.witness_shaped (enc:=enc) (C:=Tryz.checked) (os:=os) (X:=λw _=>laidMetH Tryz.prog um w) false (World.laidAll Tryz.prog os um) ue fuel (World.laidAll_os _ _ _) gC df adm cM hx) ?_
 intro w tape i _ aaw _ ED hp _;obtain⟨_,_,_,VH,acJ,_,_,_,_,Hh⟩:=ED;have e:VH=fn:=aeE (acJ.symm.trans Wa);subst e;obtain⟨⟨⟨ds,gs,before,hw,hc⟩,hlm⟩,hz⟩:=hp;have Ni:=DataW.Whole.of_heap (w':=w.forCall tape i) zr hw;have hW:=Ni;obtain⟨p,q,hA,hV,rfl,_,_⟩:=Ni
 have jj:gs=[]/\q=[]:=by
  rw[Uk]at hV;obtain⟨rfl,rfl⟩:=trodVars_none hV;exact⟨rfl,rfl⟩
 obtain⟨rfl,rfl⟩:=jj;have Z3:DataW.TrodAll enc Tryz.prog (w.forCall tape i) 0 (λ_=>true) true VH.params.toList i.args.toList ds p:=hA
 have aN:∀x∈p,x.block<(w.forCall tape i).heap.size:=λx hx=>by simpa using hW.lt x (age _ hx)
 refine(nq (w.forCall tape i) w.heap.size i.args ds p ⟨aan aaw,Wp hlm⟩ Hh Z3).mono λe W' ⟨he,hb⟩=>?_
 subst he;show spec.post enc Tryz.checked.prog VH false true false false (w.forCall tape i).blind i.args (.bool true) W'.blind;refine ChangeSpec.post_blind (?_:spec.post enc Tryz.checked.prog VH false true false false (w.forCall tape i) i.args (.bool true) W')
 have VP:ds.length=VH.params.size:=by
  rw[uX Z3];simp
 refine⟨ds,[],p++[],[],p,[],hW,?_,?_,?_,hb.frame _,λh=>by cases h⟩
 .rw[afe,Qa ds VP,LW];exact trodAll_mk1 (shut_bool zk _)
 .rw[afe,Qa ds VP];exact wD hb ec Z3 aN
 .rw[afe,Qa ds VP,Uk]
  rfl
end Go.Proofs.YtajdcjkalbbogaaGreatDoor
namespace Go.Proofs.Tryz
open Go Go.AL Go.RowKit Go.Proofs Go.Proofs.Tram
attribute [local simp] aU bB bm aO aV aJ aK av az aW aw ao bO bP an ar ev aM.S aM.H bj aF bl AL.start AV.cells AV.storable AV.aZ aP bt bV bu HR.okB post bQ bG bH AV.out AV.aX aG aL fz cL AV.vw bT vI int a_ aq bD bq cd cj bZ bI aI AV.bC AV.dE
variable{GI:World->Prop}
def acf(hG:aQ GI)(s:bf)(hs:gY s):AC prog GI 24 [cH s] (.ret (.ea (yP s))):=by
 have qo:=tf hG s hs;have lZ:=E6 hG s hs
 rcases lW s with⟨hI,es,iG,ho⟩|⟨e,he,ho,C'⟩
 .rw[ho]at lZ;have hg:=i_ hI;have hc:=hg.cells
  have Qk:yP s=if(fl s).isEmpty then[.int .i64 0,.int .i64 0,.int .i64 5]else(match OZ s (dw s es)with|some q=>[.int .i64 (q.1:Nat),.int .i64 (q.2:Nat),.int .i64 0]|none=>[]):=by unfold yP;rw[if_pos hI,iG]<;>rfl
  rw[Qk];have hn:=mP hg (kZ hg.name iG);have hp:=PE hg es
  have hle:(dw s es).sum<=400:=by
   have hb:∀x∈dw s es,x<=81:=λx hx=>by
    obtain⟨i,hi,rfl⟩:=aew.1 hx
    exact(B7 hg (kZ hg.name iG) (by
     rw[lS (aeI.1 hi)]
     exact(o7 hg.name (ad2 _)).Ck)).2
   have h1:=Fl hb zd
   have h2:(dw s es).length<=4:=by
    have:=(ja hg.name).words;simp[dw];omega
   omega
  generalize dw s es=ba at lZ hn hp hle⊢;have h0:=nY hp;have LH:=Yc hG ba zo hn.1
  obtain⟨most,IL⟩:∃most,ba.sum.toNat=most:=⟨_,rfl⟩
  have xE:ba.sum=(most:Nat):=zo
  rw[xE]at LH
  have UF:most<=400:=zo
  have hvw:(bh s).map AV.dE=bh s:=by simp[bh,ai,AV.dE,vI]
  have abl:(cV s ba).map AV.dE=cV s ba:=by simp[cV,bh,ai,AV.dE,vI]
  have ac6:∀i:Nat,i<s.cells.length->AC prog GI 63 [.int .i64 ((most+1:Nat):Int),.func (.func 64) [] [.ref (bh s),.ref [.int .i64 (i:Nat)],.ref (cV s ba)]] (.ret (.int .i64 (jw s ba i:Nat))):=λi hi=>by
   have:=ack hG (n:=most+1) zo 64 (bh s) [.int .i64 (i:Nat)] (cV s ba) zk (NX hg hp i) (λy hy=>adx hG s hg ba hn hi (n:=y) zo) (Ep (rJ s ba i) (most+1));unfold jw;rw[IL];exact this
  have MD:=Tz hG s;have tX:=Yq hG s (ps:=fl s) (by have:=BP s;omega) (PM hG s hg);have tX:=AC.nB (o:=if(fl s).isEmpty then .nil else .view) tX;unfold OZ;rw[IL];refine dF hG func24 ntmps24 c24 ?_;refine aY (λS H=>S 1=.box 1 0/\H 1=some (bh s)) (by simp[cH,bh,ai]) ?_;rintro S H ⟨s1,h1⟩;refine aY (λS H=>S 1=.box 1 0/\H 1=some (bh s)/\S 5=.box 5 0/\H 5=some (cV s ba)/\S 6=.int .i64 0) ?_ ?_
  .simp[s1,h1,bh,ai];refine oc qo ?_;simp;refine oc lZ ?_;simp[s1,h1,eM,cV,bh,ai,cD]
  clear s1 h1 S H;rintro S H ⟨s1,h1,s5,h5,s6⟩;refine aY (λS H=>S 1=.box 1 0/\H 1=some (bh s)/\S 5=.box 5 0/\H 5=some (cV s ba)) (by simp[s1,h1,s5,h5,s6]) ?_;clear s1 h1 s5 h5 s6 S H;rintro S H ⟨s1,h1,s5,h5⟩;refine aY (λS H=>S 1=.box 1 0/\H 1=some (bh s)/\S 5=.box 5 0/\H 5=some (cV s ba)/\S 7=.int .i64 (most:Nat)) ?_ ?_
  .simp[s1,h1,s5,h5,cV,bh,ai];refine oc LH ?_;simp[s1,h1,s5,h5,cV,bh,ai]
  clear s1 h1 s5 h5 S H;rintro S H ⟨s1,h1,s5,h5,s7⟩;refine aY (λS H=>S 1=.box 1 0/\H 1=some (bh s)/\S 5=.box 5 0/\H 5=some (cV s ba)/\S 7=.int .i64 (most:Nat)/\S 8=.slice .nil []) (by simp[s1,h1,s5,h5,s7]) ?_;clear s1 h1 s5 h5 s7 S H;rintro S H ⟨s1,h1,s5,h5,s7,s8⟩;refine aY (λS H=>S 1=.box 1 0/\H 1=some (bh s)/\S 8=grow 103 (ct ((iC (jw s ba) most s.cells.length).map eG))) ?_ ?_
  .refine aY (λS H=>S 1=.box 1 0/\H 1=some (bh s)/\S 5=.box 5 0/\H 5=some (cV s ba)/\S 7=.int .i64 (most:Nat)/\S 8=.slice .nil []/\S 27=.int .i64 s.cells.length/\S 28=.int .i64 ((0:Nat):Int)) (by simp[s1,h1,s5,h5,s7,s8,bh,ai]) ?_;clear s1 h1 s5 h5 s7 s8 S H;rintro S H ⟨s1,h1,s5,h5,s7,s8,gR,xm⟩;refine cK 28 s.cells.length (λi S H=>S 1=.box 1 0/\H 1=some (bh s)/\S 5=.box 5 0/\H 5=some (cV s ba)/\S 7=.int .i64 (most:Nat)/\S 8=grow 103 (ct ((iC (jw s ba) most i).map eG))/\S 27=.int .i64 s.cells.length/\S 28=.int .i64 (i:Nat)) (λi S H h=>h.2.2.2.2.2.2.2) ⟨s1,h1,s5,h5,s7,by rw[s8]<;>rfl,gR,xm⟩ ?_;clear s1 h1 s5 h5 s7 s8 gR xm S H;rintro i hi S H ⟨s1,h1,s5,h5,s7,s8,gR,xm⟩
   by_cases aN:i<s.cells.length
   case neg=>
    have dV:i=s.cells.length:=zo
    subst dV;simp[s1,h1,s5,h5,s7,s8,gR,xm]
   have hw:IntKind.i64.wrap ((i:Int)+1)=i+1:=bU zo
   have mg:IntKind.i64.wrap ((most:Int)+1)=((most+1:Nat):Int):=by rw[bU zo];omega
   have yx:=Is (jw s ba) most i
   have hlen:(ct ((iC (jw s ba) most i).map eG)).length<=i:=by
    simp only[ct,aef];have:=ahI (λk=>if jw s ba k<=most then some (k,jw s ba k)else none) (List.range i);simpa[iC]using this
   have df:=vW ((iC (jw s ba) most i).map eG);have hh:=ac6 i aN
   have Y6:((most+1:Nat):Int)=(most:Int)+1:=zo
   rw[Y6]at hh mg;simp[s1,h1,s5,h5,s7,s8,gR,xm,aN,mg,hvw,abl];refine⟨_,zk,hh,λ_=>rfl,?_⟩
   by_cases A2:jw s ba i<=most
   .rw[if_pos A2]at yx
    have hE:ct ((iC (jw s ba) most (i+1)).map eG)=ct ((iC (jw s ba) most i).map eG)++[.agg [.int .i64 (i:Nat),.int .i64 (jw s ba i:Nat)]]:=by
     rw[yx,aeB];unfold ct
     rw[aeB]<;>rfl
    rw[hE];have k3:br 2 [AV.agg [.int .i64 (i:Nat),.int .i64 (jw s ba i:Nat)]]=true:=rfl;generalize ct ((iC (jw s ba) most i).map eG)=L at s8 hlen df⊢
    cases L with
    |nil=>
     have xn:grow 103 []=.slice .nil []:=rfl;simp[s1,h1,s5,h5,s7,s8,gR,xm,A2,xn,hw,cD,k3]
     try rfl
    |cons y L=>
     have xn:grow 103 (y::L)=.slice (.own 103) (y::L):=rfl
     have Wi:∀z,grow 103 (y::(L++[z]))=.slice (.own 103) (y::(L++[z])):=λ_=>rfl
     have pq:L.length+1+1<1048576:=by simp at hlen;omega
     simp[s1,h1,s5,h5,s7,s8,gR,xm,A2,xn,Wi,hw,cD,k3,df,pq]
   .rw[if_neg A2,afe]at yx;rw[yx]
    have hgl:∀L,grow 103 L=.slice (if L=[]then .nil else .own 103) L:=λ_=>rfl
    simp[s1,h1,s5,h5,s7,s8,gR,xm,A2,hw,hgl]
  .clear s1 h1 s5 h5 s7 s8 S H;rintro S H ⟨s1,h1,s8⟩
   cases hv:(fl s).isEmpty with
   |true=>
    have qy:fl s=[]:=by simpa using hv
    rw[qy]at tX;simp[s1,h1,bh,ai];refine oc MD ?_;simp;refine⟨_,zk,tX,by simp[bT,sW],?_⟩;simp
   |false=>
    have qy:fl s≠[]:=by intro h;rw[h]at hv;cases hv
    have vB:(((fl s).length:Int)==0)=false:=by
     have:(fl s).length≠0:=λh=>qy (aeT h)
     rw[aeO];omega
    obtain⟨c,q1,q2⟩:=PV hg hp hv;rw[IL]at q2;obtain⟨x,l,Ir⟩:=Pl (p:=rJ s ba) (f:=jw s ba) (most:=most) (m:=s.cells.length) (λj _=>by unfold jw;rw[IL];exact Ep _ _) q1 (aed _) q2
    have qA:=adt hG (eG x) (l.map eG) (by
     have h1:=congrArg List.length Ir;have:=ahI (λk=>if jw s ba k<=most then some (k,jw s ba k)else none) (List.range s.cells.length);simp[iC]at h1 this
     simp;omega)
    rw[zV]at qA
    have eu:eG x::l.map eG=(iC (jw s ba) most s.cells.length).map eG:=by rw[Ir]<;>rfl
    have iz:grow 103 (ct ((iC (jw s ba) most s.cells.length).map eG))=.slice (.own 103) (ct ((iC (jw s ba) most s.cells.length).map eG)):=by rw[Ir]<;>rfl
    rw[iz]at s8;rw[eu]at qA;rw[Ir];generalize ct ((iC (jw s ba) most s.cells.length).map eG)=L at s8 qA
    obtain⟨q,hq⟩:∃q,tC x l=q:=⟨_,rfl⟩
    rw[hq]at qA;simp[s1,h1,s8,bh,ai];refine oc MD ?_;simp[s8];refine⟨_,zk,tX,by simp[bT,sW],?_⟩;simp[s8,qy,vB,ct];refine oc qA ?_;simp[dz,eG,cD,hq]
 .rw[ho]at lZ
  have Da:yP s=[.int .i64 0,.int .i64 0,.int .i64 e]:=by
   rcases vE s e he ho with⟨h1,rfl⟩|⟨h1,h2,rfl⟩
   .simp[yP,h1]
   .simp[yP,h1,h2]
  rw[Da]
  have pF:(e !=0)=true:=by simpa using he
  refine dF hG func24 ntmps24 c24 ?_;simp[c24,cH,bh,ai];refine oc qo ?_;simp;refine oc lZ ?_;simp[eM,cV,bh,ai,zT,cD,he,pF]
def lQ(s p:List UInt8):Bool:=decide (p.length<=s.length)&&(s.take p.length==p)
def tH{s p:List UInt8}:lQ s p=true↔∃u,s=p++u:=by
 unfold lQ;rw[aeb,aej,aeS]
 constructor
 .rintro⟨h1,h2⟩;exact⟨s.drop p.length,by conv=>lhs;rw[<-afa p.length s,h2]⟩
 .rintro⟨u,rfl⟩;simp
def Zk(hG:aQ GI)(s p:List UInt8):AC prog GI 126 [.str s,.str p] (.ret (.bool (lQ s p))):=by
 unfold lQ;refine dF hG func126 ntmps126 c126 ?_
 by_cases h:p.length<=s.length
 .simp[c126,h,bound]
 .simp[c126,h,bound]
def Yk(hG:aQ GI)(s p:List UInt8):AC prog GI 89 [.str s,.str p] (.ret (.bool (lQ s p))):=by
 have a:=Zk (GI:=GI) hG s p
 generalize lQ s p=b at*
 refine dF hG func89 ntmps89 c89 ?_;simp[c89];refine oc a ?_;simp
def Ua:List UInt8:=[101,110,100,32]
def gV(s:List UInt8):Bool:=lQ s Ua
def ady(hG:aQ GI)(s:List UInt8):AC prog GI 88 [.str s] (.ret (.bool (gV s))):=by
 have a:AC prog GI 89 [.str s,.str [101,110,100,32]] (.ret (.bool (gV s))):=Yk (GI:=GI) hG s Ua
 generalize gV s=b at*
 refine dF hG func88 ntmps88 c88 ?_;simp[c88];refine oc a ?_;simp
def abu(hG:aQ GI)(l:List (List UInt8))(hl:l.length<1000000):AC prog GI 87 [strs l,.func (.func 88) [] []] (.ret (.int .i64 (firstT gV l))):=by
 refine dF hG func87 ntmps87 c87 ?_;simp[c87,strs];refine cK 8 l.length (λi S H=>S 0=strs l/\S 1=_/\S 7=.int .i64 l.length/\S 8=.int .i64 (i:Nat)/\∀j (hj:j<l.length),j<i->gV l[j]=false) (λi S H h=>h.2.2.2.1) ⟨by simp[strs],by simp<;>rfl,ah7,ah7,λj _ h=>absurd h (ahi _)⟩ ?_;rintro i hi S H ⟨s0,s1,s7,s8,hb⟩
 by_cases aN:i<l.length
 .have hw:IntKind.i64.wrap ((i:Int)+1)=i+1:=bU zo;have hx:=ady (GI:=GI) hG l[i];cases hp:gV l[i]
  .simp[s0,s1,s7,s8,aN,strs];refine oc hx ?_;simp[s0,s1,s7,s8,aN,hp,hw,strs];intro j hj gL
   by_cases Ee:j=i
   .subst Ee;exact hp
   .exact hb j hj zo
  .simp[s0,s1,s7,s8,aN,strs];refine oc hx ?_;simp[s0,s1,s7,s8,aN,hp,hw];exact nP aN hp hb
 .have dV:i=l.length:=zo
  subst dV;simp[s0,s1,s7,s8]
  exact lC λj hj=>hb j hj hj
def xf{s:bf}(h:eb s=true):cN s.name=true:=by
 unfold eb at h;rw[aeb]at h;exact h.2
def GS{s:bf}(h:eb s=true):kH s:=by
 unfold eb kK ee at h;simp only[aeb,aej,ae_,ae9]at h;obtain⟨⟨⟨⟨⟨⟨⟨h1,h2⟩,hc⟩,h3⟩,h4⟩,h5⟩,h6⟩,_⟩:=h;refine⟨?_,λc wP=>?_⟩
 .intro n hn;simp only[fm,aeD,ae1,agF]at hn
  rcases hn with rfl|rfl|rfl|rfl<;>exact⟨zo,zo⟩
 .have:=hc c wP;simp at this;exact⟨⟨zo,zo⟩,⟨zo,zo⟩⟩
def WL(hG:aQ GI)(hT:TB GI)(s:bf)(hs:gY s)(h:eb s=true)(hl:(iB s).length<1000000):AC prog GI 8 [cH s] (.ret (.ea [.str (iB s),.int .i64 0])):=by
 have a:=tf hG s hs;rw[h]at a;have b:=Vu hG hT s.name hs.name (xf h)
 have c:=X3 hG s (GS h) (by
  unfold eb ee at h;simp only[aeb,aej]at h
  omega)
 unfold iB at hl⊢;rw[aeu]at hl
 generalize fb s.name=t at*
 generalize eS s=x at*
 have hl:x.length+t.length<1073741824:=zo
 refine dF hG func8 ntmps8 c8 ?_;simp[c8,cH,bh,ai];refine⟨_,zk,a,λ_=>rfl,?_⟩;simp;refine oc b ?_;simp;refine oc c ?_;simp[hl]
end Go.Proofs.Tryz
namespace Go.Proofs.Tryz
open Go Go.AL Go.RowKit Go.Proofs Go.Proofs.Tram
attribute [local simp] aU bB fT fu aV aJ aK av az aW aw ao bO bP an ar ev aM.S aM.H bj aF bl AL.start AV.cells AV.storable AV.aZ aP bt bV bu HR.okB post bQ bG bH AV.out AV.aX aG aL fz cL AV.vw bT vI int a_ aq bD bq cd cj bZ bI aI cm ck aT
variable{GI:World->Prop}
def eC:bf:=⟨[],0,0,0,0,cn⟩
def vY:List UInt8:=[121,101,115]
def qx(x:bf)(r:List UInt8):Except (List UInt8) bf:=match bL 32 r with
 |[_,a,b,c,d]=>c_ (ft a) λa=>c_ (ft b) λb=>c_ (ft c) λc=>c_ (ft d) λd=>.ok { x with pos:=a,reach:=b,fh:=c,eF:=d }
 |_=>.error r
def qj(x:bf)(r:List UInt8):Except (List UInt8) bf:=match bL 32 r with
 |[_,a,b,c]=>c_ (ft a) λa=>c_ (ft b) λb=>.ok { x with cells:=x.cells++[⟨a,b,c==vY⟩] }
 |_=>.error r
def gW(x:Nat×bf)(r:List UInt8):Except (List UInt8) (Nat×bf):=
 if x.1=0 then c_ (qx x.2 r) λy=>.ok (1,y)else c_ (qj x.2 r) λy=>.ok (x.1+1,y)
def kn(t:List UInt8):Except (List UInt8) (bf×List UInt8):=
 if firstT gV (bL 10 t)<=0 then .error t
 else c_ (dO gW (0,eC) ((bL 10 t).take (firstT gV (bL 10 t)).toNat)) λx=>if lQ t (eS x.2)then .ok (x.2,t.drop (eS x.2).length)else .error t
def Ut:Except (List UInt8) (bf×List UInt8)->jr
 |.ok x=>.ret (.ea [cH x.1,.str x.2])
 |.error e=>.panic (mo e)
def O2{x:bf}{r:List UInt8}(h:(bL 32 r).length≠5):qx x r=.error r:=by
 unfold qx;split
 .rename_i hh;rw[hh]at h;exact absurd rfl h
 .rfl
def Qn{x:bf}{r:List UInt8}(h:(bL 32 r).length≠4):qj x r=.error r:=by
 unfold qj;split
 .rename_i hh;rw[hh]at h;exact absurd rfl h
 .rfl
def aa8{α:Type}{l:List α}(h:l.length=5):∃a b c d e,l=[a,b,c,d,e]:=by
 match l,h with
 |[a,b,c,d,e],_=>exact⟨a,b,c,d,e,rfl⟩
def JO{α:Type}{l:List α}(h:l.length=4):∃a b c d,l=[a,b,c,d]:=by
 match l,h with
 |[a,b,c,d],_=>exact⟨a,b,c,d,rfl⟩
def gM{w:List UInt8}{n:Int}(h:ft w=.ok n):gB n:=by
 unfold ft at h;split at h
 .rename_i hw;cases h;obtain⟨_,h2,h3,_⟩:=mO.1 hw;exact qK w h3 h2
 .cases h
def tW(x:bf):List AV:=[grow 67 (x.cells.map gD),.int .i64 x.pos,.int .i64 x.reach,.int .i64 x.fh,.int .i64 x.eF,.slice .nil [],.slice .nil [],.int .i64 0,.int .i64 0,.int .i64 0,.int .i64 0,.int .i64 0,.slice .nil [],.int .i64 0,.int .i64 0]
def Qy(l:List fC):br 3 (l.map gD)=true:=iJ λa=>⟨rfl,rfl⟩
structure wg(t:List UInt8)(L:List (List UInt8))(j:Nat)(x:bf)(S:au)(H:aD):Prop where
 s0:S 0=.str t
 s2:S 2=.box 2 0
 e2:H 2=some (tW eC)
 s6:S 6=.box 6 0
 e6:H 6=some (tW x)
 jH:S 21=strs L
 lx:S 22=.int .i64 (L.length:Nat)
 jU:S 23=.int .i64 (j:Nat)
structure OA(j:Nat)(x:bf):Prop where
 num:kH x
 Oc:x.cells.length<=j
 name:x.name=cn
noncomputable def sr:ah:=ah.qb c42.qb.qb.qb.qb.qb.qa.qb.qb
noncomputable def sZ:ah:=ah.qb sr.qb.qb.qa
noncomputable def vm:ah:=ah.qb sZ.qb
noncomputable def vh:ah:=ah.qa vm.qa.qb
noncomputable def yM:List db:=vh.qb.qa.dl
noncomputable def DW:List db:=vm.qb.qb.dl
def ab0(hG:aQ GI)(qD:ML GI)(t:List UInt8)(ht:t.length<=530):AC prog GI 42 [.str t] (Ut (kn t)):=by
 have xw:=fZ 10 t
 have zU:∀p∈bL 10 t,p.length<=530:=λp hp=>by have:=fc hp;omega
 have a164:=La qD t 10 zo;have G4:=abu (GI:=GI) hG (bL 10 t) zo
 have rI:firstT gV (bL 10 t)<=(bL 10 t).length:=by
  unfold firstT;split
  .have:=List.findIdx_le_length (p:=gV) (xs:=bL 10 t);omega
  .omega
 have Wa: -1<=firstT gV (bL 10 t):=by unfold firstT;split<;>omega
 refine AC.j7 func42 rfl ntmps42 ah7 λcc w=>?_
 refine eR hG c42.qa (λS' H'=>S' 0=.str t/\S' 2=.box 2 0/\H' 2=some (tW eC)) ?_ ?_
 .simp[c42,ah.qa,af,ae,tW,eC,grow]
 rintro S H ⟨s0,s2,e2⟩;refine eR hG c42.qb.qa (λS' H'=>S' 0=.str t/\S' 2=.box 2 0/\H' 2=some (tW eC)/\S' 4=strs (bL 10 t)) ?_ ?_
 .simp[c42,ah.qa,ah.qb,af,ae,s0,s2,e2];refine oc a164 ?_;simp[af,ae,s0,s2,e2,strs]
 clear s0 s2 e2 S H;rintro S H ⟨s0,s2,e2,s4⟩
 have Fm:kn t=if firstT gV (bL 10 t)<=0 then .error t
 else c_ (dO gW (0,eC) ((bL 10 t).take (firstT gV (bL 10 t)).toNat)) λx=>if lQ t (eS x.2)then .ok (x.2,t.drop (eS x.2).length)else .error t:=rfl
 rw[Fm]
 generalize bL 10 t=R at*
 generalize firstT gV R=f at*
 refine eR hG c42.qb.qb.qa (λS' H'=>S' 0=.str t/\S' 2=.box 2 0/\H' 2=some (tW eC)/\S' 4=strs R/\S' 5=.int .i64 f) ?_ ?_
 .simp[c42,ah.qa,ah.qb,af,ae,s0,s2,e2,s4,strs];refine oc G4 ?_;simp[af,ae,s0,s2,e2,s4,strs]
 clear s0 s2 e2 s4 S H;rintro S H ⟨s0,s2,e2,s4,s5⟩
 by_cases h0:f<=0
 .rw[if_pos h0]
  have aN:¬0<f:=zo
  refine SW.seq (SW.gO hG d_ zk (λ_ _ h=>h) (ac:=ah.qa c42.qb.qb.qb) zk ?_);unfold fG.cW;simp[c42,ah.qa,ah.qb,af,ae,s0,s5,aN];refine oc (Ei hG t) ?_;simp[fB,thenS,pz,Ut,mo]
  first|exact⟨rfl,rfl⟩|exact⟨rfl,rfl,rfl⟩
 rw[if_neg h0]
 have aN:0<f:=zo
 refine eR hG c42.qb.qb.qb.qa (λS' H'=>S' 0=.str t/\S' 2=.box 2 0/\H' 2=some (tW eC)/\S' 4=strs R/\S' 5=.int .i64 f) ?_ ?_
 .simp[c42,ah.qa,ah.qb,af,ae,s0,s5,aN];refine oc (KU hG t) ?_;simp[af,ae,s0,s2,e2,s4,s5,strs]
 clear s0 s2 e2 s4 s5 S H;rintro S H ⟨s0,s2,e2,s4,s5⟩;refine eR hG c42.qb.qb.qb.qb.qa (λS' H'=>S' 0=.str t/\S' 2=.box 2 0/\H' 2=some (tW eC)/\S' 4=strs R/\S' 5=.int .i64 f/\S' 6=.box 6 0/\H' 6=some (tW eC)) ?_ ?_
 .simp[c42,ah.qa,ah.qb,af,ae,s0,s2,e2,s4,s5,strs,tW,eC,grow]
 clear s0 s2 e2 s4 s5 S H;rintro S H ⟨s0,s2,e2,s4,s5,s6,e6⟩
 obtain⟨n,rfl⟩:∃n:Nat,f=n:=⟨f.toNat,zo⟩
 obtain⟨L,hL⟩:∃L,R.take n=L:=⟨_,rfl⟩
 have N1:L.length=n:=by rw[<-hL,aes];omega
 have NR:∀p∈L,p.length<=530:=λp hp=>zU p (by rw[<-hL]at hp;exact aeL hp)
 rw[Int.toNat_natCast,hL];show SW prog GI 94 none (.seq (.seq _ (.block 0 (.loop _))) (.seq _ (.seq _ (.seq _ .ret)))) _ _ _ _;refine SW.seq (eR hG c42.qb.qb.qb.qb.qb.qa.qa (wg t L 0 eC) ?_ ?_)
 .have Q5:(R.map AV.str).take n=L.map AV.str:=by rw[<-af1,hL]
  have hnR:(n:Int)<=R.length:=zo
  have abF:n<=R.length:=zo
  simp[c42,ah.qa,ah.qb,af,ae,s0,s2,e2,s4,s5,s6,e6,strs,hnR,abF,Q5,bound,fN];exact⟨by simp[af,ae,s0],by simp[af,ae,s2],by simp[af,ae,e2],by simp[af,ae,s6],by simp[af,ae,e6],by simp[af,ae,strs,Q5],by simp[af,ae,N1],by simp[af,ae]⟩
 clear s0 s2 e2 s4 s5 s6 e6 S H;intro S H hI
 have du:∀d,¬(Old.plain cc w).bx d:=λ_ h=>h
 refine SW.block (SW.loop (λo S' H'=>o=Old.plain cc w/\∃j x,j<=L.length/\dO gW (0,eC) (L.take j)=.ok (j,x)/\OA j x/\wg t L j x S' H') (λS' _=>match S' 23 with|.int _ j=>L.length-j.toNat|_=>0) ⟨rfl,0,eC,ae2 _,rfl,⟨⟨λn hn=>by simp[fm,eC]at hn;rcases hn with rfl|rfl|rfl|rfl<;>exact⟨zd,zd⟩,by simp[eC]⟩,ae2 _,rfl⟩,hI⟩ ?_);clear hI S H;rintro o S H ⟨rfl,j,x,hj,hf,df,hI⟩;have m23:=hI.jU;show SW prog GI 94 none (.seq _ (.seq (.cond _ _ _) (.seq (.block 1 _) _))) _ _ _ _;refine qY hG sr.qa (λd _=>du d) (λS' H'=>S' 24=.bool (decide (j<L.length))/\wg t L j x S' H') ?_ ?_
 .obtain⟨s0,s2,e2,s6,e6,jH,lx,jU⟩:=hI;simp[c42,sr,ah.qa,ah.qb,af,ae,lx,jU];exact⟨by simp[af,ae,s0],by simp[af,ae,s2],e2,by simp[af,ae,s6],e6,by simp[af,ae,jH],by simp[af,ae,lx],by simp[af,ae,jU]⟩
 clear hI;rintro S H ⟨sX,hI⟩
 by_cases aN:j<L.length
 case neg=>
  have rD:j=L.length:=zo
  rw[rD,aee (aed _)]at hf;rw[hf];refine SW.seq (SW.cond rfl false (by show S 24=_;rw[sX];simp[aN]) (SW.exit ?_));show SW prog GI 94 none (.seq _ (.seq _ (.seq _ .ret))) _ _ _ _;have Ys:=X3 (GI:=GI) hG x df.num (by have:=df.Oc;omega);have Db:=df.name;obtain⟨s0,s2,e2,s6,e6,jH,lx,jU⟩:=hI
  obtain⟨u,hu⟩:∃u,eS x=u:=⟨_,rfl⟩
  have Ek:lQ t u=true->u.length<=t.length:=λh=>by unfold lQ at h;rw[aeb,aej]at h;exact h.1
  simp only[c_,hu];rw[hu]at Ys;refine qY hG c42.qb.qb.qb.qb.qb.qb.qa (λd _=>du d) (λS' H'=>S' 0=.str t/\S' 2=.box 2 0/\H' 2=some (tW eC)/\S' 6=.box 6 0/\H' 6=some (tW x)/\S' 10=.str u) ?_ ?_
  .simp[c42,ah.qa,ah.qb,af,ae,s6,e6,tW];refine oc (by simpa[cH,bh,ai,Db,cn,vI,ints]using Ys) ?_;simp[af,ae,s0,s2,e2,s6,e6,tW]
  clear s0 s2 e2 s6 e6 jH lx jU sX m23 S H;rintro S H ⟨s0,s2,e2,s6,e6,cE⟩;have a167:=Yk (GI:=GI) hG t u;cases hp:lQ t u
  .rw[hp]at a167;refine SW.seq (SW.gO hG d_ zk (λd _=>du d) (ac:=ah.qa c42.qb.qb.qb.qb.qb.qb.qb) zk ?_);unfold fG.cW;simp[c42,ah.qa,ah.qb,af,ae,s0,cE];refine oc a167 ?_;simp[af,ae,s0];refine oc (Ei hG t) ?_;simp[fB,thenS,pz,Ut,mo]
   first|exact⟨rfl,rfl⟩|exact⟨rfl,rfl,rfl⟩
  rw[hp]at a167;have Ek:=Ek hp;refine qY hG c42.qb.qb.qb.qb.qb.qb.qb.qa (λd _=>du d) (λS' H'=>S' 0=.str t/\S' 2=.box 2 0/\H' 2=some (tW eC)/\S' 6=.box 6 0/\H' 6=some (tW x)/\S' 10=.str u) ?_ ?_
  .simp[c42,ah.qa,ah.qb,af,ae,s0,cE];refine oc a167 ?_;simp[af,ae,s0];refine oc (KU hG t) ?_;simp[af,ae,s0,s2,e2,s6,e6,cE]
  clear s0 s2 e2 s6 e6 cE S H;rintro S H ⟨s0,s2,e2,s6,e6,cE⟩;refine qY hG c42.qb.qb.qb.qb.qb.qb.qb.qb.qa (λd _=>du d) (λS' H'=>S' 2=.box 2 0/\H' 2=some ((tW x).map AV.bC)/\S' 3=.str (t.drop u.length)) ?_ ?_
  .simp[c42,ah.qa,ah.qb,af,ae,s0,s2,e2,s6,e6,cE,tW,bound,Ek]
  clear s0 s2 e2 s6 e6 cE S H;rintro S H ⟨s2,e2,s3⟩;obtain⟨i31,lJ,lR⟩:=iZ 31 15;obtain⟨fs,fw⟩:=uZ 31;refine SW.ret ⟨e_.plain rfl,rfl,.ea [cH x,.str (t.drop u.length)],?_,rfl⟩;show bQ prog 94 [.cell 2 31,_] S H=_;simp[bQ,bG,bH,s2,e2,s3,lJ,fw,lR,bu,ef,tW,AV.out,aT,AV.aX,AV.vw,ck,cm,cH,bh,Db,cn,ai,vI,ints]
 case pos=>
  obtain⟨r,hr⟩:∃r,L[j]=r:=⟨_,rfl⟩
  have xl:r.length<=530:=by rw[<-hr];exact NR _ (ad2 aN)
  have VQ:=La qD r 32 zo;refine SW.seq (SW.cond rfl true (by show S 24=_;rw[sX];simp[aN]) (SW.skip ?_));clear sX;show SW prog GI 94 none (.seq (.block 1 (.seq _ (.seq _ (.seq (.seq _ (.cond _ (.seq _ (.seq _ (.exit 1))) .skip)) (.seq _ _))))) _) _ _ _ _;refine SW.seq (SW.block (qY hG sZ.qa (λd _=>du d) (λS' H'=>S' 7=.int .i64 (j:Nat)/\S' 8=.str r/\wg t L j x S' H') ?_ ?_))
  .obtain⟨s0,s2,e2,s6,e6,jH,lx,jU⟩:=hI;simp[c42,sr,sZ,ah.qa,ah.qb,af,ae,jH,jU,strs,aN,hr];exact⟨by simp[af,ae,s0],by simp[af,ae,s2],e2,by simp[af,ae,s6],e6,by simp[af,ae,jH,strs],by simp[af,ae,lx],by simp[af,ae,jU]⟩
  clear hI;rintro S H ⟨s7,s8,hI⟩
  obtain⟨ws,xp⟩:∃ws,bL 32 r=ws:=⟨_,rfl⟩
  have Ec:∀p∈ws,p.length<1000000:=λp hp=>by have:=fc (c:=32) (l:=r) (p:=p) (by rw[xp];exact hp);omega
  rw[xp]at VQ;refine qY hG sZ.qb.qa (λd _=>du d) (λS' H'=>S' 7=.int .i64 (j:Nat)/\S' 8=.str r/\S' 9=strs ws/\wg t L j x S' H') ?_ ?_
  .obtain⟨s0,s2,e2,s6,e6,jH,lx,jU⟩:=hI;simp[c42,sr,sZ,ah.qa,ah.qb,af,ae,s8];refine oc VQ ?_;simp[af,ae,s7,s8,strs];exact⟨by simp[af,ae,s0],by simp[af,ae,s2],e2,by simp[af,ae,s6],e6,by simp[af,ae,jH,strs],by simp[af,ae,lx],by simp[af,ae,jU]⟩
  clear hI s7 s8 S H;rintro S H ⟨s7,s8,s9,hI⟩;refine SW.mono (Q:=λe o S' H'=>o=Old.plain cc w/\match e with|.normal=>∃y,gW (j,x) r=.ok (j+1,y)/\OA (j+1) y/\wg t L j y S' H'|.exit i=>i=1/\∃y,gW (j,x) r=.ok (j+1,y)/\OA (j+1) y/\wg t L j y S' H'|.panic v=>∃er,gW (j,x) r=.error er/\v=mo er|_=>False) ?_ ?_
  .rintro e o S' H' ⟨rfl,h⟩;cases e
   case panic v=>
    obtain⟨er,he,rfl⟩:=h;have eB:=si aN hf (by rw[hr];exact he);rw[eB];exact⟨rfl,rfl,rfl⟩
   case ret=>exact h.elim
   case' exit id=>obtain⟨rfl,h⟩:=h
   all_goals
    obtain⟨y,hy,hk,hI⟩:=h;have rG:=wO aN hf;rw[hr,hy]at rG;show SW prog GI 94 none _ _ _ _ _;refine SW.gO hG d_ zk (λd _=>du d) (ac:=ah.qb sr.qb.qb) zk ?_;unfold fG.cW;obtain⟨s0,s2,e2,s6,e6,jH,lx,jU⟩:=hI;have qU:IntKind.i64.wrap ((j:Int)+1)=j+1:=bU zo;simp[c42,sr,sZ,ah.qa,ah.qb,af,ae,jU,qU,thenS];refine⟨⟨j+1,zo,y,rG,hk,by simp[af,ae,s0],by simp[af,ae,s2],e2,by simp[af,ae,s6],e6,by simp[af,ae,jH],by simp[af,ae,lx],by simp[af,ae]⟩,?_⟩;rw[m23];show L.length-((j:Int)+1).toNat<L.length-(j:Int).toNat;omega
  show SW prog GI 94 none (.seq (.seq _ (.cond _ (.seq _ (.seq _ (.exit 1))) .skip)) (.seq _ _)) _ _ _ _;refine SW.seq (qY hG vm.qa.qa (λd _=>du d) (λS' H'=>S' 31=.bool (decide (j=0))/\S' 8=.str r/\S' 9=strs ws/\wg t L j x S' H') ?_ ?_)
  .obtain⟨s0,s2,e2,s6,e6,jH,lx,jU⟩:=hI
   have hjz:((j:Int)==0)=decide (j=0):=by rw[aeW];simp
   simp[c42,sr,sZ,vm,ah.qa,ah.qb,af,ae,s7,s8,s9,hjz,strs];exact⟨by simp[af,ae,s0],by simp[af,ae,s2],e2,by simp[af,ae,s6],e6,by simp[af,ae,jH,strs],by simp[af,ae,lx],by simp[af,ae,jU]⟩
  clear hI s7 s8 s9 S H;rintro S H ⟨ko,s8,s9,hI⟩
  by_cases hz:j=0
  case pos=>
   have eB:gW (j,x) r=c_ (qx x r) λy=>.ok (j+1,y):=by unfold gW;rw[if_pos hz,hz]
   rw[eB];refine SW.cond rfl true (by show S 31=_;rw[ko];simp[hz]) ?_;show SW prog GI 94 none (.seq _ (.seq _ (.exit 1))) _ _ _ _
   by_cases h5:ws.length=5
   case neg=>
    rw[O2 (by rw[xp];exact h5)]
    have h5b:((ws.length:Int)==5)=false:=by simp;omega
    refine SW.seq (SW.gO hG d_ zk (λd _=>du d) (ac:=ah.qa vh) zk ?_);unfold fG.cW;simp[c42,sr,sZ,vm,vh,ah.qa,ah.qb,af,ae,s8,s9,strs,h5b];refine oc (Ei hG r) ?_;simp[fB,thenS,c_,mo]
    try first|exact⟨rfl,rfl⟩|rfl|exact⟨rfl,rfl,rfl⟩
   obtain⟨w0,wa,wb,wc,wd,rfl⟩:=aa8 h5
   have hhx:qx x r=c_ (ft wa) λa=>c_ (ft wb) λb=>c_ (ft wc) λc=>c_ (ft wd) λd=>.ok { x with pos:=a,reach:=b,fh:=c,eF:=d }:=by unfold qx;rw[xp]
   rw[hhx];refine qY hG vh.qa (λd _=>du d) (λS' H'=>S' 9=strs [w0,wa,wb,wc,wd]/\wg t L j x S' H') ?_ ?_
   .obtain⟨s0,s2,e2,s6,e6,jH,lx,jU⟩:=hI;simp[c42,sr,sZ,vm,vh,ah.qa,ah.qb,af,ae,s8,s9,strs];refine oc (KU hG r) ?_;simp[af,ae,s9,strs];exact⟨by simp[af,ae,s0],by simp[af,ae,s2],e2,by simp[af,ae,s6],e6,by simp[af,ae,jH,strs],by simp[af,ae,lx],by simp[af,ae,jU]⟩
   clear hI ko s8 s9 S H;rintro S H ⟨s9,hI⟩;have n1:=Hp (GI:=GI) hG wa (Ec _ ah7);have n2:=Hp (GI:=GI) hG wb (Ec _ ah7);have n3:=Hp (GI:=GI) hG wc (Ec _ ah7);have n4:=Hp (GI:=GI) hG wd (Ec _ ah7);refine SW.seq (SW.JJ hG d_ [3,7,11,15] [0,1,2,4,5,6,8,9,10,12,13,14,3,16,7,11,15,17,18,19,20,21,22,23] zk zk (l:=yM) zk ((yM.take 3++(yM.drop 4).take 3++(yM.drop 8).take 3++(yM.drop 12).take 3).map (λo=>(false,o))++((true,⟨some 40,none,.call 91 [.t 39]⟩)::(false,⟨some 53,none,.fieldAddr 1 (.t 6)⟩)::(true,⟨some 44,none,.call 91 [.t 43]⟩)::(true,⟨some 48,none,.call 91 [.t 47]⟩)::(true,⟨some 52,none,.call 91 [.t 51]⟩)::(yM.drop 17).map λo=>(false,o))) zk ?_);refine mq _ (rB (K:=λS' H'=>S' 39=.str wa/\S' 43=.str wb/\S' 47=.str wc/\S' 51=.str wd/\wg t L j x S' H') ?_ _ _ _ ?_)
   case refine_2=>
    obtain⟨s0,s2,e2,s6,e6,jH,lx,jU⟩:=hI;simp[c42,sr,sZ,vm,vh,yM,ah.qa,ah.qb,ah.dl,af,ae,s6,s9,strs,fN];exact⟨by simp[af,ae,s0],by simp[af,ae,s2],e2,by simp[af,ae,s6],e6,by simp[af,ae,jH,strs],by simp[af,ae,lx],by simp[af,ae,jU]⟩
   clear hI s9;rintro S2 H2 ⟨F5,s43,BI,s51,hI⟩;refine ki (by simp[af,ae,F5]) zk (by simpa[af,ae,F5]using n1) ?_
   cases e1:ft wa with
   |error er=>exact⟨rfl,er,rfl,rfl⟩
   |ok v1=>
   simp only[vc];refine mq [⟨some 53,none,.fieldAddr 1 (.t 6)⟩] ?_;simp[af,ae,hI.s6];refine ki (by simp[af,ae,s43]) zk (by simpa[af,ae,s43]using n2) ?_
   cases e2:ft wb with
   |error er=>exact⟨rfl,er,rfl,rfl⟩
   |ok v2=>
   simp only[vc];refine ki (by simp[af,ae,BI]) zk (by simpa[af,ae,BI]using n3) ?_
   cases e3:ft wc with
   |error er=>exact⟨rfl,er,rfl,rfl⟩
   |ok v3=>
   simp only[vc];refine ki (by simp[af,ae,s51]) zk (by simpa[af,ae,s51]using n4) ?_
   cases e4:ft wd with
   |error er=>exact⟨rfl,er,rfl,rfl⟩
   |ok v4=>
   simp only[vc];obtain⟨s0,s2,e2,s6,e6,jH,lx,jU⟩:=hI;refine uG [⟨none,none,.store (.box 6) 1 (.t 53) (.t 40)⟩,⟨some 54,none,.fieldAddr 2 (.t 6)⟩,⟨none,none,.store (.box 6) 1 (.t 54) (.t 44)⟩,⟨some 55,none,.fieldAddr 3 (.t 6)⟩,⟨none,none,.store (.box 6) 1 (.t 55) (.t 48)⟩,⟨some 56,none,.fieldAddr 4 (.t 6)⟩,⟨none,none,.store (.box 6) 1 (.t 56) (.t 52)⟩] ?_;simp[af,ae,s6,e6,tW];show SW prog GI 94 none (.exit 1) _ _ _ _;refine SW.exit ⟨rfl,rfl,_,rfl,⟨⟨?_,df.num.cells⟩,by have:=df.Oc;show x.cells.length<=_;omega,df.name⟩,⟨by simp[af,ae,s0],by simp[af,ae,s2],by simp[af,ae,e2],by simp[af,ae,s6],by simp[af,ae,e6,tW],by simp[af,ae,jH,strs],by simp[af,ae,lx],by simp[af,ae,jU]⟩⟩;intro n hn;simp only[fm,aeD,ae1,agF]at hn;rcases hn with rfl|rfl|rfl|rfl
   .exact gM e1
   .exact gM (by assumption)
   .exact gM (by assumption)
   .exact gM (by assumption)
  case neg=>
   have eB:gW (j,x) r=c_ (qj x r) λy=>.ok (j+1,y):=by unfold gW;rw[if_neg hz]
   rw[eB];refine SW.cond rfl false (by show S 31=_;rw[ko];simp[hz]) (SW.skip ?_);show SW prog GI 94 none (.seq _ _) _ _ _ _
   by_cases h4:ws.length=4
   case neg=>
    rw[Qn (by rw[xp];exact h4)]
    have h4b:((ws.length:Int)==4)=false:=by simp;omega
    refine SW.seq (SW.gO hG d_ zk (λd _=>du d) (ac:=ah.qa vm.qb) zk ?_);unfold fG.cW;simp[c42,sr,sZ,vm,vh,ah.qa,ah.qb,af,ae,s8,s9,strs,h4b];refine oc (Ei hG r) ?_;simp[fB,thenS,c_,mo]
    try first|exact⟨rfl,rfl⟩|rfl|exact⟨rfl,rfl,rfl⟩
   obtain⟨w0,wa,wb,wc,rfl⟩:=JO h4
   have hhx:qj x r=c_ (ft wa) λa=>c_ (ft wb) λb=>.ok { x with cells:=x.cells++[⟨a,b,wc==vY⟩] }:=by unfold qj;rw[xp]
   rw[hhx];refine qY hG vm.qb.qa (λd _=>du d) (λS' H'=>S' 9=strs [w0,wa,wb,wc]/\wg t L j x S' H') ?_ ?_
   .obtain⟨s0,s2,e2,s6,e6,jH,lx,jU⟩:=hI;simp[c42,sr,sZ,vm,vh,ah.qa,ah.qb,af,ae,s8,s9,strs];refine oc (KU hG r) ?_;simp[af,ae,s9,strs];exact⟨by simp[af,ae,s0],by simp[af,ae,s2],e2,by simp[af,ae,s6],e6,by simp[af,ae,jH,strs],by simp[af,ae,lx],by simp[af,ae,jU]⟩
   clear hI ko s8 s9 S H;rintro S H ⟨s9,hI⟩;have n1:=Hp (GI:=GI) hG wa (Ec _ ah7);have n2:=Hp (GI:=GI) hG wb (Ec _ ah7)
   obtain⟨bb,mM⟩:∃bb,(wc==vY)=bb:=⟨_,rfl⟩
   have abU:(wc==[121,101,115])=bb:=mM;refine SW.JJ hG d_ [5,9] [0,1,2,3,4,6,7,8,11,12,13,14,5,9,10,15,16,17,18,19] zk zk (l:=DW) zk ((DW.take 5++(DW.drop 6).take 3++(DW.drop 11).take 4).map (λo=>(false,o))++((true,⟨some 67,none,.call 91 [.t 66]⟩)::(true,⟨some 71,none,.call 91 [.t 70]⟩)::((DW.drop 10).take 1++DW.drop 15).map λo=>(false,o))) zk ?_;refine mq _ (rB (K:=λS' H'=>S' 63=grow 67 (x.cells.map gD)/\S' 66=.str wa/\S' 70=.str wb/\S' 76=.bool bb/\S' 0=.str t/\S' 2=.box 2 0/\H' 2=some (tW eC)/\S' 6=.box 6 0/\H' 6=some ((grow 67 (x.cells.map gD)).bC::(tW x).drop 1)/\S' 21=strs L/\S' 22=.int .i64 (L.length:Nat)/\S' 23=.int .i64 (j:Nat)) ?_ _ _ _ ?_)
   case refine_2=>
    obtain⟨s0,s2,e2,s6,e6,jH,lx,jU⟩:=hI;simp[c42,sr,sZ,vm,DW,ah.qa,ah.qb,ah.dl,af,ae,s6,e6,s0,s2,e2,s9,jH,lx,jU,strs,fN,abU,tW]
   clear hI s9;rintro S2 H2 ⟨s63,oY,s70,XS,s0,s2,e2,s6,e6,jH,lx,jU⟩;refine ki (by simp[af,ae,oY]) zk (by simpa[af,ae,oY]using n1) ?_
   cases e1:ft wa with
   |error er=>first|exact⟨rfl,er,rfl,rfl⟩|exact⟨trivial,er,rfl,rfl⟩
   |ok v1=>
   simp only[vc];refine ki (by simp[af,ae,s70]) zk (by simpa[af,ae,s70]using n2) ?_
   cases OP:ft wb with
   |error er=>first|exact⟨rfl,er,rfl,rfl⟩|exact⟨trivial,er,rfl,rfl⟩
   |ok v2=>
   simp only[vc];have gm:=gM e1;have fM:=gM OP;refine uG [⟨some 72,none,.build [.int .i64 0,.int .i64 0] [(0,1,.t 67),(1,1,.t 71)]⟩,⟨some 77,none,.build [.int .i64 0,.int .i64 0,.bool false] [(0,2,.t 72),(2,1,.t 76)]⟩,⟨some 78,none,.buildSlice 22 67 3 [.t 77]⟩,⟨some 79,none,.append 22 67 3 24 (.t 63) (.t 78)⟩,⟨some 80,none,.fieldAddr 0 (.t 6)⟩,⟨none,none,.store (.box 6) 1 (.t 80) (.t 79)⟩] ?_;have dG:br 3 [AV.agg [.int .i64 v1,.int .i64 v2,.bool bb]]=true:=rfl;simp[cD,dG,XS];refine jG (x.cells.map gD) (gD ⟨v1,v2,bb⟩) (.own 67) (by simp[s63]) (by simp[gD]) rfl (Qy x.cells) (by rw[aef];have:=df.Oc;omega) ?_;intro S' sd dp;simp[sd,dp,s6,e6,tW];refine⟨_,rfl,⟨⟨df.num.head,?_⟩,by have:=df.Oc;simp;omega,df.name⟩,by simp[af,ae,dp,s0],by simp[af,ae,dp,s2],by simp[af,ae,e2],by simp[af,ae,dp,s6],by simp[af,ae,e6,tW,gD,grow,mM],by simp[af,ae,dp,jH,strs],by simp[af,ae,dp,lx],by simp[af,ae,dp,jU]⟩;intro c hc;rcases aeg.1 hc with hc|hc
   .exact df.num.cells c hc
   .rw[aev]at hc;subst hc;exact⟨gm,fM⟩
end Go.Proofs.Tryz
namespace Go.Proofs.Tryz
open Go Go.AL Go.RowKit Go.Proofs Go.Proofs.Tram
def qT{n:Int}(h:gB n):eE n:=⟨h.1,by have:=h.2;omega⟩
def ui{n:Int}(h:gB n):ft (bW n)=.ok n:=by
 have h3:=qT h
 have hw:nC (bW n)=true:=by
  unfold nC;rw[wk h3,agq,aej];exact(fO h3).2.1 h.2
 unfold ft;rw[if_pos hw,(om h3).2.2.2]
def Cv{s:bf}(h:kH s):bL 32 (lB s)=[IQ,bW s.pos,bW s.reach,bW s.fh,bW s.eF]:=by
 have hd:=λn hn=>iM (qT (h.head n hn))
 exact mH (di zd (di (hd _ (by simp[fm])) (di (hd _ (by simp[fm])) (di (hd _ (by simp[fm])) (di (hd _ (by simp[fm])) l7)))))
def Cl{c:fC}(h:gB c.lo/\gB c.hi):bL 32 (eI c)=[vA,bW c.lo,bW c.hi,jy c.hid]:=
 mH (di zd (di (iM (qT h.1)) (di (iM (qT h.2)) (di (E9 _) l7))))
def Mz{s x:bf}(h:kH s):qx x (lB s)=.ok { x with pos:=s.pos,reach:=s.reach,fh:=s.fh,eF:=s.eF }:=by
 have hd:=λn hn=>ui (h.head n hn)
 unfold qx;rw[Cv h];simp only;rw[hd _ (by simp[fm]),hd s.reach (by simp[fm]),hd s.fh (by simp[fm]),hd s.eF (by simp[fm])]
 rfl
def Nq{x:bf}{c:fC}(h:gB c.lo/\gB c.hi):qj x (eI c)=.ok { x with cells:=x.cells++[c] }:=by
 unfold qj;rw[Cl h];simp only;rw[ui h.1,ui h.2];show Except.ok ({ x with cells:=x.cells++[(⟨c.lo,c.hi,jy c.hid==vY⟩:fC)] }:bf)=_;rw[show(jy c.hid==vY)=c.hid from ur _]
def M1{l:List fC}(h:∀c∈l,gB c.lo/\gB c.hi):∀{k:Nat}{x:bf},k≠0->dO gW (k,x) (l.map eI)=.ok (k+l.length,{ x with cells:=x.cells++l }):=by
 induction l with
 |nil=>intro k x hk;simp[dO]
 |cons c l ih=>
  intro k x hk
  have e:gW (k,x) (eI c)=.ok (k+1,{ x with cells:=x.cells++[c] }):=by
   unfold gW;rw[if_neg hk,Nq (h c ah7)]
   rfl
  show c_ (gW (k,x) (eI c)) (λa=>dO gW a (l.map eI))=_;rw[e];show dO gW (k+1,_) (l.map eI)=_;rw[ih (λc hc=>h c (by simp[hc])) zo];simp only[List.length_cons,aeU,List.singleton_append]
  congr 2
  omega
def Ki{s:bf}(h:kH s):dO gW (0,eC) (fx s)=.ok (1+s.cells.length,{ s with name:=cn }):=by
 have e:gW (0,eC) (lB s)=.ok (1,{ eC with pos:=s.pos,reach:=s.reach,fh:=s.fh,eF:=s.eF }):=by
  unfold gW;rw[if_pos rfl,Mz h]
  rfl
 show c_ (gW (0,eC) (lB s)) (λa=>dO gW a (s.cells.map eI))=_;rw[e];show dO gW (1,_) (s.cells.map eI)=_;rw[M1 h.cells zd]
 rfl
def JI{s:bf}(h:kH s):∀p∈fx s,¬(10:UInt8)∈p:=by
 have hd:=λn hn=>gy (qT (h.head n hn))
 intro p hp;rcases aeD.1 hp with rfl|hp
 .exact ml zd (di zd (di (hd _ (by simp[fm])) (di (hd _ (by simp[fm])) (di (hd _ (by simp[fm])) (di (hd _ (by simp[fm])) l7)))))
 .obtain⟨c,hc,rfl⟩:=aew.1 hp;have hn:=h.cells c hc;exact ml zd (di zd (di (gy (qT hn.1)) (di (gy (qT hn.2)) (di (by cases c.hid<;>decide) l7))))
def Ob{c:Int}(h:0<=c)(h':c<1000):¬(10:UInt8)∈nc c:=by
 have d:∀n:Int,0<=n->n<10->¬(10:UInt8)∈bW n:=λn a b=>gy ⟨a,zo⟩
 intro hm;unfold nc at hm;simp only[aeg]at hm;rcases hm with((hm|hm)|hm)|hm
 .revert hm;decide
 .exact d _ zo zo hm
 .exact d _ zo zo hm
 .exact d _ zo zo hm
def CV{r:List UInt8}:∀{l:List (List UInt8)},(∀p∈l,¬(10:UInt8)∈p)->bL 10 (eL l++r)=l++bL 10 r
 |[],_=>rfl
 |p::l,h=>by
  have e:eL (p::l)++r=p++10::(eL l++r):=by simp[eL]
  rw[e,qf (h p ah7),CV λq hq=>h q (by simp[hq])]
  rfl
def BW{s:bf}(h:kH s)(r:List UInt8):bL 10 (eS s++r)=fx s++nc (dM 0 (fx s) % 223)::bL 10 r:=by
 unfold eS;rw[sy,aeU,aeU,CV (JI h),List.singleton_append,qf (Ob zo zo)]
def OJ{s:bf}(e:List UInt8)(r:List (List UInt8))(he:gV e=true):firstT gV (fx s++e::r)=((fx s).length:Nat):=by
 refine nP ah7 ?_ λj hj aN=>?_
 .rw[afq (aed _)];simpa using he
 .rw[aeV aN];have hm:(fx s)[j]∈fx s:=ad2 aN;generalize(fx s)[j]=p at hm
  have hb:∀{b:UInt8}{l:List UInt8},b≠101->gV (b::l)=false:=by
   intro b l hb;unfold gV lQ Ua;simp[List.take,hb]
  rcases aeD.1 hm with rfl|hm
  .exact hb (b:=116) (l:=_) zd
  .obtain⟨c,_,rfl⟩:=aew.1 hm;exact hb (b:=99) (l:=_) zd
def Gi{s:bf}(h:kH s)(r:List UInt8):kn (eS s++r)=.ok ({ s with name:=cn },r):=by
 have he:gV (nc (dM 0 (fx s) % 223))=true:=tH.2 ⟨_,by unfold nc;simp only[aeU];rfl⟩;unfold kn;rw[BW h,OJ _ _ he]
 have hl:0<(fx s).length:=by simp[fx]
 rw[if_neg zo,Int.toNat_natCast,agj,Ki h];have hx:eS { s with name:=cn }=eS s:=rfl;show(if lQ (eS s++r) (eS { s with name:=cn })then _ else _)=_;rw[hx,if_pos (tH.2 ⟨r,rfl⟩),List.drop_left]
def HY{w:List UInt8}(h:nC w=true):gJ w=(da w,true):=by
 obtain⟨h1,h2,h3,h4⟩:=mO.1 h;have hn:=iy w h3 zo
 cases w with
 |nil=>exact(h1 rfl).elim
 |cons b l=>
  have hb:b≠45:=by
   rintro rfl;have:=h3 45 aen;revert this;unfold digit;decide
  have hr:eV (b::l)=b::l:=by simp[eV,hb]
  have hs:mf (b::l)=1:=by simp[mf,hb]
  have eu:(b::l).all mX=true:=aeh.2 λc hc=>lU.2 (h3 c hc)
  unfold gJ;rw[hr,hs,if_neg (by simp at h2⊢;omega),if_pos eu,Int.one_mul]
  have hz:qJ (da (b::l))=b::l:=by unfold qJ;rw[if_neg zo];exact h4
  rw[hz];simp
def PT{w:List UInt8}(h:(gJ w).2=true)(h0:0<=(gJ w).1):nC w=true:=by
 unfold gJ at h h0
 by_cases hl:(eV w).length<1\/(eV w).length>2
 .rw[if_pos hl]at h;cases h
 rw[if_neg hl]at h h0
 by_cases ha:(eV w).all mX=true
 case neg=>rw[if_neg ha]at h;cases h
 rw[if_pos ha]at h h0
 have hd:∀c∈eV w,digit c:=λc hc=>lU.1 (aeh.1 ha c hc)
 have hv:=iy _ hd zo
 have h:qJ (mf w*da (eV w))=w:=by simpa using h
 have h0:0<=mf w*da (eV w):=h0
 cases w with
 |nil=>simp[eV]at hl
 |cons b l=>
  by_cases hb:b=45
  .subst hb
   have hr:eV (45::l)=l:=by simp[eV]
   have hs:mf (45::l)= -1:=by simp[mf]
   rw[hr]at hv;rw[hr,hs]at h h0
   have hz:da l=0:=zo
   rw[hz]at h
   have:qJ (-1*0)=[48]:=zd
   rw[this]at h;cases h
  .have hr:eV (b::l)=b::l:=by simp[eV,hb]
   have hs:mf (b::l)=1:=by simp[mf,hb]
   rw[hr]at hv hd hl;rw[hr,hs,Int.one_mul]at h;refine mO.2 ⟨ah7,zo,hd,?_⟩;unfold qJ at h;rw[if_neg zo]at h;exact h
def sF{ws:List (List UInt8)}(h:ws.all nC=true):E3 ws=true/\fR ws=ws.map da:=by
 have hg:∀w∈ws,gJ w=(da w,true):=λw hw=>HY (aeh.1 h w hw)
 have h1:E3 ws=true:=aeh.2 λw hw=>by rw[hg w hw]
 refine⟨h1,?_⟩;unfold fR;rw[if_pos h1]
 exact aeX λw hw=>by rw[hg w hw]
def GK{ws:List (List UInt8)}{k:Int}(h:ws.all nC=true)(hl:(ws.length:Int)=k):ly ws k=true:=by
 obtain⟨h1,h2⟩:=sF h;unfold ly;rw[h1,h2,agq,aeb,aej];refine⟨aeh.2 λn hn=>?_,by simpa using hl⟩;obtain⟨w,hw,rfl⟩:=aew.1 hn;obtain⟨_,q2,q3,_⟩:=mO.1 (aeh.1 h w hw);have:=iy w q3 zo;rw[aej];omega
def y8{ws:List (List UInt8)}{k:Int}(h:ly ws k=true):ws.all nC=true/\(ws.length:Int)=k/\fR ws=ws.map da:=by
 unfold ly at h;rw[aeb,aeb,aej]at h;obtain⟨⟨h1,h2⟩,h3⟩:=h
 have hv:fR ws=ws.map λw=>(gJ w).1:=by unfold fR;rw[if_pos h1]
 rw[hv]at h2 h3
 have hw:ws.all nC=true:=aeh.2 λw hw=>PT (aeh.1 h1 w hw) (by
  have:=aeh.1 h2 _ (aew.2 ⟨w,hw,rfl⟩)
  simpa using this)
 exact⟨hw,by simpa using h3,(sF hw).2⟩
section
variable{H:Type}{enc:TypeId×Value->H}{w:World}{held:Bool}
def T0:Nat->Nat->Prop:=λ_ _=>True
def Aq(w:World)(l:List AV)(cs:List Value):Prop:=l.length=cs.length/\∀i (h:i<l.length)(h':i<cs.length),(l[i]).one=true/\RD T0 w l[i] cs[i]
def Aq.append{l1 l2:List AV}{c1 c2:List Value}(h1:Aq w l1 c1)(h2:Aq w l2 c2):Aq w (l1++l2) (c1++c2):=by
 refine⟨by simp[h1.1,h2.1],λi h h'=>?_⟩
 by_cases hi:i<l1.length
 .rw[aeV hi,aeV (by rw[<-h1.1];exact hi)];exact h1.2 i hi _
 .rw[afq zo,afq (by rw[<-h1.1];omega)];have:=h1.1;simp only[this];exact h2.2 _ _ _
def u3:prog.underlying 3=some (.int .i64):=by kernel_rfl
end
section
variable{H:Type}{enc:TypeId×Value->H}{w:World}{held:Bool}
def u23:prog.underlying 23=some (.slice 3):=by kernel_rfl
def u9:prog.underlying 9=some .string:=by kernel_rfl
def Si{d:DataW H}{ps:List MemPlace}{v:Value}{r:Reach}{base:Nat}(Hh:Value.okWide prog w r base 9 v)(_:DataW.Trod enc prog w 0 (λ_=>true) held 9 v d ps):∃l:List UInt8,True/\RD T0 w (.str l) v:=by
 obtain⟨s,rfl⟩:=WideShapes.okWide_string u9 Hh;refine⟨s.data.toList,trivial,?_⟩
 have:s=⟨s.data.toList.toArray⟩:=by cases s;simp
 rw[this];exact .str _
end
end Go.Proofs.Tryz
namespace Go.Proofs.Tryz
open Go Go.AL Go.RowKit Go.Proofs Go.Proofs.Tram
attribute [local simp] aU bB bm aO aV aJ aK av az aW aw ao bO bP an ar ev aM.S aM.H bj aF bl AL.start AV.cells AV.storable AV.aZ aP bt bV bu HR.okB post bQ bG bH AV.out AV.aX aG aL fz cL AV.vw bT vI int a_ aq bD bq cd cj bZ bI aI AV.bC AV.dE
variable{GI:World->Prop}
def cell0:fC:=⟨0,0,false⟩
def ju(r:List UInt8):fC×Bool:=match bL 32 r with
 |[_,a,b,c]=>if ly [a,b] 2=true then(⟨(fR [a,b]).getD 0 0,(fR [a,b]).getD 1 0,c==vY⟩,true)else(cell0,false)
 |_=>(cell0,false)
def EX{r:List UInt8}(h:(bL 32 r).length≠4):ju r=(cell0,false):=by
 unfold ju;split
 .rename_i hh;rw[hh]at h;exact absurd rfl h
 .rfl
def adn(hG:aQ GI)(r:List UInt8)(hr:r.length<500000):AC prog GI 51 [.str r] (.ret (.ea [gD (ju r).1,.bool (ju r).2])):=by
 obtain⟨i52,M8,KT⟩:=iZ 67 3;have QX:=CZ (GI:=GI) hG r 32 zo
 have hw:∀w∈bL 32 r,w.length<1000000:=λw hw=>by have:=fc hw;omega
 have xw:=fZ 32 r
 by_cases h4:(bL 32 r).length=4
 case neg=>
  rw[EX h4]
  generalize bL 32 r=W at*
  have h4':((W.length:Int)!=4)=true:=by simp;omega
  refine dF hG func51 ntmps51 c51 ?_;simp[c51];refine oc QX ?_;simp[h4',gD,cell0,strs,cD,M8,KT,ef]
 obtain⟨x,a,b,c,hW⟩:=JO h4
 have hc:ju r=if ly [a,b] 2=true then(⟨(fR [a,b]).getD 0 0,(fR [a,b]).getD 1 0,c==vY⟩,true)else(cell0,false):=by unfold ju;rw[hW]
 rw[hc];rw[hW]at QX hw;have YU:=YP (GI:=GI) hG [a,b] ah7 (λw h=>hw w (by simp at h⊢;rcases h with rfl|rfl<;>simp)) 2
 have hv:ly [a,b] 2=true->∃m n,fR [a,b]=[m,n]:=λh=>by
  unfold ly at h;rw[aeb,aej]at h
  have hl:(fR [a,b]).length=2:=by have:=h.2;omega
  match fR [a,b],hl with
  |[m,n],_=>exact⟨m,n,rfl⟩
 generalize ly [a,b] 2=z at*
 generalize fR [a,b]=v at*
 cases z with
 |false=>
  refine dF hG func51 ntmps51 c51 ?_;simp[c51];refine oc QX ?_;simp[strs,bound];refine oc YU ?_;simp[gD,cell0,strs,cD,M8,KT,ef]
 |true=>
  obtain⟨m,n,rfl⟩:=hv rfl;refine dF hG func51 ntmps51 c51 ?_;simp[c51];refine oc QX ?_;simp[strs,bound];refine oc YU ?_;simp[gD,strs,ints,cD,vY,M8,KT,ef]
def Ew(c:fC):Array Value:=#[.int .i64 c.lo,.int .i64 c.hi,.bool c.hid]
def Vf{α β:Type}{f:α->β}{l:List α}{x y:β}(h:l.map f=[x,y]):∃a b,l=[a,b]/\f a=x/\f b=y:=by
 have hl:l.length=2:=by simpa using congrArg List.length h
 match l,hl with
 |[a,b],_=>exact⟨a,b,rfl,by simpa using h⟩
def Ng:∃ f0 f1:Field,(prog.fieldsOf 67).toList=[f0,f1]/\(f0.name == "_")=false/\f0.type=26/\f0.offset=0/\(f1.name == "_")=false/\f1.type=4/\f1.offset=2:=by
 have h:(prog.fieldsOf 67).toList.map (λf=>(f.name == "_",f.type,f.offset))=[(false,26,0),(false,4,2)]:=by kernel_rfl
 obtain⟨f0,f1,hf,h0,h1⟩:=Vf h;simp only[agH]at h0 h1;exact⟨f0,f1,hf,h0.1,h0.2.1,h0.2.2,h1.1,h1.2.1,h1.2.2⟩
def NF{a:Act}{w:World}{o:Oper}{x1 x2:Operand}{t':TypeId}{c:fC}(ho:o.op=.binOp .neq 67 x1 x2 t')(h1:a.eval x1=.agg (Ew c))(h2:a.eval x2=.agg (Ew c)):(execOp a.eval o).run prog w=.ok (.value (.bool false)) w:=by
 obtain⟨f0,f1,hf,n0,t0,o0,n1,t1,o1⟩:=Ng
 have u52:prog.underlying 67=some (.struct (prog.fieldsOf 67)):=zk
 have u4:prog.underlying 4=some .bool:=zk
 have k26:np prog 9999 26=some 2:=zk
 have p0:(part 26 (Ew c) 0).run prog w=.ok (pv prog 26 [c.lo,c.hi]) w:=by
  have lP:(isAgg 26).run prog w=.ok true w:=by
   obtain⟨fs,fw⟩:=uZ 26;unfold isAgg;rw[ael,aet fw w];simp
  obtain⟨i,hi,hs⟩:=iZ 26 2;obtain⟨fs,fw⟩:=uZ 26;simp only[part,ael,lP,Result.andThen_ok,aeH,pv,fw];simp only[sizeOf,typeInfo,ael];simp[hi,hs,Ew,ik]
 have p1:(part 4 (Ew c) 2).run prog w=.ok (.bool c.hid) w:=by
  have lP:(isAgg 4).run prog w=.ok false w:=by
   unfold isAgg;rw[ael,aet u4 w];simp
  simp only[part,ael,lP,Result.andThen_ok,aek,aeA];simp[Ew]
 have q0:=sj (P:=prog) (w:=w) 9999 26 2 k26 [c.lo,c.hi] [c.lo,c.hi] rfl rfl;have q1:(Op.equalIn 9999 4 (.bool c.hid) (.bool c.hid)).run prog w=.ok (c.hid==c.hid) w:=run_equalIn_bool w 9998 4 _ _ u4
 have hE:(Op.equalIn 10000 67 (.agg (Ew c)) (.agg (Ew c))).run prog w=.ok true w:=by
  rw[run_equalIn_struct w 9999 67 _ _ u52 zk,hf]
  have e0:f0.name ≠ "_" := by simpa using n0
  have e1:f1.name ≠ "_" := by simpa using n1
  simp[Op.eqFields,e0,e1,t0,o0,t1,o1,ael,p0,p1,q0,q1]
 have hg:=run_eqGuard_agg (P:=prog) w .neq 67 x1 x2 (Ew c) (Ew c) zk;simp[execOp,ho,h1,h2,hg,run_neq_struct,hE,ael]
def QJ{Pr:Nat->Nat->Prop}{w:World}{c:fC}{v:Value}(h:RD Pr w (gD c) v):v=.agg (Ew c):=by
 unfold gD at h;cases h;rename_i vs hl h1 hr
 congr 1
 have hl:vs.size=3:=by simpa using hl.symm
 have h0:=(hr 0 ah7 zo).Am rfl;have h1:=(hr 1 ah7 zo).Am rfl;have h2:=(hr 2 ah7 zo).Am rfl
 refine afH (by rw[hl]<;>rfl) λi hi eJ=>?_
 have:i=0\/i=1\/i=2:=zo
 rcases this with rfl|rfl|rfl
 .exact h0
 .exact h1
 .exact h2
def Fk(s:bf)(i:Nat)(S:au)(H:aD):Prop:=S 2=.box 2 0/\S 3=.box 3 0/\H 2=some (bh s)/\H 3=some (bh s)/\S 5=.int .i64 (i:Nat)
noncomputable def Th:ah:=ah.qb c13.qb.qb.qa.qb.qb
noncomputable def Yn:List db:=(Th.qb.qa.qb.qa.dl).take 10
def Wd(hG:aQ GI)(s:bf)(hs:gY s):AC prog GI 13 [cH s,cH s] (.ret (.bool true)):=by
 have ab2:=Y3 (GI:=GI) hG s.name hs.name;have lL:=hs.cells
 refine AC.j7 func13 rfl ntmps13 ah7 λcc w=>?_
 refine eR hG c13.qa (λS H=>S 2=.box 2 0/\S 3=.box 3 0/\H 2=some (bh s)/\H 3=some (bh s)) ?_ ?_
 .simp[c13,ah.qa,cH,bh,ai]
 rintro S H ⟨s2,s3,e2,e3⟩;refine eR hG c13.qb.qa (λS H=>S 2=.box 2 0/\S 3=.box 3 0/\H 2=some (bh s)/\H 3=some (bh s)) ?_ ?_
 .simp[c13,ah.qa,ah.qb,s2,s3,e2,e3,bh,ai]
 clear s2 s3 e2 e3 S H;rintro S H ⟨s2,s3,e2,e3⟩;refine SW.seq (eR hG (.ops [⟨some 5,none,.mv true (.c (.int .i64 0))⟩]) (λS H=>Fk s 0 S H) ?_ ?_)
 .simp[Fk,s2,s3,e2,e3]
 clear s2 s3 e2 e3 S H;rintro S H hF;refine SW.block (SW.loop (λo S H=>o=Old.plain cc w/\∃k,k<=s.cells.length/\Fk s k S H) (λS _=>match S 5 with|.int _ j=>s.cells.length-j.toNat|_=>0) ⟨rfl,0,zo,hF⟩ ?_);clear hF S H;rintro o S H ⟨rfl,k,hk,s2,s3,e2,e3,s5⟩
 have hdk:decide ((k:Int)<(s.cells.length:Int))=decide (k<s.cells.length):=ah7
 refine SW.seq (eR hG Th.qa.qa (λS H=>Fk s k S H/\S 45=.bool (decide (k<s.cells.length))) ?_ ?_)
 .simp[Th,c13,ah.qa,ah.qb,Fk,s2,s3,e2,e3,s5,hdk,bh,ai]
 have rm:=s5;clear s2 s3 e2 e3;rintro S1 H1 ⟨⟨s2,s3,e2,e3,s5⟩,MK⟩;refine SW.cond (c':=.t 45) zk (decide (k<s.cells.length)) MK ?_
 by_cases aN:k<s.cells.length
 case neg=>
  rw[ahj aN];refine SW.exit ?_;show SW prog GI 64 none (.seq _ .ret) _ _ _ _;refine eR hG c13.qb.qb.qb.qa (λS H=>S 4=.bool true) ?_ ?_
  .simp[c13,ah.qa,ah.qb,s2,s3,e2,e3,bh,ai];refine oc ab2 ?_;simp
  intro S H s4;refine SW.ret ⟨e_.plain rfl,rfl,_,?_,rfl⟩;show bQ prog 64 [.tmp 4] S H=_;simp[bQ,bG,bH,s4,AV.aX,AV.out]
 rw[agX aN];refine SW.skip ?_;refine SW.seq (SW.block (SW.mono (Q:=λx o S H=>x=.normal/\o=Old.plain cc w/\Fk s k S H) ?_ ?_))
 .rintro x o S2 H2 ⟨rfl,rfl,s2,s3,e2,e3,s5⟩;have hw:IntKind.i64.wrap ((k:Int)+1)=k+1:=bU zo;refine SW.last hG d_ zk (ac:=ah.qb Th.qb) zk (λ_ _ h=>h) (λS H=>Fk s (k+1) S H) ?_ ?_
  .simp[Th,c13,ah.qa,ah.qb,Fk,s2,s3,e2,e3,s5,hw]
  rintro S' H' hF;refine⟨⟨rfl,k+1,zo,hF⟩,?_⟩;have:=hF.2.2.2.2;rw[rm,this];simp;omega
 refine SW.seq (SW.Ta (p:=10) hG d_ zk zk zk (λ_ h=>h) (l:=Yn) zk zk (K:=λS H=>Fk s k S H/\S 52=gD s.cells[k]/\S 57=gD s.cells[k]) ?_ ?_)
 .simp[Yn,Th,c13,ah.qa,ah.qb,ah.dl,Fk,s2,s3,e2,e3,s5,aN,gD,bh,ai]
 clear s2 s3 e2 e3 s5 MK S1 H1;rintro w0 g S H a w' m dI ho R ⟨⟨s2,s3,e2,e3,s5⟩,DP,Sy⟩;show wpOpsIn _ _ _ _ _ [10] a w';have t52:=R.slot 52 zd id;rw[DP]at t52;have t57:=R.slot 57 zd id;rw[Sy]at t57;refine cI rfl rfl zr (NF (c:=s.cells[k]) rfl (QJ (t52.eP rfl)) (QJ (t57.eP rfl))) ?_;have R1:=R.put 58 (.bool false) (.bool false) zd (.data _ _ (.bool _)) trivial;refine⟨g,_,_,R1,?_⟩;rw[ho];refine SW.cond (c':=.t 58) zk false (by show aF S 58 _ 58=_;simp[aF]) (SW.skip ⟨rfl,rfl,?_⟩);simp[Fk,aF,s2,s3,e2,e3,s5]
end Go.Proofs.Tryz
namespace Go.Proofs.Tryz
open Go Go.AL Go.RowKit Go.Proofs Go.Proofs.Tram
variable{GI:World->Prop}
def upT{Pr:Nat->Nat->Prop}{w:World}{e:List UInt8}{c:Value}(h:RD Pr w (mo e) c):c=.iface 133 (.agg #[.string ⟨e.toArray⟩]):=by
 unfold mo at h
 cases h with
 |iface t v c h=>
  cases h with
  |agg cs vs hl h1 hr=>
   have hs:vs.size=1:=by rw[<-hl]<;>rfl
   have h0:=hr 0 ah7 zo;simp only[List.getElem_cons_zero]at h0
   have:vs=#[vs[0]]:=by
    apply afH
    .simpa using hs
    .intro i h1 h2
     have:i=0:=by simp at h2;omega
     subst this;rfl
   rw[this];generalize vs[0]=x at h0;cases h0;rfl
section
variable{w0:World}{n:Nat}{g:Gh}{S:au}{H:aD}{a:Act}{w:World}{d i1 i4 i5:Nat}{t u e:List UInt8}{z x:List AV}{y:AV}
def Sw (hG:aQ GI) (dI:GI w0) (R:Rel prog w0 n dh g S H a w) (Ff:i1 < n) (FA:S i1 = .box i1 0) (Ey:H i1=some [.str t]) (vh:AC prog GI 42 [.str t] (.panic (mo e))) (v4 v5:Value) :
  Calls prog 41 #[a.tmps.getD i1 undef,v4,v5] w λen w2=>Below w.heap.size w w2/\en=.panicked [{ v:=.iface 133 (.agg #[.string ⟨e.toArray⟩]),recovered:=false }]:=by
 have ib:GI w:=hG w0 w dI (by have:=R.below;rwa [R.base]at this);obtain⟨b1,e1,gr⟩:=LM R Ff FA Ey;refine agi func41 rfl ?_;refine(gl (m:=0)).1 ?_;refine iS (λa=>a.tmps.size=8/\a.defers=[]/\a.tmps.getD 0 undef=.pointer (some ⟨b1,0,none⟩)) ⟨by simp[ntmps41],rfl,(dQ _ _ 0 ah7).trans e1⟩ ?_;rintro aC ⟨zC,dC,t0⟩;refine aeG ?_;show wpOpsIn _ _ _ _ _ [0,1,2,3,4,5,6] aC w;refine cI rfl rfl zr (kA (t:=9) (d:=.string) (b:=b1) (off:=0) rfl t0 zk rfl gr) ?_;show wpOpsIn _ _ _ _ _ [1,2,3,4,5,6] (aC.put (some 4) (.string ⟨t.toArray⟩)) w
 refine p7 rfl rfl zr (ia (k:=42) (args:=#[.string ⟨t.toArray⟩]) w rfl rfl ?_ zk) (vh w (gz g false) #[.string ⟨t.toArray⟩] ib rfl (λi h h'=>by
  match i,h with
  |0,_=>exact .data _ _ (.str t))) ?_
 .simp only[aeN,aer,aeF];show #[(aC.put (some 4) _).eval (.tmp 4)]=_;rw[dJ _ _ _ _ zo,if_pos rfl]
 rintro en w2 ⟨jo,hi,rI,c,rfl,ec⟩;have hc:=upT ec;subst hc;exact⟨dC,jo,rfl⟩
end
def GN{x y:ah}{Q:eh->au->aD->Prop}{S:au}{H:aD}(K:au->aD->Prop)(hx:cW prog GI x (bD K Q) S H)(hy:∀S' H',K S' H'->cW prog GI y Q S' H'):cW prog GI (.seq x y) Q S H:=by
 refine gx x (λe S H h=>?_) hx
 cases e with
 |normal=>exact hy S H h
 |exit id=>exact h
 |ret=>exact h
 |panic v=>exact h
def Ry{c:dU}{y z:ah}{id:Nat}{Q:eh->au->aD->Prop}{S:au}{H:aD}(h:ev S c=.bool false)(hq:Q (.exit id) S H):cW prog GI (.seq (.cond c y (.exit id)) z) Q S H:=by
 simp only[cW,h];exact hq
def kW(r:List UInt8):Bool:=decide (4<r.length)&&(r.take 4==vA)
def l5:List fC->List (List UInt8)->Option (List fC)
 |cs,[]=>some cs
 |cs,r::l=>if kW r=true then(if(ju r).2=true then l5 (cs++[(ju r).1]) l else none)else some cs
def pf(t:List UInt8):List (List UInt8):=(bL 32 ((bL 10 t).headD [])).tail
def rk(t:List UInt8):Option bf:=if ly (pf t) 4=true then(l5 [] (bL 10 t).tail).map λcs=>⟨cs,at' (fR (pf t)) 0,at' (fR (pf t)) 1,at' (fR (pf t)) 2,at' (fR (pf t)) 3,cn⟩else none
def yq(t:List UInt8)(x:bf):Option bf:=
 if(lQ t (eS x)&&decide (t.length<=(eS x).length+320))=true then(match lr (t.drop (eS x).length)with
  |.ok y=>if iB { x with name:=y }=t then some { x with name:=y }else none
  |.error _=>none)else none
def ve(t:List UInt8):Option bf:=(rk t).bind (yq t)
def yF:Option bf->AV
 |some s=>.ea [cH s,.bool true]
 |none=>.ea [cH eC,.bool false]
def zR(t:List UInt8):bw×Bool:=match lr t with
 |.ok y=>(y,true)
 |.error _=>(cn,false)
def TO(t:List UInt8):xP (lr t)=.ea [dj (zR t).1,.bool (zR t).2]:=by
 unfold zR;cases lr t<;>rfl
def D3{r:List UInt8}(h:(ju r).2=true):gB (ju r).1.lo/\gB (ju r).1.hi:=by
 by_cases h4:(bL 32 r).length=4
 case neg=>rw[EX h4]at h;cases h
 obtain⟨w,a,b,c,hW⟩:=JO h4
 have e1:ju r=if ly [a,b] 2=true then(⟨(fR [a,b]).getD 0 0,(fR [a,b]).getD 1 0,c==vY⟩,true)else(cell0,false):=by unfold ju;rw[hW]
 rw[e1]at h⊢
 by_cases hn:ly [a,b] 2=true
 case neg=>rw[if_neg hn]at h;cases h
 obtain⟨h1,_,h3⟩:=y8 hn;rw[if_pos hn,h3]
 have r2:∀w,nC w=true->gB (da w):=λw hw=>by
  obtain⟨_,q2,q3,_⟩:=mO.1 hw;exact qK w q3 q2
 simp at h1;exact⟨r2 a h1.1,r2 b h1.2⟩
def Fs{ws:List (List UInt8)}{k:Int}(h:ly ws k=true)(i:Nat):gB (at' (fR ws) i):=by
 obtain⟨h1,_,h3⟩:=y8 h;rw[h3];unfold at'
 by_cases hi:i<(ws.map da).length
 .have hg:(ws.map da)[i]?.getD 0=da (ws[i]'(by simpa using hi)):=by simp[ad_ (show i<ws.length by simpa using hi)]
  first
  |rw[hg]
  |(rw[aeY,hg])
  obtain⟨_,q2,q3,_⟩:=mO.1 (aeh.1 h1 _ (ad2 (by simpa using hi)));exact qK _ q3 q2
 .have hg:(ws.map da)[i]?.getD 0=0:=by simp[aez (show ws.length<=i by simpa using hi)]
  first
  |rw[hg]
  |(rw[aeY,hg])
  exact⟨zd,zd⟩
def PI{t:List UInt8}(ht:t.length<=420){x:bw}(h:lr t=.ok x):F' x:=by
 have h:=ux.1 h
 have Fm:jq t=if(bL 10 t).length<2 then .error t else c_ (dO eY cn ((bL 10 t).take ((bL 10 t).length-2))) λx=>if fb x=t then .ok x else .error t:=rfl
 rw[Fm]at h;split at h
 .cases h
 obtain⟨y,hy,h⟩:=eO h;split at h
 case isFalse=>cases h
 cases h;have hs:=og 10 t;obtain⟨hg,h5⟩:=qV (b:=421) (λr hr=>by have:=fc (c:=10) (aeL hr);omega) (iU _) hy
 have h2:(((bL 10 t).take ((bL 10 t).length-2)).map λp=>p.length+1).sum<=((bL 10 t).map λp=>p.length+1).sum:=by
  generalize(bL 10 t).length-2=k;generalize bL 10 t=R
  conv=>rhs;rw[<-afa k R,aeB,afz]
  omega
 exact⟨by have:=hg.bJ;omega,by have:=hg.bK;omega,by have:=hg.words;omega,λw hw=>by have:=hg.cb w hw;omega,λw hw=>by have:=hg.dq w hw;omega⟩
end Go.Proofs.Tryz
namespace Go.Proofs.Tryz
open Go Go.AL Go.RowKit Go.Proofs Go.Proofs.Tram
attribute [local simp] aU bB fT fu aV aJ aK av az aW aw ao bO bP an ar ev aM.S aM.H bj aF bl AL.start AV.cells AV.storable AV.aZ aP bt bV bu HR.okB post bQ bG bH AV.out AV.aX aG aL fz cL AV.vw bT vI int a_ aq bD bq cd cj bZ bI aI cm ck aT
variable{GI:World->Prop}
def K6{id:Nat}{Q:eh->au->aD->Prop}{S:au}{H:aD}(h:Q .normal S H):bq id Q (.exit id) S H:=by
 show if id=id then _ else _
 rw[if_pos rfl];exact h
def KV{id:Nat}{K:au->aD->Prop}{Q:eh->au->aD->Prop}{S:au}{H:aD}(h:Q (.exit id) S H):bD K Q (.exit id) S H:=h
def TV:tW eC=[.slice .nil [],.int .i64 0,.int .i64 0,.int .i64 0,.int .i64 0,.slice .nil [],.slice .nil [],.int .i64 0,.int .i64 0,.int .i64 0,.int .i64 0,.int .i64 0,.slice .nil [],.int .i64 0,.int .i64 0]:=by simp[tW,eC,grow]
structure BF(t:List UInt8)(R:List (List UInt8))(x:bf)(S:au)(H:aD):Prop where
 s0:S 0=.str t
 s2:S 2=.box 2 0
 e2:H 2=some (tW eC)
 s4:S 4=strs R
 s7:S 7=.box 7 0
 e7:H 7=some (tW x)
def Ci{cs:List fC}{R:List (List UInt8)}{i:Nat}(h:i<R.length):l5 cs (R.drop i)=if kW R[i]=true then(if(ju R[i]).2=true then l5 (cs++[(ju R[i]).1]) (R.drop (i+1))else none)else some cs:=by
 rw[afT h]<;>rfl
def PF{cs:List fC}{R:List (List UInt8)}{i:Nat}(h:R.length<=i):l5 cs (R.drop i)=some cs:=by
 rw[afj h]<;>rfl
def abf(hG:aQ GI)(hT:TB GI)(t:List UInt8)(ht:t.length<=630):AC prog GI 14 [.str t] (.ret (yF (ve t))):=by
 have xw:=fZ 10 t
 have zU:∀p∈bL 10 t,p.length<=630:=λp hp=>by have:=fc hp;omega
 have a49:=CZ (GI:=GI) hG t 10 zo;obtain⟨i31,lJ,lR⟩:=iZ 31 15;obtain⟨fs,fw⟩:=uZ 31;obtain⟨hd,tl,hR⟩:=qd 10 t
 obtain⟨o,ho⟩:∃o,ve t=o:=⟨_,rfl⟩
 rw[ho]
 have hH:pf t=(bL 32 hd).tail:=by unfold pf;rw[hR]<;>rfl
 have hF:rk t=if ly (pf t) 4=true then(l5 [] tl).map λcs=>⟨cs,at' (fR (pf t)) 0,at' (fR (pf t)) 1,at' (fR (pf t)) 2,at' (fR (pf t)) 3,cn⟩else none:=by unfold rk;rw[hR]<;>rfl
 have hX:(rk t).bind (yq t)=o:=ho;rw[hR]at a49 xw zU;have xC:hd.length<=630:=zU _ ah7;have b49:=CZ (GI:=GI) hG hd 32 zo;obtain⟨nm,n,hn⟩:=qd 32 hd;rw[hn,List.tail_cons]at hH;rw[hH]at hF
 have SH:n.length<=631/\∀p∈n,p.length<1000000:=by
  have h1:=fZ 32 hd;rw[hn]at h1;refine⟨by simp at h1;omega,λp hp=>?_⟩;have:=fc (c:=32) (l:=hd) (p:=p) (by rw[hn];exact aei _ hp);omega
 rw[hn]at b49;have a50:=YP (GI:=GI) hG n zo SH.2 4
 have Cr:=λh i=>Fs (ws:=n) (k:=4) h i
 have aav:ly n 4=true->∃v0 v1 v2 v3,fR n=[v0,v1,v2,v3]:=λh=>by
  obtain⟨_,h2,h3⟩:=y8 h;refine JO ?_;rw[h3,aef];omega
 have dG:br 1 (AV.str nm::n.map AV.str)=true:=fN (nm::n)
 have hle:(1:Int)<=(n.length:Int)+1:=zo
 have TJ:((n.length:Int)+1).toNat=n.length+1:=zo
 have qp:(n.map AV.str).take n.length=n.map AV.str:=aee ah7
 generalize fR n=V at*
 generalize ly n 4=bn at*
 refine dF hG func14 ntmps14 c14 ?_;refine aY (λS H=>S 0=.str t/\S 2=.box 2 0/\H 2=some (tW eC)) (by simp[af,ae,tW,eC,grow]) ?_;rintro S H ⟨s0,s2,e2⟩;refine aY (λS H=>S 0=.str t/\S 2=.box 2 0/\H 2=some (tW eC)/\S 4=strs (hd::tl)) ?_ ?_
 .simp[af,ae,s0];refine oc (by simpa using a49) ?_;simp[af,ae,s0,s2,e2,strs]
 clear s0 s2 e2 S H;rintro S H ⟨s0,s2,e2,s4⟩;refine aY (λS H=>S 0=.str t/\S 2=.box 2 0/\H 2=some (tW eC)/\S 4=strs (hd::tl)/\S 5=vI V/\S 6=.bool bn) ?_ ?_
 .simp[af,ae,s4,strs,bound];refine oc (by simpa using b49) ?_;simp[af,ae,strs,bound,dG,hle,TJ,qp];refine oc a50 ?_;simp[af,ae,s0,s2,e2,s4,strs]
 clear s0 s2 e2 s4 S H;rintro S H ⟨s0,s2,e2,s4,s5,s6⟩
 cases D2:bn with
 |false=>
  rw[D2]at s6 hF
  have J9:o=none:=by rw[<-hX,hF]<;>rfl
  subst J9;simp[af,ae,s2,e2,s6,cD,lJ,fw,lR,ef,tW,eC,grow,yF,cH,bh,ai,cn,ints]
 |true=>
 obtain⟨v0,v1,v2,v3,rfl⟩:=aav D2;have Cr:=Cr D2;rw[D2]at s6 hF
 have hF:rk t=(l5 [] tl).map λcs=>⟨cs,v0,v1,v2,v3,cn⟩:=hF
 have m0:gB v0:=Cr 0;have m1:gB v1:=Cr 1;have m2:gB v2:=Cr 2;have m3:gB v3:=Cr 3;refine aY (λS H=>S 0=.str t/\S 2=.box 2 0/\H 2=some (tW eC)/\S 4=strs (hd::tl)/\S 5=vI [v0,v1,v2,v3]) (by simp[af,ae,s0,s2,e2,s4,s5,s6,strs]) ?_;clear s0 s2 e2 s4 s5 s6 S H;rintro S H ⟨s0,s2,e2,s4,s5⟩
 have hnN:∀cs:List fC,(∀c∈cs,gB c.lo/\gB c.hi)->kH ⟨cs,v0,v1,v2,v3,cn⟩:=λcs hc=>⟨λn hn=>by
  simp only[fm,aeD,ae1,agF]at hn
  rcases hn with rfl|rfl|rfl|rfl<;>assumption,hc⟩
 refine aY (BF t (hd::tl) ⟨[],v0,v1,v2,v3,cn⟩) ?_ ?_
 .simp[s5,ints,bound,cD];exact⟨by simp[af,ae,s0],by simp[af,ae,s2],by simp[af,ae,e2],by simp[af,ae,s4,strs],by simp[af,ae],by simp[af,ae,tW,grow,cn]⟩
 clear s0 s2 e2 s4 s5 S H;intro S H hI;refine GN (λS' H'=>∃cs,l5 [] tl=some cs/\cs.length<=640/\(∀c∈cs,gB c.lo/\gB c.hi)/\BF t (hd::tl) ⟨cs,v0,v1,v2,v3,cn⟩ S' H') ?_ ?_
 .refine aY (λS' H'=>BF t (hd::tl) ⟨[],v0,v1,v2,v3,cn⟩ S' H'/\S' 8=.int .i64 (1:Nat)) ?_ ?_
  .obtain⟨s0,s2,e2,s4,s7,e7⟩:=hI;simp[af,ae];exact⟨by simp[af,ae,s0],by simp[af,ae,s2],by simp[af,ae,e2],by simp[af,ae,s4,strs],by simp[af,ae,s7],by simp[af,ae,e7]⟩
  clear hI S H;rintro S H ⟨hI,s8⟩;refine kC ?_
  obtain⟨R,Ou⟩:∃R,hd::tl=R:=⟨_,rfl⟩
  have Vq:1<=R.length:=by rw[<-Ou];simp
  have AE:l5 [] tl=l5 [] (R.drop 1):=by rw[<-Ou]<;>rfl
  rw[Ou]at hI xw zU;rw[AE]at hF;rw[AE,Ou];clear AE Ou;refine EK 8 1 R.length (λi S H=>∃cs,l5 [] (R.drop 1)=l5 cs (R.drop i)/\cs.length<=i/\(∀c∈cs,gB c.lo/\gB c.hi)/\BF t R ⟨cs,v0,v1,v2,v3,cn⟩ S H/\S 8=.int .i64 (i:Nat)) Vq (λi S H ⟨_,_,_,_,_,h⟩=>h) ⟨[],rfl,ah7,ah7,hI,s8⟩ ?_;clear hI s8 S H;rintro i Qg hi S H ⟨cs,hf,lL,C5,⟨s0,s2,e2,s4,s7,e7⟩,s8⟩
  obtain⟨bc,Bj⟩:∃bc,(if h:i<R.length then kW R[i]else false)=bc:=⟨_,rfl⟩
  refine mS (λS H=>BF t R ⟨cs,v0,v1,v2,v3,cn⟩ S H/\S 8=.int .i64 (i:Nat)/\S 60=.bool bc) ?_ ?_
  .by_cases aN:i<R.length
   case neg=>
    rw[dif_neg aN]at Bj;subst Bj;simp[af,ae,s4,s8,strs,aN];exact⟨by simp[af,ae,s0],by simp[af,ae,s2],by simp[af,ae,e2],by simp[af,ae,s4,strs],by simp[af,ae,s7],by simp[af,ae,e7]⟩
   rw[dif_pos aN]at Bj
   obtain⟨r,hr⟩:∃r,R[i]=r:=⟨_,rfl⟩
   rw[hr]at Bj
   by_cases h4:4<r.length
   case neg=>
    have OT:¬(4:Int)<r.length:=zo
    have:bc=false:=by rw[<-Bj];unfold kW;simp[h4]
    subst this;simp[af,ae,s4,s8,strs,aN,hr,OT,h4];exact⟨by simp[af,ae,s0],by simp[af,ae,s2],by simp[af,ae,e2],by simp[af,ae,s4,strs],by simp[af,ae,s7],by simp[af,ae,e7]⟩
   have OT:(4:Int)<r.length:=zo
   have h4L:(4:Int)<=r.length:=zo
   have jo:(r.take 4==[99,101,108,108])=bc:=by rw[<-Bj];unfold kW vA;simp[h4]
   simp[af,ae,s4,s8,strs,aN,hr,OT,h4,h4L,bound,jo];exact⟨by simp[af,ae,s0],by simp[af,ae,s2],by simp[af,ae,e2],by simp[af,ae,s4,strs],by simp[af,ae,s7],by simp[af,ae,e7]⟩
  clear s0 s2 e2 s4 s7 e7 s8 S H;rintro S H ⟨hI,s8,WZ⟩
  cases bc with
  |false=>
   refine Ry WZ ?_;refine KV (K6 ?_);show∃jX,l5 [] (R.drop 1)=some jX/\jX.length<=640/\(∀c∈jX,gB c.lo/\gB c.hi)/\BF t R ⟨jX,v0,v1,v2,v3,cn⟩ S H;refine⟨cs,?_,zo,C5,hI⟩;rw[hf]
   by_cases aN:i<R.length
   case neg=>exact PF zo
   rw[dif_pos aN]at Bj;rw[Ci aN,Bj]
   rfl
  |true=>
  have aN:i<R.length:=by
   by_cases aN:i<R.length
   .exact aN
   .rw[dif_neg aN]at Bj;cases Bj
  rw[dif_pos aN]at Bj;have Ad:=hf.trans (Ci aN);rw[Bj,if_pos rfl]at Ad
  obtain⟨r,hr⟩:∃r,R[i]=r:=⟨_,rfl⟩
  rw[hr]at Bj Ad
  have xl:r.length<=630:=by rw[<-hr];exact zU _ (ad2 aN)
  have a51:=adn (GI:=GI) hG r zo;have UM:=D3 (r:=r);refine AJ WZ ?_
  generalize(ju r).1=c at*
  obtain⟨bo,hbo⟩:∃bo,(ju r).2=bo:=⟨_,rfl⟩
  rw[hbo]at a51 Ad UM;refine GN (λS' H'=>bo=true/\BF t R ⟨cs++[c],v0,v1,v2,v3,cn⟩ S' H'/\S' 8=.int .i64 (i:Nat)) ?_ ?_
  .refine kC ?_;refine aY (λS' H'=>BF t R ⟨cs,v0,v1,v2,v3,cn⟩ S' H'/\S' 8=.int .i64 (i:Nat)/\S' 9=.box 9 0/\H' 9=some [.int .i64 c.lo,.int .i64 c.hi,.bool c.hid]/\S' 10=.bool bo) ?_ ?_
   .obtain⟨s0,s2,e2,s4,s7,e7⟩:=hI;simp[af,ae,s4,s8,strs,aN,hr];refine oc a51 ?_;simp[af,ae,s8,gD,cD];exact⟨by simp[af,ae,s0],by simp[af,ae,s2],by simp[af,ae,e2],by simp[af,ae,s4,strs],by simp[af,ae,s7],by simp[af,ae,e7]⟩
   clear hI s8 WZ S H;rintro S H ⟨⟨s0,s2,e2,s4,s7,e7⟩,s8,s9,e9,cE⟩
   cases bo with
   |false=>
    rw[if_neg zd]at Ad
    have J9:o=none:=by rw[<-hX,hF,Ad]<;>rfl
    subst J9;simp[af,ae,s2,e2,cE,cD,lJ,fw,lR,ef,tW,eC,grow,yF,cH,bh,ai,cn,ints]
   |true=>
   refine aY (λS' H'=>BF t R ⟨cs,v0,v1,v2,v3,cn⟩ S' H'/\S' 8=.int .i64 (i:Nat)/\S' 9=.box 9 0/\H' 9=some [.int .i64 c.lo,.int .i64 c.hi,.bool c.hid]) ?_ ?_
   .simp[af,ae,s8,s9,e9,cE];exact⟨by simp[af,ae,s0],by simp[af,ae,s2],by simp[af,ae,e2],by simp[af,ae,s4,strs],by simp[af,ae,s7],by simp[af,ae,e7]⟩
   clear s0 s2 e2 s4 s7 e7 s8 s9 e9 cE S H;rintro S H ⟨⟨s0,s2,e2,s4,s7,e7⟩,s8,s9,e9⟩;have ac0:br 3 [AV.agg [.int .i64 c.lo,.int .i64 c.hi,.bool c.hid]]=true:=rfl;simp[s7,e7,tW,s9,e9,ac0,cD,ef];refine gv (cs.map gD) (gD c) (.own 67) ah7 (by simp[gD]) rfl (Qy cs) (by rw[aef];omega) ?_;intro S' sd dp;simp[sd,dp,s7,s8];exact⟨⟨by simp[af,ae,dp,s0],by simp[af,ae,dp,s2],by simp[af,ae,e2],by simp[af,ae,dp,s4,strs],by simp[af,ae,dp,s7],by simp[af,ae,tW,sd,grow]⟩,by simp[af,ae,dp,s8]⟩
  clear hI s8 WZ S H;rintro S H ⟨hbt,⟨s0,s2,e2,s4,s7,e7⟩,s8⟩;subst hbt;rw[if_pos rfl]at Ad;have nv:IntKind.i64.wrap ((i:Int)+1)=i+1:=bU zo;simp[af,ae,s8,nv];refine⟨aN,cs++[c],by simpa using Ad,by simp;omega,?_,⟨by simp[af,ae,s0],by simp[af,ae,s2],by simp[af,ae,e2],by simp[af,ae,s4,strs],by simp[af,ae,s7],by simp[af,ae,e7]⟩⟩;intro d hd;rcases aeg.1 hd with hd|hd
  .exact C5 d hd
  .rw[aev]at hd;subst hd;exact UM rfl
 clear hI S H;rintro S H ⟨cs,SE,lL,C5,⟨s0,s2,e2,s4,s7,e7⟩⟩;rw[SE]at hF
 have hX:yq t ⟨cs,v0,v1,v2,v3,cn⟩=o:=by rw[<-hX,hF]<;>rfl
 have ZC:=hnN cs C5;have a46:=YS (GI:=GI) hG ⟨cs,v0,v1,v2,v3,cn⟩ ZC (by show cs.length<=900;omega)
 have Iu:yq t ⟨cs,v0,v1,v2,v3,cn⟩=if(lQ t (eS ⟨cs,v0,v1,v2,v3,cn⟩)&&decide (t.length<=(eS ⟨cs,v0,v1,v2,v3,cn⟩).length+320))=true then(match lr (t.drop (eS ⟨cs,v0,v1,v2,v3,cn⟩).length)with
  |.ok y=>if iB ⟨cs,v0,v1,v2,v3,y⟩=t then some ⟨cs,v0,v1,v2,v3,y⟩else none
  |.error _=>none)else none:=rfl
 rw[hX]at Iu
 have Kq:∀y:bw,iB ⟨cs,v0,v1,v2,v3,y⟩=eS ⟨cs,v0,v1,v2,v3,cn⟩++fb y:=λy=>rfl
 generalize eS ⟨cs,v0,v1,v2,v3,cn⟩=u at*
 refine aY (λS' H'=>BF t (hd::tl) ⟨cs,v0,v1,v2,v3,cn⟩ S' H'/\S' 11=.str u) ?_ ?_
 .simp[af,ae,s7,e7,tW];refine oc (by simpa[cH,bh,ai,cn,vI,ints]using a46) ?_;simp[af,ae];exact⟨by simp[af,ae,s0],by simp[af,ae,s2],by simp[af,ae,e2],by simp[af,ae,s4,strs],by simp[af,ae,s7],by simp[af,ae,e7,tW]⟩
 clear s0 s2 e2 s4 s7 e7 S H;rintro S H ⟨⟨s0,s2,e2,s4,s7,e7⟩,cG⟩
 obtain⟨bg,pL⟩:∃bg,(lQ t u&&decide (t.length<=u.length+320))=bg:=⟨_,rfl⟩
 rw[pL]at Iu;refine mS (λS' H'=>BF t (hd::tl) ⟨cs,v0,v1,v2,v3,cn⟩ S' H'/\S' 11=.str u/\S' 102=.bool (!bg)) ?_ ?_
 .by_cases hl:u.length<=t.length
  case neg=>
   have rK:(t.length:Int)<u.length:=zo
   have:bg=false:=by rw[<-pL];unfold lQ;simp[hl]
   subst this;simp[af,ae,s0,cG,rK];exact⟨by simp[af,ae,s0],by simp[af,ae,s2],by simp[af,ae,e2],by simp[af,ae,s4,strs],by simp[af,ae,s7],by simp[af,ae,e7]⟩
  have rK:¬(t.length:Int)<u.length:=zo
  have hlJ:(u.length:Int)<=t.length:=zo
  by_cases hp:t.take u.length=u
  case neg=>
   have:bg=false:=by rw[<-pL];unfold lQ;simp[hp]
   subst this
   have Tf:(t.take u.length !=u)=true:=by simpa using hp
   simp[af,ae,s0,cG,rK,hlJ,hl,bound,Tf,hp];exact⟨by simp[af,ae,s0],by simp[af,ae,s2],by simp[af,ae,e2],by simp[af,ae,s4,strs],by simp[af,ae,s7],by simp[af,ae,e7]⟩
  have hw:IntKind.i64.wrap ((t.length:Int)-u.length)=t.length-u.length:=bU zo
  have Tf:(t.take u.length !=u)=false:=by simpa using hp
  by_cases h3:t.length<=u.length+320
  .have h3I:¬(320:Int)<t.length-u.length:=zo
   have:bg=true:=by rw[<-pL];unfold lQ;simp[hl,hp,h3]
   subst this;simp[af,ae,s0,cG,rK,hlJ,hl,bound,Tf,hp,hw,h3I];exact⟨by simp[af,ae,s0],by simp[af,ae,s2],by simp[af,ae,e2],by simp[af,ae,s4,strs],by simp[af,ae,s7],by simp[af,ae,e7]⟩
  .have h3I:(320:Int)<t.length-u.length:=zo
   have:bg=false:=by rw[<-pL];simp[h3]
   subst this;simp[af,ae,s0,cG,rK,hlJ,hl,bound,Tf,hp,hw,h3I];exact⟨by simp[af,ae,s0],by simp[af,ae,s2],by simp[af,ae,e2],by simp[af,ae,s4,strs],by simp[af,ae,s7],by simp[af,ae,e7]⟩
 clear s0 s2 e2 s4 s7 e7 cG S H;rintro S H ⟨⟨s0,s2,e2,s4,s7,e7⟩,cG,UZ⟩
 cases bg with
 |false=>
  have J9:o=none:=by rw[Iu]<;>rfl
  subst J9;refine yH UZ ?_;simp[af,ae,s2,e2,cD,lJ,fw,lR,ef,tW,eC,grow,yF,cH,bh,ai,cn,ints]
 |true=>
 rw[if_pos rfl]at Iu;have Yz:=pL;rw[aeb,aej]at Yz;obtain⟨hp,adT⟩:=Yz
 have Ek:u.length<=t.length:=by unfold lQ at hp;rw[aeb,aej]at hp;exact hp.1
 refine aY (λS' H'=>BF t (hd::tl) ⟨cs,v0,v1,v2,v3,cn⟩ S' H'/\S' 11=.str u) ?_ ?_
 .simp[af,ae,UZ,cG];exact⟨by simp[af,ae,s0],by simp[af,ae,s2],by simp[af,ae,e2],by simp[af,ae,s4,strs],by simp[af,ae,s7],by simp[af,ae,e7]⟩
 clear s0 s2 e2 s4 s7 e7 cG UZ S H;rintro S H ⟨⟨s0,s2,e2,s4,s7,e7⟩,cG⟩
 have abv:(u.length:Int)<=t.length:=zo
 have Mo:=abR (GI:=GI) hG hT (t.drop u.length) (by rw[aeM];omega);rw[TO]at Mo
 have FI:(zR (t.drop u.length)).2=true->j4 (zR (t.drop u.length)).1/\F' (zR (t.drop u.length)).1/\fb (zR (t.drop u.length)).1=t.drop u.length/\(if iB ⟨cs,v0,v1,v2,v3,(zR (t.drop u.length)).1⟩=t then some (⟨cs,v0,v1,v2,v3,(zR (t.drop u.length)).1⟩:bf)else none)=o:=by
  intro h;unfold zR at h⊢
  cases PU:lr (t.drop u.length)with
  |error e=>rw[PU]at h;cases h
  |ok y=>
   rw[PU]at Iu;obtain⟨q1,q2⟩:=zg PU;exact⟨q2,PI (by rw[aeM];omega) PU,q1,Iu.symm⟩
 have zY:(zR (t.drop u.length)).2=false->o=none:=by
  intro h;unfold zR at h
  cases PU:lr (t.drop u.length)with
  |error e=>rw[PU]at Iu;exact Iu
  |ok y=>rw[PU]at h;cases h
 clear Iu
 generalize hru:t.drop u.length=ru at*
 generalize(zR ru).1=y at*
 generalize(zR ru).2=bz at*
 unfold dj at Mo;refine aY (λS' H'=>BF t (hd::tl) ⟨cs,v0,v1,v2,v3,cn⟩ S' H'/\S' 12=.box 12 0/\H' 12=some (ai y)/\S' 13=.bool bz) ?_ ?_
 .simp[af,ae,s0,cG,bound,abv,Ek,hru];refine oc Mo ?_;simp[af,ae,ai,cD];exact⟨by simp[af,ae,s0],by simp[af,ae,s2],by simp[af,ae,e2],by simp[af,ae,s4,strs],by simp[af,ae,s7],by simp[af,ae,e7]⟩
 clear s0 s2 e2 s4 s7 e7 cG S H;rintro S H ⟨⟨s0,s2,e2,s4,s7,e7⟩,dN,e12,dY⟩;refine aY (λS' H'=>S' 0=.str t/\S' 2=.box 2 0/\H' 2=some (tW eC)/\S' 7=.box 7 0/\H' 7=some ((tW ⟨cs,v0,v1,v2,v3,cn⟩).take 5++ai y)/\S' 13=.bool bz) ?_ ?_
 .simp[af,ae,s0,s2,e2,s7,e7,dN,e12,dY,ai,tW,cD,ef]
 clear s0 s2 e2 s4 s7 e7 dN e12 dY S H;rintro S H ⟨s0,s2,e2,s7,e7,dY⟩
 replace e7:H 7=some [grow 67 (cs.map gD),.int .i64 v0,.int .i64 v1,.int .i64 v2,.int .i64 v3,vI y.bJ,.slice .view (y.bK.map eH),.int .i64 y.fV,.int .i64 y.fU,.int .i64 y.ir,.int .i64 y.iu,.int .i64 y.dc,.slice .view (y.words.map dP),.int .i64 y.wide,.int .i64 y.rows]:=e7
 obtain⟨bp,hbp⟩:∃bp,(bz&&decide (iB ⟨cs,v0,v1,v2,v3,y⟩=t))=bp:=⟨_,rfl⟩
 have kl:o=if bp=true then some ⟨cs,v0,v1,v2,v3,y⟩else none:=by
  rw[<-hbp]
  cases bz with
  |false=>rw[zY rfl]<;>rfl
  |true=>rw[<-(FI rfl).2.2.2];simp
 refine mS (λS' H'=>S' 2=.box 2 0/\H' 2=some (tW eC)/\S' 7=.box 7 0/\H' 7=some [grow 67 (cs.map gD),.int .i64 v0,.int .i64 v1,.int .i64 v2,.int .i64 v3,vI y.bJ,.slice .view (y.bK.map eH),.int .i64 y.fV,.int .i64 y.fU,.int .i64 y.ir,.int .i64 y.iu,.int .i64 y.dc,.slice .view (y.words.map dP),.int .i64 y.wide,.int .i64 y.rows]/\S' 121=.bool (!bp)) ?_ ?_
 .cases bz with
  |false=>
   have:bp=false:=by rw[<-hbp]<;>rfl
   subst this;simp[af,ae,s0,s2,e2,s7,e7,dY]
  |true=>
   obtain⟨q1,q2,q3,_⟩:=FI rfl
   have PC:(iB ⟨cs,v0,v1,v2,v3,y⟩).length<1000000:=by
    rw[Kq,aeu,q3,<-hru,aeM];omega
   have a12:=Ye (GI:=GI) hG ⟨cs,v0,v1,v2,v3,y⟩ ⟨ZC.head,ZC.cells⟩ (by show cs.length<=900;omega) q1 q2 PC
   have Tf:(iB ⟨cs,v0,v1,v2,v3,y⟩!=t)=!bp:=by rw[<-hbp];by_cases h:iB ⟨cs,v0,v1,v2,v3,y⟩=t<;>simp[h]
   generalize iB ⟨cs,v0,v1,v2,v3,y⟩=pt at*
   simp[af,ae,s0,s2,e2,s7,e7,dY];refine oc (by simpa[cH,bh,ai,vI,ints]using a12) ?_;simp[af,ae,s0,s2,e2,s7,e7,dY,Tf]
 clear s0 s2 e2 s7 e7 dY S H;rintro S H ⟨s2,e2,s7,e7,Yl⟩
 cases bp with
 |false=>
  have J9:o=none:=by rw[kl]<;>rfl
  subst J9;refine yH Yl ?_;simp[af,ae,s2,e2,cD,lJ,fw,lR,ef,tW,eC,grow,yF,cH,bh,ai,cn,ints]
 |true=>
  have J9:o=some ⟨cs,v0,v1,v2,v3,y⟩:=by rw[kl]<;>rfl
  subst J9;rw[TV]at e2;simp[af,ae,Yl,s2,e2,s7,e7,cD,lJ,fw,lR,ef,yF,cH,bh,ai,vI,ints]
end Go.Proofs.Tryz
namespace Go.Proofs.YtajdcjkalbbogaaGreatDoor
open Go Go.AL Go.ChangeShapes Go.WideShapes Go.ChangeAt Go.RowKit Go.Proofs.Tryz
def IZ:mapsRowed Tryz.prog=true:=by kernel_rfl
def VW:(Tryz.prog.stops==[])=true:=by kernel_rfl
def Jh:(Tryz.prog.stopKnobs==[])=true:=by kernel_rfl
def Kw:Tryz.prog.plainKeys=false:=by kernel_rfl
def Gt:Tryz.prog.stopsHeard=true:=by kernel_rfl
def TD:true=Tryz.prog.looks []:=by kernel_rfl
def Px {f:FuncId} {fn:Func} {s:ChangeSpec} {c:OpenClaim}
  (h0:c.stops=[]/\c.knobs=[]/\c.plainKeys=false/\c.shortTexts=none/\c.lifted=false/\c.make=.cut)
  (h1:c.wf (OpenSpec.ofChange s)=true) (h2:fn.params.all (Tryz.prog.readableRec ·)=true) (h3:namedTie Tryz.prog c.named s.vars=true)
  (h4:(c.inPlace==Tryz.prog.inPlace f)=true) (h5:(c.unfollowed==Tryz.prog.unfollowed f)=true) (h6:(c.recurses==Tryz.prog.recurses f)=true) (h7:(c.named==Tryz.prog.varsNamed f)=true)
  (h8:((c.maps==(fn.params.toList++s.plain.varTypes Tryz.prog).any (Tryz.prog.mapsRec ·))&&(c.ifaces==(fn.params.toList++s.plain.varTypes Tryz.prog).any (Tryz.prog.ifacesRec ·))&&(c.mapsOut==Tryz.prog.mapsAmong fn.resultTypes.toList)&&
   (c.loops==(fn.params.toList++s.plain.varTypes Tryz.prog).any (Tryz.prog.loopsFrom ·))&&(c.wideKeys==(fn.params.toList++s.plain.varTypes Tryz.prog++fn.resultTypes.toList).any (Tryz.prog.wideKeysFrom ·))&&
   s.vars.all (Tryz.prog.varReadable ·)&&fn.resultTypes.all (λt=>Tryz.prog.readableRec t&&decide (t<Tryz.prog.types.size))&&(c.ifacesOut==fn.resultTypes.toList.any (Tryz.prog.ifacesRec ·))&&(c.loopsOut==fn.resultTypes.toList.any (Tryz.prog.loopsFrom ·)))=true)
  (h9:(c.kinds==(if c.domain.isEmpty then[]else fn.params.toList.map λt=>match Tryz.prog.underlying t with|some (.int k)=>some k|_=>none))=true) (oL:(c.pinned==c.pinnedBy)=true)
  (VU:((c.veiled==(fn.params.toList++s.plain.varTypes Tryz.prog++fn.resultTypes.toList).any (Tryz.prog.veiledRec ·))&&c.veiledFits Tryz.prog fn.params.toList (fn.params.toList++s.plain.varTypes Tryz.prog++fn.resultTypes.toList))=true):
  joinedFacts Tryz.prog f fn s c=true:=by
 obtain⟨a1,a2,a3,a4,a5,a6⟩:=h0;unfold joinedFacts;simp only[aeb]at h8 VU⊢;obtain⟨⟨⟨⟨⟨⟨⟨⟨b1,b2⟩,b3⟩,b4⟩,b5⟩,b6⟩,b7⟩,b8⟩,b9⟩:=h8;refine⟨⟨⟨⟨⟨⟨⟨⟨⟨⟨⟨⟨⟨⟨⟨⟨⟨⟨⟨⟨⟨⟨⟨⟨⟨⟨⟨⟨⟨⟨⟨h1,HJ⟩,IZ⟩,h2⟩,h3⟩,?_⟩,VW⟩,?_⟩,Jh⟩,h4⟩,h5⟩,h6⟩,h7⟩,b1⟩,b2⟩,b3⟩,b4⟩,b5⟩,b6⟩,b7⟩,b8⟩,b9⟩,?_⟩,?_⟩,Gt⟩,Mv⟩,?_⟩,?_⟩,h9⟩,oL⟩,VU.1⟩,VU.2⟩
 .rw[a1];rfl
 .rw[a2];rfl
 .rw[a3,Kw];rfl
 .rw[a4];rfl
 .rw[a5,Gy];rfl
 .rw[Xv,a6];rfl
def Tr {G:World→Prop} {f:Nat} {XW:List AV} {W:World} {args:Array Value} (h:AC Tryz.prog G f XW (.ret (.bool true))) (hG:G W) (hl:XW.length=args.size) (hr:∀ i (h:i < XW.length) (h':i < args.size),RV T0 (fun _=>none) W XW[i] args[i]) :
  Calls Tryz.prog f args W λe W'=>e=.returned (.bool true)/\Below W.heap.size W W':=by
 refine(h W T0 args hG hl hr).mono ?_;rintro e W' ⟨hb,hi,_,c,rfl,hv,_⟩
 cases hv with
 |data _ _ h=>cases h with
  |bool b=>exact⟨rfl,hb⟩
end Go.Proofs.YtajdcjkalbbogaaGreatDoor
namespace Go.Proofs.Tryz
open Go Go.AL Go.RowKit Go.Proofs Go.Proofs.Tram
attribute [local simp] aU bB bm aO aV aJ aK av az aW aw ao bO bP an ar ev aM.S aM.H bj aF bl AL.start AV.cells AV.storable AV.aZ aP bt bV bu HR.okB post bQ bG bH AV.out AV.aX aG aL fz cL AV.vw bT vI int a_ aq bD bq cd cj bZ bI aI AV.bC AV.dE
def bS:bw:=⟨[6,4,8],[⟨0,1,1,3⟩,⟨2,0,0,2⟩],2,4,5,8,3,[⟨[2,0,1],[],false⟩,⟨[0,2],[1],true⟩],18,2⟩
variable{GI:World->Prop}
def Km(hG:aQ GI)(a b:Int):AC prog GI 114 [.int .i64 a,.int .i64 b] (.ret (dz (a,b))):=by
 obtain⟨i33,Tu,UD⟩:=iZ 26 2;obtain⟨fs,fw⟩:=uZ 26;refine dF hG func114 ntmps114 c114 ?_;simp[c114,Tu,UD,fw,ef,dz,cD]
def adw(hG:aQ GI):AC prog GI 57 [] (.ret (dj { bS with wide:=21 })):=by
 obtain⟨i36,tt,tx⟩:=iZ 29 10;obtain⟨fs,fw⟩:=uZ 29;refine dF hG func57 ntmps57 c57 ?_;simp[c57,br];refine oc (Km hG 1 3) ?_;simp[dz,cD,br];refine oc (Km hG 0 2) ?_;simp[dz,cD,br];refine oc (Km hG 2 4) ?_;simp[dz,cD,br];refine oc (Km hG 5 8) ?_;simp[dz,cD,br,tt,tx,fw,ef,dj,ai,bS,dP,eH,ints]
end Go.Proofs.Tryz
namespace Go.Proofs.Tryz
open Go Go.AL Go.RowKit Go.Proofs Go.Proofs.Tram
attribute [local simp] aU bB bm aO aV aJ aK av az aW aw ao bO bP an ar ev aM.S aM.H bj aF bl AL.start AV.cells AV.storable AV.aZ aP bt bV bu HR.okB post bQ bG bH AV.out AV.aX aG aL fz cL AV.vw bT vI int a_ aq bD bq cd cj bZ bI aI AV.bC AV.dE
variable{GI:World->Prop}
def mU:bf:=⟨[⟨2,3,false⟩,⟨2,2,false⟩,⟨1,2,true⟩,⟨3,4,false⟩,⟨2,5,false⟩,⟨1,1,false⟩],6,5,2,1,{ bS with wide:=21 }⟩
def FE:bf:={ mU with fh:=1 }
def zb:bf:={ mU with name:=⟨[5],[],0,0,0,0,1,[⟨[0,0,0,0],[1,3],false⟩],16,2⟩ }
def Jn:wU zb=[vI [9],.int .i64 0]:=by kernel_rfl
def JG:J1 mU=[.slice .view (ct [(1,1),(3,5)]),.int .i64 0]:=by kernel_rfl
def LN:yV mU [3,2,2,4,5,1]=[.int .i64 2,.int .i64 0]:=by kernel_rfl
def MR:qq 0 mU=[.int .i64 1,.int .i64 0]:=by kernel_rfl
def KR:qq 1 zb=[.int .i64 1,.int .i64 0]:=by kernel_rfl
def Lw:t_ mU 1=[.int .i64 2,.int .i64 0]:=by kernel_rfl
def Nc:yP mU=[.int .i64 1,.int .i64 4,.int .i64 0]:=by kernel_rfl
def N6:GR FE=[.int .i64 3,.int .i64 0]:=by kernel_rfl
def LI:y4 mU=[.int .i64 1,.int .i64 0]:=by kernel_rfl
def NQ:yN FE=[.int .i64 4,.int .i64 2,.int .i64 0]:=by kernel_rfl
def uV:gY mU:=⟨zd,zd,zd,zd,λw hw=>by
 simp[mU,bS]at hw;rcases hw with rfl|rfl<;>decide,λw hw=>by
 simp[mU,bS]at hw;rcases hw with rfl|rfl<;>decide⟩
def Vs:gY FE:=⟨uV.cells,uV.name⟩
def U5:gY zb:=⟨zd,zd,zd,zd,λw hw=>by
 simp[zb]at hw;subst hw;decide,λw hw=>by
 simp[zb]at hw;subst hw;decide⟩
def Hc(hG:aQ GI)(lo hi:Int)(hid:Bool):AC prog GI 56 [.int .i64 lo,.int .i64 hi,.bool hid] (.ret (gD ⟨lo,hi,hid⟩)):=by
 obtain⟨i52,M8,KT⟩:=iZ 67 3;obtain⟨fs,fw⟩:=uZ 67;refine dF hG func56 ntmps56 c56 ?_;simp[c56,M8,KT,fw,ef,gD,cD]
def Ao:∃it,prog.info? 31=some it/\it.size=15:=ER zk
def Wb(hG:aQ GI):AC prog GI 19 [] (.ret (cH mU)):=by
 obtain⟨i31,lJ,lR⟩:=Ao;obtain⟨fs,fw⟩:=uZ 31;refine dF hG func19 ntmps19 c19 ?_;simp[c19];refine oc (Hc hG 2 3 false) ?_;simp[gD];refine oc (Hc hG 2 2 false) ?_;simp[gD];refine oc (Hc hG 1 2 true) ?_;simp[gD];refine oc (Hc hG 3 4 false) ?_;simp[gD];refine oc (Hc hG 2 5 false) ?_;simp[gD];refine oc (Hc hG 1 1 false) ?_;simp[gD,br];refine oc (adw hG) ?_;simp[gD,br,cD,lJ,lR,fw,ef,cH,bh,dj,ai,mU]
def ac_(hG:aQ GI)(s:bf)(p:Int):AC prog GI 68 [cH s,.int .i64 p] (.ret (cH { s with fh:=p })):=by
 obtain⟨i31,lJ,lR⟩:=Ao;obtain⟨fs,fw⟩:=uZ 31;refine dF hG func68 ntmps68 c68 ?_;simp[c68,cH,bh,ai,lJ,lR,fw,ef,cD]
def abY(hG:aQ GI):AC prog GI 26 [] (.ret (cH FE)):=by
 obtain⟨i31,lJ,lR⟩:=Ao;obtain⟨fs,fw⟩:=uZ 31;have h:=ac_ hG mU 1;refine dF hG func26 ntmps26 c26 ?_;simp[c26];refine oc (Wb hG) ?_;simp[cH,bh,ai];refine oc h ?_;simp[lJ,lR,fw,ef,cD,cH,bh,ai,FE]
def adB(hG:aQ GI):AC prog GI 17 [] (.ret (cH zb)):=by
 obtain⟨i31,lJ,lR⟩:=Ao;obtain⟨fs,fw⟩:=uZ 31;refine dF hG func17 ntmps17 c17 ?_;simp[c17];refine oc (Wb hG) ?_;simp[lJ,lR,fw,ef,cD,br,cH,bh,ai,zb,dP,ints]
end Go.Proofs.Tryz
namespace Go.Proofs.Tryz
open Go Go.AL Go.RowKit Go.Proofs Go.Proofs.Tram
attribute [local simp] aU bB bm aO aV aJ aK av az aW aw ao bO bP an ar ev aM.S aM.H bj aF bl AL.start AV.cells AV.storable AV.aZ aP bt bV bu HR.okB post bQ bG bH AV.out AV.aX aG aL fz cL AV.vw bT vI int a_ aq bD bq cd cj bZ bI aI
variable{GI:World->Prop}
def nz(s:bf)(out:List Int):bf:={ s with name:=HC s.name out }
def SM{s:bf}(hs:eb s=true){l:List Int}(ho:iP s.name l=true):eb (nz s l)=true:=by
 unfold eb at hs⊢;rw[aeb]at hs⊢;exact⟨hs.1,KN hs.2 ho⟩
def CY(s:bf)(l:List Word):List AV:=[.slice .view (s.cells.map gD),.int .i64 s.pos,.int .i64 s.reach,.int .i64 s.fh,.int .i64 s.eF,vI s.name.bJ,.slice .view (s.name.bK.map eH),.int .i64 s.name.fV,.int .i64 s.name.fU,.int .i64 s.name.ir,.int .i64 s.name.iu,.int .i64 s.name.dc,grow 48 (l.map dP),.int .i64 s.name.wide,.int .i64 s.name.rows]
def PZ(l:List Word):br 3 (l.map dP)=true:=iJ λa=>⟨rfl,rfl⟩
def aaW(hG:aQ GI)(s:bf)(hl:s.name.words.length<1000)(out:List Int)(ho:out.length<1000000):AC prog GI 119 [cH s,vI out] (.ret (cH (nz s out))):=by
 obtain⟨it,lJ,lR⟩:=Ao;obtain⟨fs,fw⟩:=uZ 31
 have abg:=λi:Nat=>P5 (GI:=GI) hG out ho (i:Int)
 refine dF hG func119 ntmps119 c119 ?_;refine aY (λS H=>S 1=vI out/\S 2=.box 2 0/\H 2=some (bh s)/\S 4=.box 4 0/\∃z,H 4=some z/\z.length=15) (by simp[cH,bh,ai,AV.bC,AV.dE]) ?_;rintro S H ⟨s1,s2,h2,s4,z,h4,hz⟩;refine aY (λS H=>S 1=vI out/\S 2=.box 2 0/\H 2=some (bh s)/\S 4=.box 4 0/\H 4=some z/\S 5=.box 5 0/\H 5=some (bh s)) (by simp[s1,s2,h2,s4,h4,bh,ai,AV.bC,AV.dE]) ?_;clear s1 s2 h2 s4 h4 S H;rintro S H ⟨s1,s2,h2,s4,h4,s5,h5⟩;refine aY (λS H=>S 1=vI out/\S 2=.box 2 0/\H 2=some (bh s)/\S 4=.box 4 0/\H 4=some z/\S 5=.box 5 0/\H 5=some (CY s [])) (by simp[s1,s2,h2,s4,h4,s5,h5,bh,ai,CY,grow,AV.bC,AV.dE]) ?_;clear s1 s2 h2 s4 h4 s5 h5 S H;rintro S H ⟨s1,s2,h2,s4,h4,s5,h5⟩;refine aY (λS H=>S 4=.box 4 0/\H 4=some z/\S 5=.box 5 0/\H 5=some (CY s (lO out 0 s.name.words))) ?_ ?_
 .simp[s1,s2,h2,s4,h4,s5,h5,bh,ai,AV.bC,AV.dE];refine cK 15 s.name.words.length (λi S H=>S 1=vI out/\S 13=.slice .view (s.name.words.map dP)/\S 14=.int .i64 s.name.words.length/\S 4=.box 4 0/\H 4=some z/\S 5=.box 5 0/\H 5=some (CY s (lO out 0 (s.name.words.take i)))/\S 15=.int .i64 (i:Nat)) (λi S H h=>h.2.2.2.2.2.2.2) ⟨by simp[s1,AV.bC,AV.dE],by simp[s1,h2,bh,ai,AV.bC,AV.dE],by simp[s1,h2,bh,ai,AV.bC,AV.dE],by simp[s4,AV.bC,AV.dE],by simp[h4,AV.bC,AV.dE],by simp[s5,AV.bC,AV.dE],by simp[h5,lO,AV.bC,AV.dE],by simp[AV.bC,AV.dE]⟩ ?_;clear s1 s2 h2 s4 h4 s5 h5 S H;rintro i hi S H ⟨s1,dY,eQ,s4,h4,s5,h5,kc⟩
  by_cases aN:i<s.name.words.length
  case neg=>
   have dV:i=s.name.words.length:=zo
   subst dV;rw[aee (aed _)]at h5;simp[s1,dY,eQ,s4,h4,s5,h5,kc,AV.bC,AV.dE]
  have hw:IntKind.i64.wrap ((i:Int)+1)=i+1:=bU zo;have eB:=OD out aN;have hle:=xb out (s.name.words.take i) 0
  have QR:(lO out 0 (s.name.words.take i)).length<1000:=by rw[aes]at hle;omega
  obtain⟨wd,wq⟩:∃wd,s.name.words[i]=wd:=⟨_,rfl⟩
  have a198:=abg i;rw[eB]
  generalize lO out 0 (s.name.words.take i)=L at*
  refine aY (λS H=>S 1=vI out/\S 13=.slice .view (s.name.words.map dP)/\S 14=.int .i64 s.name.words.length/\S 4=.box 4 0/\H 4=some z/\S 5=.box 5 0/\H 5=some (CY s L)/\S 15=.int .i64 (i:Nat)/\S 16=.bool true) (by simp[s1,dY,eQ,s4,h4,s5,h5,kc,aN,AV.bC,AV.dE]) ?_;clear s1 dY eQ s4 h4 s5 h5 kc S H;rintro S H ⟨s1,dY,eQ,s4,h4,s5,h5,kc,gk⟩
  cases hc:out.contains (i:Int)with
  |true=>
   rw[hc]at a198;simp[s1,dY,eQ,s4,h4,s5,h5,kc,gk,aN,wq,dP,AV.bC,AV.dE];refine oc a198 ?_;simp[s1,dY,eQ,s4,h4,s5,h5,kc,gk,aN,wq,dP,hw,AV.bC,AV.dE]
  |false=>
   rw[hc]at a198;simp[s1,dY,eQ,s4,h4,s5,h5,kc,gk,aN,wq,dP,AV.bC,AV.dE];refine oc a198 ?_;have df:=PZ L
   have hL:(L.map dP).length<1000:=by simpa using QR
   have e1:(L++[s.name.words[i]]).map dP=L.map dP++[dP wd]:=by rw[aeB,wq]<;>rfl
   have k3:br 3 [AV.agg [.slice .view (ints wd.cb),.slice .view (ints wd.dq),.bool wd.free]]=true:=rfl;simp only[wq]at e1;simp[CY,e1];unfold CY at h5
   generalize L.map dP=M at*
   cases M with
   |nil=>
    have xn:grow 48 []=.slice .nil []:=rfl;simp[s1,dY,eQ,s4,h4,s5,h5,kc,gk,aN,wq,xn,hw,k3,dP,AV.bC,AV.dE]
    try rfl
   |cons y M=>
    have xn:grow 48 (y::M)=.slice (.own 48) (y::M):=rfl
    have Wi:∀z,grow 48 (y::(M++[z]))=.slice (.own 48) (y::(M++[z])):=λ_=>rfl
    have pq:M.length+1+1<1048576:=by simp at hL;omega
    simp[s1,dY,eQ,s4,h4,s5,h5,kc,gk,aN,wq,xn,Wi,hw,k3,df,pq,dP,AV.bC,AV.dE]
 .clear s1 s2 h2 s4 h4 s5 h5 S H;rintro S H ⟨s4,h4,s5,h5⟩;have acx:List.drop 15 z=[]:=afj zo;unfold CY at h5;simp[s4,h4,s5,h5,hz,acx,lJ,lR,fw,ef,cm,ck,aT];simp[cH,bh,ai,nz,HC,vI,ints]
end Go.Proofs.Tryz
namespace Go.Proofs.Tryz
open Go Go.AL Go.RowKit Go.Proofs Go.Proofs.Tram
attribute [local simp] aU bB bm aO aV aJ aK av az aW aw ao bO bP an ar ev aM.S aM.H bj aF bl AL.start AV.cells AV.storable AV.aZ aP bt bV bu HR.okB post bQ bG bH AV.out AV.aX aG aL fz cL AV.vw bT vI int a_ aq bD bq cd cj bZ bI aI AV.bC AV.dE
variable{GI:World->Prop}
section
variable{w0:World}{n:Nat}{g:Gh}{S:au}{H:aD}{a:Act}{w:World}{d:Nat}
def Sk{k:Nat->Option Obj}{b:Nat}(o:Option Obj)(h:k b=none):aF (aF k b o) b none=k:=by
 funext c
 by_cases hc:c=b
 .subst hc;simp[aF,h]
 .simp[aF,hc]
def zq {k:Nat} {us:Array Value} (km:eU prog k=true) (R:Rel prog w0 n dh g S H a w) {X:au→aD→Prop}
  (hc:∀g1 w1,Rel prog w0 n dh g1 S H a w1->g1.old={ g.old with cg:=aF g.old.cg w.heap.size (some (.cells #[.int .i64 0] 34)) }->Below w.heap.size w w1->w1=w.alloc (.cells #[.int .i64 0] 34)->
   Calls prog k us w1 λe w2=>e=.returned (.tuple #[])/\∃(c:Value)(g':Gh)(S':au)(H':aD),g'.old=g1.old/\Rel prog w0 n dh g' S' H' (a.put (some d) c) w2/\X S' H'):
  Calls prog 40 #[.func (.func k) #[] us] w λe w2=>e=.returned (.int .i64 0)/\∃(c:Value)(g':Gh)(S':au)(H':aD),g'.old=g.old/\Rel prog w0 n dh g' S' H' (a.put (some d) c) w2/\X S' H':=by
 have R1:=R.o9 (.cells #[.int .i64 0] 34);have zv:=uL R;refine nH km (hc _ _ R1 rfl ((afb _ _).alloc (aed _) _) rfl) ?_;rintro e w2 ⟨rfl,c,g',S',H',ho,R2,hX⟩
 have hk:g'.old.cg w.heap.size=some (.cells #[.int .i64 0] 34):=by rw[ho];exact bX _ _ _
 have lI:=(R2.kept _ _ hk).2.1;have aN:=(aea.1 lI).1;refine⟨aN,⟨_,_,lI⟩,.inl ⟨_,rfl,rfl,c,_,S',H',?_,(R2.uM w.heap.size).kG ?_,hX⟩⟩
 .show({ g'.old with cg:=aF g'.old.cg w.heap.size none }:Old)=_;rw[ho];show({ g.old with cg:=aF (aF g.old.cg w.heap.size (some (.cells #[.int .i64 0] 34))) w.heap.size none }:Old)=_;rw[Sk _ zv]
 .refine⟨rfl,rfl,rfl,ah7,λk dp=>?_⟩
  by_cases hb:k=w.heap.size
  .subst hb;rw[afV w2 _ _ _ _ _ lI,lI]
  .exact afm w2 _ k _ hb
def CU {k:Nat} {us:Array Value} (km:eU prog k=true) (R:Rel prog w0 n dh g S H a w) {r:Int}
  (hc:∀g1 w1,Rel prog w0 n dh g1 S H a w1->Below w.heap.size w w1->w1=w.alloc (.cells #[.int .i64 0] 34)->
   Calls prog k us w1 λe w2=>Below w1.heap.size w1 w2/\((r=7/\∃n,e=.panicked [{ v:=.iface 131 (.agg #[.int .i64 n]),recovered:=false }])\/(r=4/\∃s:List UInt8,e=.panicked [{ v:=.iface 133 (.agg #[.string ⟨s.toArray⟩]),recovered:=false }]))):
  Calls prog 40 #[.func (.func k) #[] us] w λe w2=>e=.returned (.int .i64 r)/\∃g',g'.old=g.old/\Rel prog w0 n dh g' S H a w2:=by
 have R1:=R.o9 (.cells #[.int .i64 0] 34);have zv:=uL R;refine nH km (hc _ _ R1 ((afb _ _).alloc (aed _) _) rfl) ?_;rintro en w2 ⟨jo,Xb⟩;have R2:=R1.kG jo;have hk:aF g.old.cg w.heap.size (some (.cells #[.int .i64 0] 34)) w.heap.size=some (.cells #[.int .i64 0] 34):=bX _ _ _;have lI:=(R2.kept _ _ hk).2.1;have aN:=(aea.1 lI).1
 have fin:∀w3,Below w2.heap.size w2 w3->∃g',g'.old=g.old/\Rel prog w0 n dh g' S H a (w3.setRow w.heap.size #[.int .i64 r]):=λw3 pK=>by
  have R3:=R2.kG pK;have DC:=(R3.kept _ _ hk).2.1;have R4:=R3.o_ hk (.cells #[.int .i64 r] 34);rw[oF w3 DC];refine⟨_,?_,R4.uM w.heap.size⟩;show({ g.old with cg:=aF (aF (aF g.old.cg w.heap.size (some (.cells #[.int .i64 0] 34))) w.heap.size (some (.cells #[.int .i64 r] 34))) w.heap.size none }:Old)=_
  have:aF (aF (aF g.old.cg w.heap.size (some (.cells #[.int .i64 0] 34))) w.heap.size (some (.cells #[.int .i64 r] 34))) w.heap.size none=g.old.cg:=by
   funext c
   by_cases hc:c=w.heap.size
   .subst hc;simp[aF,zv]
   .simp[aF,hc]
  rw[this]
 rcases Xb with⟨rfl,k,rfl⟩|⟨rfl,k,rfl⟩
 .exact⟨aN,⟨_,_,lI⟩,.inr (.inl ⟨k,rfl,λw3 pK=>⟨rfl,fin w3 pK⟩⟩)⟩
 .exact⟨aN,⟨_,_,lI⟩,.inr (.inr ⟨k,rfl,λw3 pK=>⟨rfl,fin w3 pK⟩⟩)⟩
variable{i2 i3 i5:Nat}{s x:bf}{out ns:List Int}{b:Bool}{z:AV}
def Fy(s:bf):(bh s).map AV.dE=bh s:=by simp[bh,ai,AV.dE,vI]
def tm(R:Rel prog w0 n dh g S H a w){i:Nat}{cs:List AV}(hi:i<n)(hS:S i=.box i 0)(hH:H i=some cs)(hv:cs.map AV.dE=cs):RV (gz g true) dW w (.ref cs) (a.tmps.getD i undef):=by
 have h:=R.slot i hi id;rw[hS]at h;have:=R.cL h true (λ_=>rfl);simp only[Go.AL.cL,hH,List.drop_zero,hv]at this;exact this
def Qo (hG:aQ GI) (dI:GI w0) (R:Rel prog w0 n dh g S H a w) (zy:i2 < n) (h3n:i3 < n) (PA:i5 < n)
  (xq:S i2=.box i2 0) (yr:H i2=some (bh s)) (OO:S i3=.box i3 0) (hH3:H i3=some [vI out]) (C6:S i5=.box i5 0) (IC:H i5=some [.bool false])
  (FM:AC prog GI 119 [cH s,vI out] (.ret (cH x))) {k:Int} (Hm:AC prog GI 69 [cH x] (.panic (sE k))):
  Calls prog 118 #[a.tmps.getD i2 undef,a.tmps.getD i3 undef,a.tmps.getD i5 undef] w λe w2=>Below w.heap.size w w2/\e=.panicked [{ v:=.iface 131 (.agg #[.int .i64 k]),recovered:=false }]:=by
 have ib:GI w:=hG w0 w dI (by have:=R.below;rwa [R.base]at this)
 have hA:AC prog GI 118 [.ref (bh s),.ref [vI out],.ref [.bool false]] (.panic (sE k)):=by
  refine dF hG func118 ntmps118 c118 ?_;simp[c118,bh,ai];refine oc FM ?_;simp[cH,bh,ai];refine oc Hm ?_;simp[fB]
 refine(hA w (gz g true) #[a.tmps.getD i2 undef,a.tmps.getD i3 undef,a.tmps.getD i5 undef] ib rfl (λi h h'=>?_)).mono ?_
 .match i,h with
  |0,_=>exact tm R zy xq yr (Fy s)
  |1,_=>exact tm R h3n OO hH3 rfl
  |2,_=>exact tm R PA C6 IC rfl
 .rintro en w2 ⟨jo,hi,rI,c,rfl,ec⟩;have hc:=MU ec;subst hc;exact⟨jo,rfl⟩
def RS (hG:aQ GI) (dI:GI w0) (R:Rel prog w0 n dh g S H a w) (hd:d < n) (zy:i2 < n) (h3n:i3 < n) (PA:i5 < n) (RZ:d≠i5)
  (xq:S i2=.box i2 0) (yr:H i2=some (bh s)) (OO:S i3=.box i3 0) (hH3:H i3=some [vI out]) (C6:S i5=.box i5 0) (IC:H i5=some [z])
  (FM:AC prog GI 119 [cH s,vI out] (.ret (cH x))) (Hm:AC prog GI 69 [cH x] (.ret (eM x ns))) (Hk:AC prog GI 67 [eM x ns] (.ret (.bool b))):
  Calls prog 118 #[a.tmps.getD i2 undef,a.tmps.getD i3 undef,a.tmps.getD i5 undef] w λe w2=>e=.returned (.tuple #[])/\∃(c:Value)(g':Gh)(S':au)(H':aD),g'.old=g.old/\Rel prog w0 n dh g' S' H' (a.put (some d) c) w2/\(∀t,t≠d->S' t=S t)/\H'=aF H i5 (some [.bool b]):=by
 have ib:GI w:=hG w0 w dI (by have:=R.below;rwa [R.base]at this);have r2:=tm R zy xq yr (Fy s);have r3:=tm R h3n OO hH3 rfl;obtain⟨b5,Z2,e5⟩:=n_ R PA C6;have cM:=R.size;refine agi func118 rfl ?_;refine(gl (m:=0)).1 ?_;refine iS (λc=>c.tmps.size=8/\c.defers=[]/\c.tmps.getD 0 undef=a.tmps.getD i2 undef/\c.tmps.getD 1 undef=a.tmps.getD i3 undef/\c.tmps.getD 2 undef=a.tmps.getD i5 undef) ⟨by simp[ntmps118],rfl,dQ _ _ 0 ah7,dQ _ _ 1 ah7,dQ _ _ 2 ah7⟩ ?_;rintro aC ⟨zC,dC,t0,t1,t2⟩
 refine my hG (n:=8) (p:=5) (l2:=[5]) rfl zk zk (l:=(ah.dl c118).take 5) zk zd (W:=λt=>decide (3<=t)) zk ib (gz g true)
  (λt=>match t with|0=>.ref (bh s)|1=>.ref [vI out]|2=>.val (.pointer (some ⟨b5,0,none⟩))|_=>.cT) zC dC ?_ (K:=λS' _=>S' 7=.bool b/\S' 2=.val (.pointer (some ⟨b5,0,none⟩))) ?_ ?_
 .intro t ht;split
  .exact⟨rfl,by rw[t0];exact r2⟩
  .exact⟨rfl,by rw[t1];exact r3⟩
  .exact⟨rfl,by rw[t2,e5];exact .data _ _ (.val _ rfl)⟩
  .exact⟨rfl,.cT _⟩
 .simp[c118,ah.dl,bh,ai];refine oc FM ?_;simp[cH,bh,ai];refine oc Hm ?_;simp[eM,cV,bh,ai];refine oc Hk ?_;simp
 .rintro g1 S1 H1 a1 w1 oy R1 ⟨q7,q2⟩ _
  have pn:Below w.heap.size w w1:=by have:=R1.below;rwa [R1.base]at this
  have u7:=R1.slot 7 zd id;rw[q7]at u7;have u7:=u7.gK;have u2:=R1.slot 2 zd id;rw[q2]at u2;have u2:=u2.jT;have R2:=(R.kG pn).put d (.bool b) (.bool b) hd (.data _ _ (.bool _)) trivial;obtain⟨i4,hi4,Tm⟩:=iZ 4 1;have LF:aF S d (.bool b) i5=.box i5 0:=(b_ _ _ (ae0 RZ)).trans C6
  have kI:ar (aF S d (.bool b)) H (.store .any i4.size (.t i5) (.t d))=some { v:=a_,dm:=some d,hw:=some (i5,[.bool b]) }:=by
   simp[ar,ev,LF,C6,ae0 RZ,IC,HR.okB,Tm,AV.cells,AV.storable,AV.aZ,aP,bj,bX]
  obtain ⟨c2,w3,g3,eA,UA,FO,R3⟩:=nW R2 (o:={ dst:=none,op := .store 4 (.tmp i5) (.tmp d),type:=0,pos := "",after := #[],guard:=none }) (x1 := .tmp i5) (x2 := .tmp d) (y1 := .t i5) (y2 := .t d) (hr := .any) rfl rfl hi4 (by simp [ep,PA]) (by simp [ep,hd]) (λ_ _=>id) (λ_ _=>id) kI
  have f5:(a.put (some d) (.bool b)).eval (.tmp i5)=.pointer (some ⟨b5,0,none⟩):=by
   show(a.put (some d) (.bool b)).tmps.getD i5 undef=_;rw[jF _ _ _ _ zo,if_neg (ae0 RZ),e5]
  have fd:(a.put (some d) (.bool b)).eval (.tmp d)=.bool b:=by
   show(a.put (some d) (.bool b)).tmps.getD d undef=_;rw[jF _ _ _ _ zo,if_pos rfl]
  have cP:∀ o:Oper,o.op = .store 4 (.tmp 2) (.tmp 7)->(execOp a1.eval o).run prog w1=(execOp (a.put (some d) (.bool b)).eval { dst:=none,op := .store 4 (.tmp i5) (.tmp d),type:=0,pos := "",after := #[],guard:=none }).run prog w1:=by
   intro o ho;have k2:a1.eval (.tmp 2)=.pointer (some ⟨b5,0,none⟩):=u2;have k7:a1.eval (.tmp 7)=.bool b:=u7;unfold execOp;simp only[ho,k2,k7,f5,fd]
  have fin:∀u:Value,(a1.put none u).defers=[]/\∃v',(results f118 (a1.put none u).tmps).run prog w3=.ok v' w3/\(v'=.tuple #[]/\∃(c:Value)(g':Gh)(S':au)(H':aD),g'.old=g.old/\Rel prog w0 n dh g' S' H' (a.put (some d) c) w3/\(∀t,t≠d->S' t=S t)/\H'=aF H i5 (some [.bool b])):=λu=>
   ⟨R1.defers.trans (by rw[oy]<;>rfl),.tuple #[],by simp[results,results118],rfl,.bool b,g3,_,_,FO,R3,λt ht=>by simp[aM.S,AL.bl,aF,ht],rfl⟩
  have Lm:∀u:Value,(a1.put none u).defers=[]/\∃v',(results f118 (a1.put none u).tmps).run prog w3=.ok v' w3/\(Ending.returned v'=.returned (.tuple #[])/\∃(c:Value)(g':Gh)(S':au)(H':aD),g'.old=g.old/\Rel prog w0 n dh g' S' H' (a.put (some d) c) w3/\(∀t,t≠d->S' t=S t)/\H'=aF H i5 (some [.bool b])):=λu=>by
   obtain⟨q1,v',q2,rfl,q3⟩:=fin u;exact⟨q1,_,q2,rfl,q3⟩
  rcases eA with hr|⟨hr,_⟩
  .exact cI rfl rfl zr ((cP _ rfl).trans hr) (Lm _)
  .exact fD rfl rfl zr ((cP _ rfl).trans hr) (Lm undef)
end
def nF(s:bf)(out:List Int):Bool:=match kU (nz s out).name with
 |some es=>decide (nN 0 (nz s out) (dw (nz s out) es)=(dw (nz s out) es).length)
 |none=>false
def Sz{s:bf}(h:gY s)(out:List Int):gY (nz s out):=by
 have hl:=xb out s.name.words 0;exact⟨h.cells,⟨h.name.bJ,h.name.bK,Nat.lt_of_le_of_lt hl h.name.words,λw hw=>h.name.cb w (tJ hw),λw hw=>h.name.dq w (tJ hw)⟩⟩
def adD(hG:aQ GI)(s:bf)(hs:gY s)(hI:eb s=true)(out:List Int)(ho:iP s.name out=true):AC prog GI 73 [cH s,vI out] (.ret (.bool (nF s out))):=by
 have hI2:=SM hI ho;have hg:=i_ hI;have oN:=i_ hI2;have oz:=(ja hg.name).words;have hol:=LS ho;have a160:=aaW hG s zo out zo;have zc:gY (nz s out):=Sz hs out;unfold nF
 obtain ⟨b,e,hO,oJ⟩:∃ (b:Bool) (e:Int),(match kU (nz s out).name with
   |some es=>decide (nN 0 (nz s out) (dw (nz s out) es)=(dw (nz s out) es).length)
   |none=>false)=(e==0&&b)/\
   ∀(w0:World)(g:Gh)(S:au)(H:aD)(a:Act)(w:World),GI w0->Rel prog w0 14 dh g S H a w->S 2=.box 2 0->H 2=some (bh s)->S 3=.box 3 0->H 3=some [vI out]->S 5=.box 5 0->H 5=some [.bool false]->
    Calls prog 40 #[.func (.func 118) #[] #[a.tmps.getD 2 undef,a.tmps.getD 3 undef,a.tmps.getD 5 undef]] w λen w2=>en=.returned (.int .i64 e)/\∃(c:Value)(g':Gh)(S':au)(H':aD),g'.old=g.old/\Rel prog w0 14 dh g' S' H' (a.put (some 8) c) w2/\S' 5=.box 5 0/\H' 5=some [.bool b]:=by
  cases iG:kU (nz s out).name with
  |some es=>
   have hn:=mP oN (kZ oN.name iG);refine⟨_,0,(agq _).symm,λw0 g S H a w dI R q2 Pj q3 Z1 q5 Xq=>?_⟩
   refine zq (d:=8) zk R λg1 w1 R1 oy _ _=>?_
   refine(RS hG dI R1 (d:=8) zd zd zd zd zd q2 Pj q3 Z1 q5 Xq a160 (Wf hG (nz s out) zc oN iG) (Uy hG (nz s out) oN (dw (nz s out) es) hn)).mono ?_;rintro en w2 ⟨rfl,c,g',S',H',qh,R',rX,vz⟩;exact⟨rfl,c,g',S',H',qh,R',by rw[rX 5 zd];exact q5,by rw[vz];exact bX _ _ _⟩
  |none=>
   refine⟨false,7,rfl,λw0 g S H a w dI R q2 Pj q3 Z1 q5 Xq=>?_⟩;refine(CU zk R (r:=7) λg1 w1 R1 _ _=>?_).mono ?_
   .refine(Qo hG dI R1 zd zd zd q2 Pj q3 Z1 q5 Xq a160 (Mt hG (nz s out) zc oN iG)).mono ?_;rintro en w2 ⟨hb,rfl⟩;exact⟨hb,.inl ⟨rfl,_,rfl⟩⟩
   .rintro en w2 ⟨rfl,g',Bt,R'⟩;exact⟨rfl,undef,g',aF S 8 .cT,H,Bt,R'.put 8 .cT undef zd (.cT _) trivial,(b_ _ _ zd).trans q5,Xq⟩
 rw[hO]
 refine AC.j7 func73 rfl ntmps73 ah7 λcc w=>?_
 refine eR hG c73.qa (λS' H'=>S' 2=.box 2 0/\H' 2=some (bh s)/\S' 3=.box 3 0/\H' 3=some [vI out]) ?_ ?_
 .simp[c73,ah.qa,cH,bh,ai]
 rintro S1 H1 ⟨s2,h2,s3,h3⟩;show SW prog GI 14 none (.seq _ (.seq _ (.seq _ .ret))) _ _ _ _;refine eR hG c73.qb.qa (λS' H'=>S' 2=.box 2 0/\H' 2=some (bh s)/\S' 3=.box 3 0/\H' 3=some [vI out]/\S' 5=.box 5 0/\H' 5=some [.bool false]) ?_ ?_
 .simp[c73,ah.qa,ah.qb,s2,h2,s3,h3]
 clear s2 h2 s3 h3;rintro S3 H3 ⟨s2,h2,s3,h3,s5,h5⟩
 refine SW.seq (SW.hand hG (p:=0) (lm:=[0,1]) (l2:=[2]) (lh:=[]) (oh:=[_,_]) (oA:=[_]) rfl rfl rfl rfl zk (λ_ h=>h) (po:=[]) (ox:=(c73.qb.qb.qa.dl).drop 2) rfl zk rfl zk
  (K1:=λS' H'=>S' 2=.box 2 0/\H' 2=some (bh s)/\S' 3=.box 3 0/\H' 3=some [vI out]/\S' 5=.box 5 0/\H' 5=some [.bool false])
  (K2:=λo S' H'=>o=Old.plain cc w/\S' 5=.box 5 0/\H' 5=some [.bool b]/\S' 8=.int .i64 e)
  (K3:=λo S' H'=>o=Old.plain cc w/\S' 5=.box 5 0/\H' 5=some [.bool b]/\S' 6=.int .i64 e) ⟨s2,h2,s3,h3,s5,h5⟩ ?_ ?_ ?_)
 .rintro w0 g S5 H5 a w5 m dI ho R ⟨s2,h2,s3,h3,s5,h5⟩;have cM:=R.size;refine cI rfl rfl zr (nt (fn:=.func 118) (c:=#[.tmp 2,.tmp 3,.tmp 5]) rfl) ?_
  obtain⟨fv,mK⟩:∃fv:Value,fv=.func (.func 118) #[] (#[Operand.tmp 2,.tmp 3,.tmp 5].map a.eval):=⟨_,rfl⟩
  show wpOpsIn _ _ _ _ _ [1] (a.put (some 7) (.func (.func 118) #[] (#[Operand.tmp 2,.tmp 3,.tmp 5].map a.eval))) w5;rw[<-mK];have R1:=R.put 7 .cT fv zd (.cT _) trivial
  obtain⟨a1,ov⟩:∃a1,a.put (some 7) fv=a1:=⟨_,rfl⟩
  rw[ov]at R1⊢
  have vS:fv=.func (.func 118) #[] #[a1.tmps.getD 2 undef,a1.tmps.getD 3 undef,a1.tmps.getD 5 undef]:=by
   have e1:=dJ a 7 2 fv zo;have e2:=dJ a 7 3 fv zo;have e4:=dJ a 7 5 fv zo;rw[if_neg zd,ov]at e1 e2 e4;have Ar:a1.tmps.getD 2 undef=a.eval (.tmp 2):=e1;have OP:a1.tmps.getD 3 undef=a.eval (.tmp 3):=e2;have Fz:a1.tmps.getD 5 undef=a.eval (.tmp 5):=e4;rw[Ar,OP,Fz,mK];simp only[aeN,aer,aeF]
  have jZ:a1.eval (.tmp 7)=fv:=by rw[<-ov,dJ _ _ _ _ zo,if_pos rfl]
  refine il rfl rfl zr (ia (k:=40) (args:=#[.func (.func 118) #[] #[a1.tmps.getD 2 undef,a1.tmps.getD 3 undef,a1.tmps.getD 5 undef]]) w5 rfl rfl ?_ zk) (oJ w0 g _ _ a1 w5 dI R1 (by simp[aF,s2]) h2 (by simp[aF,s3]) h3 (by simp[aF,s5]) h5) ?_
  .simp only[aeN,aer,aeF,jZ,<-vS]
  .rintro en w6 ⟨rfl,c,g',S',H',qh,R2,C6,IC⟩;refine⟨_,rfl,?_⟩;have R3:=R2.put 8 (.int .i64 e) (.int .i64 e) zd (.data _ _ (.int _ _)) trivial;rw[uz]at R3;exact⟨g',_,H',R3,qh.trans ho,by rw[b_ _ _ zd];exact C6,IC,bX _ _ _⟩
 .rintro o S5 H5 ⟨rfl,s5,h5,s8⟩;refine⟨λ_ h=>h,?_⟩;simp[c73,ah.qa,ah.qb,ah.dl,s5,h5,s8]
 .rintro o S5 H5 ⟨rfl,s5,h5,s6⟩;show SW prog GI 14 none (.seq _ .ret) _ _ _ _;refine eR hG c73.qb.qb.qb.qa (λS' H'=>S' 4=.bool (e==0&&b)) ?_ ?_
  .by_cases he:e=0
   .subst he;simp[c73,ah.qa,ah.qb,s5,h5,s6]
   .have pF:(e==0)=false:=by simpa using he
    simp[c73,ah.qa,ah.qb,s5,h5,s6,pF]
  rintro S6 H6 s4;refine SW.ret ⟨e_.plain rfl,rfl,_,?_,rfl⟩;show bQ prog 14 [.tmp 4] S6 H6=_;simp[bQ,bG,bH,s4,AV.aX,AV.out]
end Go.Proofs.Tryz
namespace Go.Proofs.Tryz
open Go Go.AL Go.RowKit Go.Proofs Go.Proofs.Tram
attribute [local simp] aU bB bm aO aV aJ aK av az aW aw ao bO bP an ar ev aM.S aM.H bj aF bl AL.start AV.cells AV.storable AV.aZ aP bt bV bu HR.okB post bQ bG bH AV.out AV.aX aG aL fz cL AV.vw bT vI int a_ aq bD bq cd cj bZ bI aI
variable{GI:World->Prop}
def fe(t:List UInt8):bw×Int:=if 320<t.length then(cn,3)else match jq t with
 |.error _=>(cn,4)
 |.ok x=>if cN x then(x,0)else(cn,2)
def RW(t:List UInt8):JW t=.ea [dj (fe t).1,.int .i64 (fe t).2]:=by
 unfold JW fe;split
 .rfl
 .cases jq t with
  |error e=>rfl
  |ok x=>cases h:cN x<;>simp[h]
def ZA(hG:aQ GI)(hT:TB GI)(qD:ML GI)(t:List UInt8):AC prog GI 43 [.str t] (.ret (.ea [dj (fe t).1,.int .i64 (fe t).2])):=by
 by_cases h:t.length<=420
 .rw[<-RW];exact Y5 hG hT qD t h
 .have hl:320<t.length:=zo
  have rK:(320:Int)<t.length:=zo
  obtain⟨i28,mV,m_⟩:=iZ 29 10;obtain⟨fs,fw⟩:=uZ 29;unfold fe;rw[if_pos hl];refine dF hG func43 ntmps43 c43 ?_;simp[c43,AV.bC,AV.dE,rK,cD,mV,fw,m_,ef,dj,ai,cn,ints]
def KI(t:List UInt8):ss (fe t).1:=by
 have h0:ss cn:=⟨by simp[cn],by simp[cn],by simp[cn],by simp[cn],by simp[cn]⟩
 unfold fe;split
 .exact h0
 .cases h:jq t with
  |error e=>exact h0
  |ok x=>
   have:=sV (t:=t) zo h;cases hs:cN x
   .simpa[hs]using h0
   .simpa[hs]using this
def fo{α β:Type}{x:Except (List UInt8) α}{f:α->Except (List UInt8) β}{b:β}(h:c_ x f=.ok b):∃a,x=.ok a/\f a=.ok b:=by
 cases x with
 |error e=>cases h
 |ok a=>exact⟨a,rfl,h⟩
def K4{x y:bf}{r:List UInt8}(h:qx x r=.ok y):y.cells=x.cells/\y.name=x.name:=by
 unfold qx at h;split at h
 .obtain⟨a,_,h⟩:=fo h;obtain⟨b,_,h⟩:=fo h;obtain⟨c,_,h⟩:=fo h;obtain⟨d,_,h⟩:=fo h;cases h;exact⟨rfl,rfl⟩
 .cases h
def NI{x y:bf}{r:List UInt8}(h:qj x r=.ok y):(∃c,y.cells=x.cells++[c])/\y.name=x.name:=by
 unfold qj at h;split at h
 .obtain⟨a,_,h⟩:=fo h;obtain⟨b,_,h⟩:=fo h;cases h;exact⟨⟨_,rfl⟩,rfl⟩
 .cases h
def KP{x y:Nat×bf}{r:List UInt8}(h:gW x r=.ok y):y.2.cells.length<=x.2.cells.length+1/\y.2.name=x.2.name:=by
 unfold gW at h;split at h
 .obtain⟨a,ha,h⟩:=fo h;cases h;obtain⟨h1,h2⟩:=K4 ha;exact⟨by simp[h1],h2⟩
 .obtain⟨a,ha,h⟩:=fo h;cases h;obtain⟨⟨c,h1⟩,h2⟩:=NI ha;exact⟨by simp[h1],h2⟩
def BZ:∀{L:List (List UInt8)}{x y:Nat×bf},dO gW x L=.ok y->y.2.cells.length<=x.2.cells.length+L.length/\y.2.name=x.2.name
 |[],x,y,h=>by cases h;exact⟨ah7,rfl⟩
 |r::L,x,y,h=>by
  obtain⟨a,ha,h⟩:=fo h;obtain⟨h1,h2⟩:=BZ h;obtain⟨h3,h4⟩:=KP ha;exact⟨by simp;omega,h2.trans h4⟩
def sK{t u:List UInt8}{x:bf}(h:kn t=.ok (x,u)):x.cells.length<=t.length+1/\x.name=cn:=by
 have Fm:kn t=if firstT gV (bL 10 t)<=0 then .error t
 else c_ (dO gW (0,eC) ((bL 10 t).take (firstT gV (bL 10 t)).toNat)) λx=>if lQ t (eS x.2)then .ok (x.2,t.drop (eS x.2).length)else .error t:=rfl
 rw[Fm]at h;split at h
 .cases h
 obtain⟨a,ha,h⟩:=fo h;split at h
 case isFalse=>cases h
 cases h;obtain⟨h1,h2⟩:=BZ ha;have hl:=fZ 10 t;refine⟨?_,h2⟩
 have:((bL 10 t).take (firstT gV (bL 10 t)).toNat).length<=(bL 10 t).length:=by rw[aes];omega
 simp only[eC,List.length_nil]at h1;omega
def mE(t:List UInt8):bf×Int:=if 530<t.length then(eC,3)else match kn t with
 |.error _=>(eC,4)
 |.ok x=>if(fe x.2).2=3\/(fe x.2).2=4 then(eC,4)
  else if(fe x.2).2≠0\/eb { x.1 with name:=(fe x.2).1 }=false then(eC,2)
  else({ x.1 with name:=(fe x.2).1 },0)
noncomputable def vu:ah:=ah.qb c10.qb.qb.qb
def Sa(x:bf):(bh x).map AV.bC=bh x:=by simp[bh,ai,AV.bC,vI]
def Yx(hG:aQ GI)(hT:TB GI)(qD:ML GI)(t:List UInt8):AC prog GI 10 [.str t] (.ret (.ea [cH (mE t).1,.int .i64 (mE t).2])):=by
 obtain⟨i31,lJ,lR⟩:=iZ 31 15;obtain⟨fs,fw⟩:=uZ 31
 by_cases hl:530<t.length
 .have rK:(530:Int)<t.length:=zo
  unfold mE;rw[if_pos hl];refine dF hG func10 ntmps10 c10 ?_;simp[c10,AV.bC,AV.dE,rK,cD,lJ,fw,lR,ef,cH,bh,eC,ai,cn,ints]
 have rK:¬(530:Int)<t.length:=zo
 have NA:mE t=match kn t with
 |.error _=>(eC,4)
 |.ok x=>if(fe x.2).2=3\/(fe x.2).2=4 then(eC,4)
  else if(fe x.2).2≠0\/eb { x.1 with name:=(fe x.2).1 }=false then(eC,2)
  else({ x.1 with name:=(fe x.2).1 },0):=by unfold mE;rw[if_neg hl]
 have Lz:=ab0 hG qD t zo
 obtain ⟨e,z4,y5,LW,oJ⟩:∃ (e:Int) (z4:List AV) (y5:AV),((e=4∧mE t=(eC,4))∨(e=0∧∃ x u,x.cells.length≤t.length+1∧x.name=cn∧z4=bh x∧y5 = .str u∧mE t=if (fe u).2=3∨(fe u).2=4 then (eC,4) else if (fe u).2≠0∨eb { x with name:=(fe u).1 }=false then (eC,2) else ({ x with name:=(fe u).1 },0))) ∧
   ∀(w0:World)(g:Gh)(S:au)(H:aD)(a:Act)(w:World),GI w0->Rel prog w0 42 dh g S H a w->S 1=.box 1 0->H 1=some [.str t]->S 4=.box 4 0->H 4=some (tW eC)->S 5=.box 5 0->H 5=some [.str []]->
    Calls prog 40 #[.func (.func 41) #[] #[a.tmps.getD 1 undef,a.tmps.getD 4 undef,a.tmps.getD 5 undef]] w λen w2=>en=.returned (.int .i64 e)/\∃(c:Value)(g':Gh)(S':au)(H':aD),g'.old=g.old/\Rel prog w0 42 dh g' S' H' (a.put (some 14) c) w2/\S' 2=S 2/\H' 2=H 2/\S' 4=.box 4 0/\H' 4=some z4/\S' 5=.box 5 0/\H' 5=some [y5]:=by
  cases hp:kn t with
  |ok p=>
   obtain⟨x,u⟩:=p;rw[hp]at Lz;refine⟨0,bh x,.str u,.inr ⟨rfl,x,u,(sK hp).1,(sK hp).2,rfl,rfl,by rw[NA,hp]⟩,λw0 g S H a w dI R q1 h1 q4 h4 q5 h5=>?_⟩
   refine zq (d:=14) zk R λg1 w1 R1 oy _ _=>?_
   refine(Up hG dI R1 (d:=14) (i1:=1) (i4:=4) (i5:=5) zd zd zd zd zd zd zd q1 h1 q4 h4 q5 h5 rfl rfl Lz).mono ?_;rintro en w2 ⟨rfl,c,g',S',H',qh,R',rX,vz⟩;refine⟨rfl,c,g',S',H',qh,R',rX 2 zd,?_,by rw[rX 4 zd];exact q4,?_,by rw[rX 5 zd];exact q5,?_⟩
   .rw[vz];simp[aF]
   .rw[vz];simp[aF];exact Sa x
   .rw[vz];simp[aF]
  |error er=>
   rw[hp]at Lz;refine⟨4,tW eC,.str [],.inl ⟨rfl,by rw[NA,hp]⟩,λw0 g S H a w dI R q1 h1 q4 h4 q5 h5=>?_⟩;refine(CU zk R (r:=4) λg1 w1 R1 _ _=>?_).mono ?_
   .refine(Sw hG dI R1 (i1:=1) zd q1 h1 Lz _ _).mono ?_;rintro en w2 ⟨hb,rfl⟩;exact⟨hb,.inr ⟨rfl,_,rfl⟩⟩
   .rintro en w2 ⟨rfl,g',Bt,R'⟩;exact⟨rfl,undef,g',aF S 14 .cT,H,Bt,R'.put 14 .cT undef zd (.cT _) trivial,b_ _ _ zd,rfl,(b_ _ _ zd).trans q4,h4,(b_ _ _ zd).trans q5,h5⟩
 have a77:∀x:bf,x.cells.length<=t.length+1->∀u,AC prog GI 32 [cH { x with name:=(fe u).1 }] (.ret (.bool (eb { x with name:=(fe u).1 }))):=λx hx u=>tf hG _ ⟨by show x.cells.length<1000000;omega,KI u⟩
 have DJ:=λu=>ZA hG hT qD u
 clear NA Lz
 generalize mE t=r at*
 refine AC.j7 func10 rfl ntmps10 ah7 λcc w=>?_
 refine eR hG c10.qa (λS' H'=>S' 1=.box 1 0/\H' 1=some [.str t]/\S' 2=.box 2 0/\H' 2=some (tW eC)) ?_ ?_
 .simp[c10,ah.qa,AV.bC,AV.dE,tW,eC,grow]
 rintro S H ⟨s1,h1,s2,h2⟩;refine SW.seq (eR hG c10.qb.qa.qa (λS' H'=>S' 1=.box 1 0/\H' 1=some [.str t]/\S' 2=.box 2 0/\H' 2=some (tW eC)/\S' 11=.bool false) ?_ ?_)
 .simp[c10,ah.qa,ah.qb,s1,h1,s2,h2,rK,AV.bC,AV.dE]
 clear s1 h1 s2 h2 S H;rintro S H ⟨s1,h1,s2,h2,cG⟩;refine SW.cond rfl false (by show S 11=_;rw[cG]) (SW.skip ?_);clear cG;show SW prog GI 42 none (.seq _ (.seq _ (.seq (.seq _ (.seq _ (.cond _ (.seq _ .ret) .skip))) _))) _ _ _ _;refine eR hG c10.qb.qb.qa (λS' H'=>S' 1=.box 1 0/\H' 1=some [.str t]/\S' 2=.box 2 0/\H' 2=some (tW eC)/\S' 4=.box 4 0/\H' 4=some (tW eC)) ?_ ?_
 .simp[c10,ah.qa,ah.qb,s1,h1,s2,h2,AV.bC,AV.dE,tW,eC,grow]
 clear s1 h1 s2 h2 S H;rintro S H ⟨s1,h1,s2,h2,s4,h4⟩;refine eR hG c10.qb.qb.qb.qa (λS' H'=>S' 1=.box 1 0/\H' 1=some [.str t]/\S' 2=.box 2 0/\H' 2=some (tW eC)/\S' 4=.box 4 0/\H' 4=some (tW eC)/\S' 5=.box 5 0/\H' 5=some [.str []]) ?_ ?_
 .simp[c10,ah.qa,ah.qb,s1,h1,s2,h2,s4,h4,AV.bC,AV.dE]
 clear s1 h1 s2 h2 s4 h4 S H;rintro S3 H3 ⟨s1,h1,s2,h2,s4,h4,s5,h5⟩
 refine SW.seq (SW.seq (SW.hand hG (p:=0) (lm:=[0,1]) (l2:=[2]) (lh:=[]) (oh:=[_,_]) (oA:=[_]) rfl rfl rfl rfl zk (λ_ h=>h) (po:=[]) (ox:=(c10.qb.qb.qb.qb.qa.qa.dl).drop 2) rfl zk rfl zk
  (K1:=λS' H'=>S' 1=.box 1 0/\H' 1=some [.str t]/\S' 2=.box 2 0/\H' 2=some (tW eC)/\S' 4=.box 4 0/\H' 4=some (tW eC)/\S' 5=.box 5 0/\H' 5=some [.str []])
  (K2:=λo S' H'=>o=Old.plain cc w/\S' 2=.box 2 0/\H' 2=some (tW eC)/\S' 4=.box 4 0/\H' 4=some z4/\S' 5=.box 5 0/\H' 5=some [y5]/\S' 14=.int .i64 e)
  (K3:=λo S' H'=>o=Old.plain cc w/\S' 2=.box 2 0/\H' 2=some (tW eC)/\S' 4=.box 4 0/\H' 4=some z4/\S' 5=.box 5 0/\H' 5=some [y5]/\S' 6=.int .i64 e) ⟨s1,h1,s2,h2,s4,h4,s5,h5⟩ ?_ ?_ ?_))
 .rintro w0 g S5 H5 a w5 m dI ho R ⟨s1,h1,s2,h2,s4,h4,s5,h5⟩;have cM:=R.size;refine cI rfl rfl zr (nt (fn:=.func 41) (c:=#[.tmp 1,.tmp 4,.tmp 5]) rfl) ?_
  obtain⟨fv,mK⟩:∃fv:Value,fv=.func (.func 41) #[] (#[Operand.tmp 1,.tmp 4,.tmp 5].map a.eval):=⟨_,rfl⟩
  show wpOpsIn _ _ _ _ _ [1] (a.put (some 13) (.func (.func 41) #[] (#[Operand.tmp 1,.tmp 4,.tmp 5].map a.eval))) w5;rw[<-mK];have R1:=R.put 13 .cT fv zd (.cT _) trivial
  obtain⟨a1,ov⟩:∃a1,a.put (some 13) fv=a1:=⟨_,rfl⟩
  rw[ov]at R1⊢
  have vS:fv=.func (.func 41) #[] #[a1.tmps.getD 1 undef,a1.tmps.getD 4 undef,a1.tmps.getD 5 undef]:=by
   have e1:=dJ a 13 1 fv zo;have e2:=dJ a 13 4 fv zo;have e4:=dJ a 13 5 fv zo;rw[if_neg zd,ov]at e1 e2 e4;have Ar:a1.tmps.getD 1 undef=a.eval (.tmp 1):=e1;have OP:a1.tmps.getD 4 undef=a.eval (.tmp 4):=e2;have Fz:a1.tmps.getD 5 undef=a.eval (.tmp 5):=e4;rw[Ar,OP,Fz,mK];simp only[aeN,aer,aeF]
  have jZ:a1.eval (.tmp 13)=fv:=by rw[<-ov,dJ _ _ _ _ zo,if_pos rfl]
  refine il rfl rfl zr (ia (k:=40) (args:=#[.func (.func 41) #[] #[a1.tmps.getD 1 undef,a1.tmps.getD 4 undef,a1.tmps.getD 5 undef]]) w5 rfl rfl ?_ zk) (oJ w0 g _ _ a1 w5 dI R1 (by simp[aF,s1]) h1 (by simp[aF,s4]) h4 (by simp[aF,s5]) h5) ?_
  .simp only[aeN,aer,aeF,jZ,<-vS]
  .rintro en w6 ⟨rfl,c,g',S',H',qh,R2,xq,yr,Bi,Ge,C6,IC⟩;refine⟨_,rfl,?_⟩;have R3:=R2.put 14 (.int .i64 e) (.int .i64 e) zd (.data _ _ (.int _ _)) trivial;rw[uz]at R3;exact⟨g',_,H',R3,qh.trans ho,by rw[b_ _ _ zd,xq];simp[aF,s2],yr.trans h2,by rw[b_ _ _ zd];exact Bi,Ge,by rw[b_ _ _ zd];exact C6,IC,bX _ _ _⟩
 .rintro o S5 H5 ⟨rfl,s2,h2,s4,h4,s5,h5,eQ⟩;refine⟨λ_ h=>h,?_⟩;simp[c10,ah.qa,ah.qb,ah.dl,s2,h2,s4,h4,s5,h5,eQ,AV.bC,AV.dE]
 rintro o S5 H5 ⟨rfl,s2,h2,s4,h4,s5,h5,s6⟩;clear s1 h1;show SW prog GI 42 none (.seq _ (.cond _ (.seq _ .ret) .skip)) _ _ _ _;refine eR hG c10.qb.qb.qb.qb.qa.qb.qa (λS' H'=>S' 2=.box 2 0/\H' 2=some (tW eC)/\S' 4=.box 4 0/\H' 4=some z4/\S' 5=.box 5 0/\H' 5=some [y5]/\S' 6=.int .i64 e/\S' 16=.bool (e !=0)) ?_ ?_
 .simp[c10,ah.qa,ah.qb,s2,h2,s4,h4,s5,h5,s6,cm,ck,aT]
 clear s2 h2 s4 h4 s5 h5 s6;rintro S6 H6 ⟨s2,h2,s4,h4,s5,h5,s6,gk⟩
 rcases LW with⟨rfl,rfl⟩|⟨rfl,x,u,hxc,hxn,rfl,rfl,hr⟩
 .refine SW.cond rfl true (by show S6 16=_;rw[gk]<;>rfl) ?_;show SW prog GI 42 none (.seq _ .ret) _ _ _ _;refine eR hG vu.qa.qb.qb.qa.qa (λS' H'=>S' 2=.box 2 0/\S' 3=.int .i64 4/\H' 2=some (tW eC)) ?_ ?_
  .simp[c10,vu,ah.qa,ah.qb,AV.bC,AV.dE,s2,h2,s6,cD,tW,eC,grow]
  rintro S8 H8 ⟨s2,s3,h2⟩;refine SW.ret ⟨e_.plain rfl,rfl,_,?_,rfl⟩;show bQ prog 42 [.cell 2 31,.tmp 3] S8 H8=_;simp[bQ,bG,bH,s2,s3,h2,lJ,fw,lR,bu,ef,AV.out,AV.bC,AV.aX,AV.vw,AV.dE,cH,bh,ai,tW,eC,grow,cn,vI,ints]
 refine SW.cond rfl false (by show S6 16=_;rw[gk]<;>rfl) (SW.skip ?_);clear s6 gk
 obtain⟨y,er,hy⟩:∃y er,fe u=(y,er):=⟨_,_,rfl⟩
 have a77:=a77 x hxc u;have DJ:=DJ u;rw[hy]at hr a77 DJ;simp only at hr a77 DJ;show SW prog GI 42 none (.seq _ (.seq (.seq _ (.cond _ (.seq _ .ret) .skip)) (.seq _ (.seq (.seq _ (.cond _ (.seq _ .ret) .skip)) (.seq _ .ret))))) _ _ _ _;refine eR hG vu.qb.qa (λS' H'=>S' 2=.box 2 0/\H' 2=some (tW eC)/\S' 4=.box 4 0/\H' 4=some (bh x)/\S' 7=.box 7 0/\H' 7=some (ai y)/\S' 8=.int .i64 er) ?_ ?_
 .simp[c10,vu,ah.qa,ah.qb,AV.bC,AV.dE,s5,h5];refine oc DJ ?_;simp[AV.bC,AV.dE,s2,h2,s4,h4,dj,ai]
 clear s2 h2 s4 h4 s5 h5;rintro S7 H7 ⟨s2,h2,s4,h4,s7,h7,s8⟩;refine SW.seq (eR hG vu.qb.qb.qa.qa (λS' H'=>S' 2=.box 2 0/\H' 2=some (tW eC)/\S' 4=.box 4 0/\H' 4=some (bh x)/\S' 7=.box 7 0/\H' 7=some (ai y)/\S' 8=.int .i64 er/\S' 29=.bool (decide (er=3\/er=4))) ?_ ?_)
 .by_cases h3:er=3
  .simp[c10,vu,ah.qa,ah.qb,cm,ck,aT,s2,h2,s4,h4,s7,h7,s8,h3]
  .have h3b:(er==3)=false:=by simpa using h3
   have Ru:(er==4)=decide (er=4):=by rw[aeW];simp
   simp[c10,vu,ah.qa,ah.qb,cm,ck,aT,s2,h2,s4,h4,s7,h7,s8,h3,h3b,Ru]
 clear s2 h2 s4 h4 s7 h7 s8;rintro S7 H7 ⟨s2,h2,s4,h4,s7,h7,s8,Ze⟩
 by_cases Ru:er=3\/er=4
 .rw[if_pos Ru]at hr;subst hr;refine SW.cond rfl true (by show S7 29=_;rw[Ze];simp[Ru]) ?_;show SW prog GI 42 none (.seq _ .ret) _ _ _ _;refine eR hG vu.qb.qb.qa.qb.qa.qa (λS' H'=>S' 2=.box 2 0/\S' 3=.int .i64 4/\H' 2=some (tW eC)) ?_ ?_
  .simp[c10,vu,ah.qa,ah.qb,AV.bC,AV.dE,s2,h2,cD,tW,eC,grow]
  clear s2 h2;rintro S8 H8 ⟨s2,s3,h2⟩;refine SW.ret ⟨e_.plain rfl,rfl,_,?_,rfl⟩;show bQ prog 42 [.cell 2 31,.tmp 3] S8 H8=_;simp[bQ,bG,bH,s2,s3,h2,lJ,fw,lR,bu,ef,AV.out,AV.bC,AV.aX,AV.vw,AV.dE,cH,bh,ai,tW,eC,grow,cn,vI,ints]
 rw[if_neg Ru]at hr;refine SW.cond rfl false (by show S7 29=_;rw[Ze];simp[Ru]) (SW.skip ?_);clear Ze;show SW prog GI 42 none (.seq _ (.seq (.seq _ (.cond _ (.seq _ .ret) .skip)) (.seq _ .ret))) _ _ _ _;refine eR hG vu.qb.qb.qb.qa (λS' H'=>S' 2=.box 2 0/\H' 2=some (tW eC)/\S' 4=.box 4 0/\H' 4=some (bh { x with name:=y })/\S' 8=.int .i64 er) ?_ ?_
 .simp[c10,vu,ah.qa,ah.qb,AV.bC,AV.dE,s2,h2,s4,h4,s7,h7,s8,bh,ai]
 clear s2 h2 s4 h4 s7 h7 s8;rintro S7 H7 ⟨s2,h2,s4,h4,s8⟩
 obtain⟨X,hX⟩:∃X:bf,{ x with name:=y }=X:=⟨_,rfl⟩
 rw[hX]at hr a77 h4;refine SW.seq (eR hG vu.qb.qb.qb.qb.qa.qa (λS' H'=>S' 2=.box 2 0/\H' 2=some (tW eC)/\S' 4=.box 4 0/\H' 4=some (bh X)/\S' 39=.bool (decide (er≠0\/eb X=false))) ?_ ?_)
 .by_cases h0:er=0
  .simp[c10,vu,ah.qa,ah.qb,AV.bC,AV.dE,s2,h2,s4,h4,s8,h0,bh,ai];refine oc a77 ?_;simp[AV.bC,AV.dE,s2,h2,s4,h4,s8,h0,bh,ai]
  .have h0b:(er !=0)=true:=by simpa using h0
   simp[c10,vu,ah.qa,ah.qb,cm,ck,aT,s2,h2,s4,h4,s8,h0,h0b]
 clear s2 h2 s4 h4 s8;rintro S7 H7 ⟨s2,h2,s4,h4,F5⟩
 by_cases C2:er≠0\/eb X=false
 .rw[if_pos C2]at hr;subst hr;refine SW.cond rfl true (by show S7 39=_;rw[F5];simpa using C2) ?_;show SW prog GI 42 none (.seq _ .ret) _ _ _ _;refine eR hG vu.qb.qb.qb.qb.qa.qb.qa.qa (λS' H'=>S' 2=.box 2 0/\S' 3=.int .i64 2/\H' 2=some (tW eC)) ?_ ?_
  .simp[c10,vu,ah.qa,ah.qb,AV.bC,AV.dE,s2,h2,cD,tW,eC,grow]
  clear s2 h2;rintro S8 H8 ⟨s2,s3,h2⟩;refine SW.ret ⟨e_.plain rfl,rfl,_,?_,rfl⟩;show bQ prog 42 [.cell 2 31,.tmp 3] S8 H8=_;simp[bQ,bG,bH,s2,s3,h2,lJ,fw,lR,bu,ef,AV.out,AV.bC,AV.aX,AV.vw,AV.dE,cH,bh,ai,tW,eC,grow,cn,vI,ints]
 rw[if_neg C2]at hr;subst hr;refine SW.cond rfl false (by show S7 39=_;rw[F5];simpa using C2) (SW.skip ?_);show SW prog GI 42 none (.seq _ .ret) _ _ _ _;refine eR hG vu.qb.qb.qb.qb.qb.qa (λS' H'=>S' 2=.box 2 0/\S' 3=.int .i64 0/\H' 2=some (bh X)) ?_ ?_
 .simp[c10,vu,ah.qa,ah.qb,AV.bC,AV.dE,s2,h2,s4,h4,tW,eC,grow,bh,ai]
 clear s2 h2 s4 h4;rintro S8 H8 ⟨s2,s3,h2⟩;refine SW.ret ⟨e_.plain rfl,rfl,_,?_,rfl⟩;show bQ prog 42 [.cell 2 31,.tmp 3] S8 H8=_;simp[bQ,bG,bH,s2,s3,h2,lJ,fw,lR,bu,ef,AV.out,AV.bC,AV.aX,AV.vw,AV.dE,cH,bh,ai,vI]
end Go.Proofs.Tryz
namespace Go.Proofs.Tryz
open Go Go.AL Go.RowKit Go.Proofs Go.Proofs.Tram
def lu(s:bf)(d:Nat)(es:List Int):List (List Int):=(xJ s.name d es).filter (nF s)
def ub(s:bf)(d:Nat)(es:List Int)(i:Nat):List (List Int):=(List.range' i (s.name.words.length-i)).flatMap λk=>if qB s.name k then lu s d (es++[(k:Int)])else[]
def MZ(s:bf)(es:List Int):lu s 0 es=if nF s es then[es]else[]:=by
 unfold lu xJ
 cases h:nF s es<;>simp[h]
def MX(s:bf)(d:Nat)(es:List Int):lu s (d+1) es=ub s d es (rM es):=by
 unfold lu ub xJ;rw[aib]
 refine F6 λi _=>?_
 cases qB s.name i<;>rfl
def Mu(s:bf)(d:Nat)(es:List Int){i:Nat}(h:i<s.name.words.length):ub s d es i=(if qB s.name i then lu s d (es++[(i:Int)])else[])++ub s d es (i+1):=by
 unfold ub;rw[show s.name.words.length-i=s.name.words.length-(i+1)+1 by omega,afJ,afx]
def Oo(s:bf)(d:Nat)(es:List Int):ub s d es s.name.words.length=[]:=by
 unfold ub
 rw[ahG]<;>rfl
def DS{α β:Type}{f:α->List β}{b:Nat}(hf:∀x,(f x).length<=b):∀l:List α,(l.flatMap f).length<=b*l.length
 |[]=>ah7
 |a::l=>by
  rw[afx,aeu,List.length_cons,Nat.mul_succ];have:=DS hf l;have:=hf a;omega
def Ef{s:bw}(h:s.words.length<=4):∀(d:Nat)(now:List Int),(xJ s d now).length<=4^d
 |0,now=>by simp[xJ]
 |d+1,now=>by
  unfold xJ
  have h1:∀i:Nat,(if qB s i then xJ s d (now++[(i:Int)])else[]).length<=4^d:=by
   intro i;split
   .exact Ef h d _
   .simp
  have h2:=DS h1 (List.range' (rM now) (s.words.length-rM now));rw[List.length_range']at h2;rw[Nat.pow_succ];have h3:4^d*(s.words.length-rM now)<=4^d*4:=agn _ zo;omega
def Qv{s:bf}(h:s.name.words.length<=4){d:Nat}(hd:d<4)(es:List Int):(lu s d es).length<=64:=by
 have h1:=ag9 (nF s) (xJ s.name d es);have h2:=Ef h d es;have h3:4^d<=4^3:=Nat.pow_le_pow_right zd zo;unfold lu;omega
def z_(s:bf):Option (List Int):=(Q_ s.name).find? (nF s)
def CA(s:bf):z_ s=((List.range s.name.words.length).flatMap λd=>lu s d []).head?:=by
 unfold z_ Q_ lu;rw[<-List.head?_filter,aib]
def N3{α:Type}(f:Nat->List α){n m:Nat}(h:m<n)(hb:∀j,j<m->f j=[]){x:α}{l:List α}(hm:f m=x::l):((List.range n).flatMap f).head?=some x:=by
 have e:List.range n=List.range m++m::List.range' (m+1) (n-(m+1)):=by
  have h1:List.range' 0 m++List.range' (0+m) (n-(m+1)+1)=List.range' 0 (m+(n-(m+1)+1)):=ahe;rw[aeP,show m+(n-(m+1)+1)=n by omega]at h1;rw[afZ,afZ,<-h1,afJ]
 rw[e,afO,ahK.2 λj hj=>hb j (aeI.1 hj),List.nil_append,afx,hm]
 rfl
def PX{α:Type}(f:Nat->List α){n:Nat}(hb:∀j,j<n->f j=[]):((List.range n).flatMap f).head?=none:=by
 rw[ahK.2 λj hj=>hb j (aeI.1 hj)]
 rfl
def Dp(s:bf):List AV:=match z_ s with
 |some l=>[vI l,.int .i64 0]
 |none=>[vI [],.int .i64 5]
def JK(s:bf):List AV:=if eb s then Dp s else[vI [],.int .i64 2]
end Go.Proofs.Tryz
namespace Go.Proofs.Tryz
open Go Go.AL Go.RowKit Go.Proofs Go.Proofs.Tram
attribute [local simp] aU bB bm aO aV aJ aK av az aW aw ao bO bP an ar ev aM.S aM.H bj aF bl AL.start AV.cells AV.storable AV.aZ aP bt bV bu HR.okB post bQ bG bH AV.out AV.aX aG aL fz cL AV.vw bT vI int a_ aq bD bq cd cj bZ bI aI AV.bC AV.dE
variable{GI:World->Prop}
def W6:Nat->Bool:=λt=>decide (6<=t)
def IF:Nat->Bool:=λt=>decide (35<=t)
structure Iy(bF bN:Nat)(cS cR:Value)(n many:Int)(a:Act):Prop where
 size:a.tmps.size=50
 defers:a.defers=[]
 t0:a.tmps.getD 0 undef=.int .i64 n
 t1:a.tmps.getD 1 undef=.int .i64 many
 t2:a.tmps.getD 2 undef=cS
 t3:a.tmps.getD 3 undef=.pointer (some ⟨bN,0,none⟩)
 t4:a.tmps.getD 4 undef=.pointer (some ⟨bF,0,none⟩)
 t5:a.tmps.getD 5 undef=cR
def jd(s:bf)(es:List Int)(fv:Value)(n many:Int)(v8:AV):au:=λt=>match t with
 |0=>.int .i64 n
 |1=>.int .i64 many
 |2=>.ref (bh s)
 |3=>.ref [.slice .view (ints es)]
 |5=>.ref [.val fv]
 |8=>v8
 |_=>.cT
section
variable{wB:World}{Mi:Nat->Nat->Prop}{bF bN:Nat}{s:bf}{cS cR fv:Value}{fs:List (List Int)}{es:List Int}{w:World}{a:Act}{n many:Int}
def Iy.step{a':Act}(fr:Iy bF bN cS cR n many a)(cM:a'.tmps.size=50)(fq:a'.defers=[])(h:fj W6 a a'):Iy bF bN cS cR n many a':=
 ⟨cM,fq,(h 0 rfl).trans fr.t0,(h 1 rfl).trans fr.t1,(h 2 rfl).trans fr.t2,(h 3 rfl).trans fr.t3,(h 4 rfl).trans fr.t4,(h 5 rfl).trans fr.t5⟩
def Lv.im (st:Lv wB Mi bF bN s cS cR fv fs es w) (fr:Iy bF bN cS cR n many a) {v8:AV} (h8:v8.bC=v8∧RV (fun _ _=>True) dW w v8 (a.tmps.getD 8 undef)) :
  ∀t,t<50->(jd s es fv n many v8 t).bC=jd s es fv n many v8 t/\RV (λ_ _=>True) dW w (jd s es fv n many v8 t) (a.tmps.getD t undef):=by
 intro t ht;unfold jd;split
 .rw[fr.t0];exact⟨rfl,.data _ _ (.int _ _)⟩
 .rw[fr.t1];exact⟨rfl,.data _ _ (.int _ _)⟩
 .rw[fr.t2];exact⟨rfl,st.s.mono (cC.same λ_ _ _ _=>trivial) λ_ _ h=>h⟩
 .rw[fr.t3];obtain⟨u,AX,xF,v,DV,xN,f1,f2,f3,f4,n1,n2,n3,n4⟩:=st.st;refine⟨rfl,.data _ _ (.ref _ _ _ (λ_=>v) (λi hi=>?_) (λk hk=>⟨trivial,?_⟩) (λk hk=>?_))⟩
  .have:i=0:=by simpa using hi
   subst this;rfl
  .have:k=0:=by simpa using hk
   subst this;simp[World.cell?,n1]
  .have:k=0:=by simpa using hk
   subst this
   exact RD.ofRow (size:=1) (es:=ints es) (by rw[aG];exact n2) (n3.mono (cC.same λ_ _ _ h=>h.elim)) λ_ _ _ _=>trivial
 .rw[fr.t5];exact⟨rfl,st.r.mono (cC.same λ_ _ _ _=>trivial) λ_ _ h=>h⟩
 .exact h8
 .exact⟨rfl,.cT _⟩
def Lv.eF (st:Lv wB Mi bF bN s cS cR fv fs es w) {w':World} {es':List Int} {v v':Value} {DV:TypeId} {Wx:List Value} (hv:∃ ty,w.heap[bN]? = some (.cells #[v] ty (0,0))) (ka:mY (fun b=>b=bN∨v.ownBlock=some b) w w')
  (hN:w'.heap[bN]?=some (.cells #[v'] DV (0,0))) (dX:w'.ownsRow (bN+1) 3 1 v' es'.length Wx) (pJ:jS (λ_ _=>False) w' 1 (ints es') Wx) (QD:∀b,v'.ownBlock=some b->v.ownBlock=some b\/w.heap.size<=b):Lv wB Mi bF bN s cS cR fv fs es' w':=by
 obtain⟨u,AX,xF,v0,adU,xN,f1,f2,f3,f4,n1,n2,n3,n4⟩:=st.st;obtain⟨ty,hv⟩:=hv
 have FZ:v0=v:=by
  rw[n1]at hv;simp only[aeJ,Obj.cells.injEq,Array.mk.injEq,afY]at hv;exact hv.1.1
 subst FZ;have lF:=(aea.1 f1).1
 have old:∀b,b<w.heap.size->b≠bN->v0.ownBlock≠some b->w'.heap[b]?=w.heap[b]?:=λb hb h1 h2=>ka.block b hb (by rintro(h|h);exact h1 h;exact h2 h)
 have YJ:∀b k,Mi b k->w'.heap[b]?=w.heap[b]?:=λb k hm=>old b (st.lt b k hm) (λe=>st.gN k (e▸hm)) λe=>(n4 b e).2.2 k hm
 have UT:cC Mi Mi w w':=cC.of_eq λb k hm=>⟨hm,YJ b k hm⟩
 refine⟨st.below.trans (ka.below st.below.size λb hb=>?_),st.ge,λb k hm=>ae4 (st.lt b k hm) ka.size,st.gF,st.gN,⟨u,AX,xF,v',DV,Wx,(old bF lF st.ge.2.2 λe=>(n4 bF e).1 rfl).trans f1,jA f2 λb hb=>old b (f2.lt b hb).2 (f4 b hb).1 λe=>(n4 b e).2.1 hb,f3.mono (cC.of_eq λb k hm=>⟨hm,(YJ b k hm.1)⟩),f4,hN,dX,pJ,λb hb=>?_⟩,st.s.mono UT λ_ _ h=>h,st.r.mono UT λ_ _ h=>h⟩
 .rcases hb with rfl|hb
  .exact st.ge.2.1
  .have:=(n2.lt b hb).1;have:=st.ge.2.1;omega
 .rcases QD b hb with h|h
  .exact n4 b h
  .exact⟨λe=>zo,λe=>by have:=(f2.lt b e).2;omega,λk hm=>by have:=st.lt b k hm;omega⟩
end
def C1 {P:Program} {a:Act} {o:Oper} {cl:Call} {f x y:Operand} {k:Nat} {cap:Array Value} (w:World) (ho:o.op = .call cl) (hc:cl.callee = .value f) (ha:cl.args = #[x,y]) (hf:a.eval f = .func (.func k) #[] cap) (hk:eU P k=true) :
  (execOp a.eval o).run P w=.ok (.enter k (#[a.eval x,a.eval y]++cap)) w:=by
 unfold execOp;simp[ho,fQ hc,hf,Deferred.ofValue,invoke,ha,hZ hk]
noncomputable def uH:ah:=ah.qb c72.qb.qb.qb
noncomputable def Bh:ah:=ah.qb uH.qb.qa
noncomputable def EJ:ah:=ah.qa Bh.qb
def Tv (hG:aQ GI) {wB:World} (BJ:GI wB) {bF bN:Nat} {s:bf} (hs:gY s) (hI:eb s=true) {cS cR fv:Value} (mK:fv = .func (.func 72) #[] #[cS,.pointer (some ⟨bN,0,none⟩),.pointer (some ⟨bF,0,none⟩),cR]) :
  ∀(d n:Nat)(es:List Int)(fs:List (List Int))(Mi:Nat->Nat->Prop)(w:World),rM es=n->n<=s.name.words.length->es.length+d<s.name.words.length->iP s.name es=true->(fs++lu s d es).length<=1000->Lv wB Mi bF bN s cS cR fv fs es w->
   Calls prog 72 #[.int .i64 n,.int .i64 d,cS,.pointer (some ⟨bN,0,none⟩),.pointer (some ⟨bF,0,none⟩),cR] w λe w'=>e=.returned (.tuple #[])/\∃uR,(∀b k,Mi b k->uR b k)/\Lv wB uR bF bN s cS cR fv (fs++lu s d es) es w':=by
 have oz:=(ja (i_ hI).name).words.2;intro d
 induction d with
 |zero=>?_
 |succ d ih=>?_
 all_goals intro n es fs Mi w pJ hn hd ho hB st
 all_goals refine(jD (ro:=none) (m:=0)).1 (aht func72 rfl trivial ?_)
 .have ib:GI w:=hG wB w BJ st.below
  have fr:Iy bF bN cS cR n ((0:Nat):Int) { tmps:=#[.int .i64 n,.int .i64 ((0:Nat):Int),cS,.pointer (some ⟨bN,0,none⟩),.pointer (some ⟨bF,0,none⟩),cR]++Array.replicate (f72.ntmps-6) undef,defers:=[] }:=
   ⟨by simp[ntmps72],rfl,dQ _ _ 0 ah7,dQ _ _ 1 ah7,dQ _ _ 2 ah7,dQ _ _ 3 ah7,dQ _ _ 4 ah7,dQ _ _ 5 ah7⟩
  rw[MZ]at hB⊢;refine aeq (aeq ?_);refine dS hG d_ (n:=50) (ac:=ah.qa c72.qa) (W:=W6) zk zk zk ib (λ_ _=>True) (jd s es fv n ((0:Nat):Int) .cT) fr.size fr.defers (st.im fr ⟨rfl,.cT _⟩) (K:=λS' _=>S' 10=.bool true) ?_ ?_
  .simp[c72,ah.qa,jd]
  rintro g S' H' a w1 hg R1 hb cP;have fr:=fr.step R1.size (by rw[R1.defers,hg]<;>rfl) cP;have st:=st.grow (by have:=R1.below;rwa [R1.base]at this);have ht:=R1.slot 10 zd (λh=>h);rw[hb]at ht;have vt:=ht.gK;clear ht cP hb hg R1 g S' H' ib;have ib:GI w1:=hG wB w1 BJ st.below;show Code.wpIn _ _ _ _ _ a w1;refine ae7 (t:=true) vt ?_;simp only[aeH];refine aeq (aeq ?_);have abI:=adD hG s hs hI es ho;refine dS hG d_ (n:=50) (ac:=ah.qa c72.qa.qb.qa.qa) (W:=W6) zk zk zk ib (λ_ _=>True) (jd s es fv n ((0:Nat):Int) .cT) fr.size fr.defers (st.im fr ⟨rfl,.cT _⟩) (K:=λS' _=>S' 13=.bool (nF s es)) ?_ ?_
  .simp[c72,ah.qa,ah.qb,jd,bh,ai];refine oc abI ?_;simp
  rintro g S' H' a w1 hg R1 hb cP;have fr:=fr.step R1.size (by rw[R1.defers,hg]<;>rfl) cP;have st:=st.grow (by have:=R1.below;rwa [R1.base]at this);have ht:=R1.slot 13 zd (λh=>h);rw[hb]at ht;have vt:=ht.gK;clear ht cP hb hg R1 g S' H' ib;have ib:GI w1:=hG wB w1 BJ st.below;show Code.wpIn _ _ _ _ _ a w1;refine ae7 (t:=nF s es) vt ?_
  have ZR:es.length<1000:=zo
  have hf4:fs.length<100000:=by rw[aeu]at hB;omega
  cases Xb:nF s es with
  |true=>
   simp only[aeH];refine HX hG st ib fr.size fr.defers fr.t3 fr.t4 ZR hf4 rfl rfl rfl rfl rfl rfl ⟨rfl,rfl,rfl⟩ ⟨rfl,rfl,rfl⟩ ⟨rfl,rfl,rfl⟩ ⟨rfl,rfl,rfl⟩ ⟨rfl,rfl,rfl⟩ ⟨rfl,rfl,rfl⟩ ⟨rfl,rfl⟩ ⟨rfl,rfl,rfl⟩ zk ?_;intro a' w' uR cM fq _ hM td;show Code.wpIn _ _ _ _ _ a' w';exact aga ⟨fq,.tuple #[],by simp[results,results72],rfl,uR,hM,td⟩
  |false=>
   simp only[aek,aeA,afe];refine afG ?_;show Code.wpIn _ _ _ _ _ a w1;exact aga ⟨fr.defers,.tuple #[],by simp[results,results72],rfl,Mi,λ_ _ h=>h,st⟩
 .have ib:GI w:=hG wB w BJ st.below
  have fr:Iy bF bN cS cR n ((d+1:Nat):Int) { tmps:=#[.int .i64 n,.int .i64 ((d+1:Nat):Int),cS,.pointer (some ⟨bN,0,none⟩),.pointer (some ⟨bF,0,none⟩),cR]++Array.replicate (f72.ntmps-6) undef,defers:=[] }:=
   ⟨by simp[ntmps72],rfl,dQ _ _ 0 ah7,dQ _ _ 1 ah7,dQ _ _ 2 ah7,dQ _ _ 3 ah7,dQ _ _ 4 ah7,dQ _ _ 5 ah7⟩
  rw[MX,pJ]at hB⊢
  have hd0:(((d+1:Nat):Int)==0)=false:=by rw[aeO];omega
  generalize hmn:((d+1:Nat):Int)=mn at*
  refine aeq (aeq ?_);refine dS hG d_ (n:=50) (ac:=ah.qa c72.qa) (W:=W6) zk zk zk ib (λ_ _=>True) (jd s es fv n mn .cT) fr.size fr.defers (st.im fr ⟨rfl,.cT _⟩) (K:=λS' _=>S' 10=.bool false) ?_ ?_
  .simp[c72,ah.qa,jd,hd0]
  rintro g S' H' a w1 hg R1 hb cP;have fr:=fr.step R1.size (by rw[R1.defers,hg]<;>rfl) cP;have st:=st.grow (by have:=R1.below;rwa [R1.base]at this);have ht:=R1.slot 10 zd (λh=>h);rw[hb]at ht;have vt:=ht.gK;clear ht cP hb hg R1 g S' H' ib;have ib:GI w1:=hG wB w1 BJ st.below;show Code.wpIn _ _ _ _ _ a w1;refine ae7 (t:=false) vt ?_;simp only[aek,aeA];refine afG ?_;show Code.wpIn _ _ _ _ _ a w1;refine aeq ?_;refine dS hG d_ (n:=50) (ac:=ah.qa c72.qb) (W:=W6) zk zk zk ib (λ_ _=>True) (jd s es fv n mn .cT) fr.size fr.defers (st.im fr ⟨rfl,.cT _⟩) (K:=λS' _=>S' 8=.int .i64 n) ?_ ?_
  .simp[c72,ah.qa,ah.qb,jd]
  rintro g S' H' a w2 hg R1 hb cP;have fr:=fr.step R1.size (by rw[R1.defers,hg]<;>rfl) cP;have st:=st.grow (by have:=R1.below;rwa [R1.base]at this);have ht:=R1.slot 8 zd (λh=>h);rw[hb]at ht;have ht8:=ht.int_eq;clear ht cP hb hg R1 g S' H' ib vt;show Code.wpIn _ _ _ _ _ a w2
  refine afD (ahM (λa w=>∃(i:Nat)(L_:List (List Int))(uR:Nat->Nat->Prop),Iy bF bN cS cR n mn a/\a.tmps.getD 8 undef=.int .i64 (i:Nat)/\n<=i/\i<=s.name.words.length/\(∀b k,Mi b k->uR b k)/\Lv wB uR bF bN s cS cR fv L_ es w/\L_++ub s d es i=fs++ub s d es n)
   (λa _=>match a.tmps.getD 8 undef with|.int _ i=>s.name.words.length-i.toNat|_=>0) ⟨n,fs,Mi,fr,ht8,aed _,hn,λ_ _ h=>h,st,rfl⟩ ?_)
  clear ht8;rintro a w3 ⟨i,L_,uR,fr,h8,DB,dV,hMM,st,fw⟩;have ib:GI w3:=hG wB w3 BJ st.below
  have VM:(AV.int .i64 (i:Int)).bC=.int .i64 (i:Int)/\RV (λ_ _=>True) dW w3 (.int .i64 (i:Int)) (a.tmps.getD 8 undef):=⟨rfl,by rw[h8];exact .data _ _ (.int _ _)⟩
  refine aeq (aeq ?_);refine dS hG d_ (n:=50) (ac:=ah.qa uH.qa) (W:=W6) zk zk zk ib (λ_ _=>True) (jd s es fv n mn (.int .i64 (i:Int))) fr.size fr.defers (st.im fr VM) (K:=λS' _=>S' 8=.int .i64 i/\S' 25=.bool (decide (i<s.name.words.length))) ?_ ?_
  .simp[c72,uH,ah.qa,ah.qb,jd,bh,ai]
  rintro g S' H' a4 w4 hg R1 ⟨q8,q25⟩ cP;have fr:=fr.step R1.size (by rw[R1.defers,hg]<;>rfl) cP;have st:=st.grow (by have:=R1.below;rwa [R1.base]at this);have ht:=R1.slot 25 zd (λh=>h);rw[q25]at ht;have YF:=ht.gK;have hu:=R1.slot 8 zd (λh=>h);rw[q8]at hu;have VA:=hu.int_eq;clear ht hu cP q8 q25 hg R1 g S' H' ib VM;have ib:GI w4:=hG wB w4 BJ st.below;show Code.wpIn _ _ _ _ _ a4 w4;refine ae7 (t:=decide (i<s.name.words.length)) YF ?_
  by_cases aN:i<s.name.words.length
  case neg=>
   simp only[aN,agC,aek,aeA];refine ags ?_
   have Ka:i=s.name.words.length:=zo
   rw[Ka,Oo,afe]at fw;simp only[Exit.then,Exit.inBlock,aeH];rw[<-fw];exact⟨fr.defers,.tuple #[],by simp[results,results72],rfl,uR,hMM,st⟩
  simp only[aN,agK,aeH];refine afG ?_;show Code.wpIn _ _ _ _ _ a4 w4;rw[Mu s d es aN]at fw
  have VM:(AV.int .i64 (i:Int)).bC=.int .i64 (i:Int)/\RV (λ_ _=>True) dW w4 (.int .i64 (i:Int)) (a4.tmps.getD 8 undef):=⟨rfl,by rw[VA];exact .data _ _ (.int _ _)⟩
  have nR:qB s.name i=s.name.words[i].free:=by simp[qB,rW,aN]
  have fin:∀ {Q:Exit→Act→World→Prop} {a5:Act} {w5:World} {fs5:List (List Int)} {Mi5:Nat→Nat→Prop},Iy bF bN cS cR n mn a5→a5.tmps.getD 8 undef = .int .i64 (i:Nat)→Lv wB Mi5 bF bN s cS cR fv fs5 es w5 →
    (∀a6 w6,Iy bF bN cS cR n mn a6->a6.tmps.getD 8 undef=.int .i64 ((i+1:Nat):Int)->Lv wB Mi5 bF bN s cS cR fv fs5 es w6->Q .normal a6 w6)->∀(id:Nat)(ops:Array Oper),lX (.region id ops false)=true->ez prog 50 (.region id ops false)=ah.qb uH.qb->kv ops W6=true->(Code.region id ops false).wpIn (FR none) 0 prog Q a5 w5:=λ{Q a5 w5 fs5 Mi5} JM h85 KF hQ id ops hc pA hW=>by
   have acL:(AV.int .i64 (i:Int)).bC=.int .i64 (i:Int)/\RV (λ_ _=>True) dW w5 (.int .i64 (i:Int)) (a5.tmps.getD 8 undef):=⟨rfl,by rw[h85];exact .data _ _ (.int _ _)⟩
   refine dS hG d_ (n:=50) hc pA hW (hG wB w5 BJ KF.below) (λ_ _=>True) (jd s es fv n mn (.int .i64 (i:Int))) JM.size JM.defers (KF.im JM acL) (K:=λS' _=>S' 8=.int .i64 ((i+1:Nat):Int)) ?_ ?_
   .have qU:IntKind.i64.wrap ((i:Int)+1)=i+1:=bU zo;simp[c72,uH,ah.qa,ah.qb,jd,qU]
   intro g S' H' a6 w6 hg R1 Qb wW;have e86:=R1.slot 8 zd (λh=>h);rw[Qb]at e86;exact hQ a6 w6 (JM.step R1.size (by rw[R1.defers,hg]<;>rfl) wW) e86.int_eq (KF.grow (by have:=R1.below;rwa [R1.base]at this))
  refine aeq (afD (aeq ?_));refine dS hG d_ (n:=50) (ac:=ah.qa Bh) (W:=W6) zk zk zk ib (λ_ _=>True) (jd s es fv n mn (.int .i64 (i:Int))) fr.size fr.defers (st.im fr VM) (K:=λS' _=>S' 8=.int .i64 i/\S' 34=.bool (qB s.name i)) ?_ ?_
  .rw[nR];simp[c72,uH,Bh,ah.qa,ah.qb,jd,bh,ai,aN,dP]
  rintro g S' H' a5 w5 hg R1 ⟨q8,q34⟩ cP;have fr:=fr.step R1.size (by rw[R1.defers,hg]<;>rfl) cP;have st:=st.grow (by have:=R1.below;rwa [R1.base]at this);have ht:=R1.slot 34 zd (λh=>h);rw[q34]at ht;have abQ:=ht.gK;have hu:=R1.slot 8 zd (λh=>h);rw[q8]at hu;have VA:=hu.int_eq;clear ht hu cP q8 q34 hg R1 g S' H' ib VM YF;have ib:GI w5:=hG wB w5 BJ st.below;show Code.wpIn _ _ _ _ _ a5 w5;refine ae7 (t:=qB s.name i) abQ ?_
  cases rI:qB s.name i with
  |false=>
   simp only[aek,aeA];refine afG ?_;simp only[Exit.then,Exit.inBlock];rw[rI]at fw;refine fin fr VA st (λa6 w6 LO Qb O'=>?_) _ _ zk zk zk;refine⟨⟨i+1,L_,uR,LO,Qb,zo,zo,hMM,O',by simpa using fw⟩,?_⟩;rw[Qb,h8];show s.name.words.length-((i+1:Nat):Int).toNat<s.name.words.length-(i:Int).toNat;rw[Int.toNat_natCast,Int.toNat_natCast];omega
  |true=>
   simp only[aeH];rw[rI]at fw
   have VP:es.length+1<s.name.words.length:=zo
   obtain⟨u,AX,xF,v,DV,xN,f1,f2,f3,f4,n1,n2,n3,n4⟩:=st.st;obtain⟨i3,Fu,vr⟩:=iZ 3 1;obtain⟨i23,QG,KW⟩:=iZ 23 1;have Zr:(ints es).length=es.length:=aG es;refine aeq ?_
   refine xQ d_ (n:=50) (ac:=ah.qa EJ) zk zk zk (W:=IF) zk (λ_ _=>False)
    (λt=>match t with|3=>.box 3 0|8=>.int .i64 (i:Int)|_=>.cT) (nm:=3) (tp:=3) (es:=ints es) (es':=ints (es++[(i:Int)])) zd rfl fr.t3 fr.size fr.defers n1 Fu (by rw[vr,Zr];exact n2) (by rw[vr];exact n3.mono (cC.same λ_ _ _ h=>h.elim)) ?_ ?_ (by rw[vr];exact wR _) (yC _) ?_
   .intro t ht;split
    .exact⟨rfl,.inl ⟨rfl,fr.t3⟩⟩
    .exact⟨rfl,.inr (by rw[VA];exact .data _ _ (.int _ _))⟩
    .exact⟨rfl,.inr (.cT _)⟩
   .have pq:es.length+1<1048576:=zo
    have ab6:ints (es++[(i:Int)])=ints es++[.int .i64 (i:Int)]:=by simp[ints]
    have df:=rR es;have k1:br 1 [AV.int .i64 (i:Int)]=true:=rfl;rw[ab6]
    cases Dw:v.ownBlock with
    |none=>
     have he:es=[]:=by
      rcases n2.2 with⟨_,h⟩|⟨gg,cap,cur,rfl,_⟩
      .exact aeT h
      .cases Dw
     subst he;simp[c72,uH,Bh,EJ,ah.qa,ah.qb,oQ,Dw,k1,ints]
    |some bv=>
     simp[c72,uH,Bh,EJ,ah.qa,ah.qb,oQ,Dw,k1,df,pq]
   intro a6 w6 v' Dc xs6 acq Wg wW hN6 Qj TZ Q8 Tw;have LO:=fr.step acq Wg (fj.weaken wW λt ht=>by simp[W6]at ht;simp[IF];omega);have Qb:a6.tmps.getD 8 undef=.int .i64 (i:Int):=(wW 8 rfl).trans VA;have O':Lv wB uR bF bN s cS cR fv L_ (es++[(i:Int)]) w6:=st.eF ⟨_,n1⟩ Q8 hN6 (by rw[vr,aG]at Qj;exact Qj) (by rw[vr]at TZ;exact TZ) Tw;clear Tw Q8 TZ Qj hN6 n1 n2 n3 n4 f1 f2 f3 f4;show Code.wpIn _ _ _ _ _ a6 w6
   have aco:(AV.int .i64 (i:Int)).bC=.int .i64 (i:Int)/\RV (λ_ _=>True) dW w6 (.int .i64 (i:Int)) (a6.tmps.getD 8 undef):=⟨rfl,by rw[Qb];exact .data _ _ (.int _ _)⟩
   refine aeq ?_;refine my hG (n:=50) (p:=5) (l2:=[5]) rfl zk zk (l:=(EJ.qb.qa.dl).take 5) zk zd (W:=IF) zk (hG wB w6 BJ O'.below) (λ_ _=>True) (jd s (es++[(i:Int)]) fv n mn (.int .i64 (i:Int))) LO.size LO.defers (O'.im LO aco) (K:=λS' _=>S' 39=.val fv/\S' 41=.int .i64 ((i+1:Nat):Int)/\S' 43=.int .i64 (d:Nat)) ?_ ?_
   .have qU:IntKind.i64.wrap ((i:Int)+1)=i+1:=bU zo
    have wq:IntKind.i64.wrap (mn-1)=d:=by rw[bU zo];omega
    simp[c72,uH,Bh,EJ,ah.qa,ah.qb,ah.dl,jd,qU,wq]
   rintro g S' H' a7 w7 hg R1 ⟨q39,q41,UC⟩ J0;have fr7:=LO.step R1.size (by rw[R1.defers,hg]<;>rfl) (fj.weaken J0 λt ht=>by simp[W6]at ht;simp[IF];omega);have st7:=O'.grow (by have:=R1.below;rwa [R1.base]at this);have h87:a7.tmps.getD 8 undef=.int .i64 (i:Int):=(J0 8 rfl).trans Qb;have WB:=R1.slot 39 zd (λh=>h);rw[q39]at WB;have WB:=WB.jT;have Xx:=R1.slot 41 zd (λh=>h);rw[q41]at Xx;have Xx:=Xx.int_eq;have FU:=R1.slot 43 zd (λh=>h);rw[UC]at FU;have FU:=FU.int_eq;clear R1 hg J0 q39 q41 UC
   have kl:iP s.name (es++[(i:Int)])=true:=by rw[Rm ho (by rw[pJ];exact DB) aN VP];exact rI
   have N5:(L_++lu s d (es++[(i:Int)])).length<=1000:=by
    rw[<-fw]at hB;simp only[aeH,aeu]at hB⊢;omega
   have nq:=ih (i+1) (es++[(i:Int)]) L_ uR w7 (by unfold rM;simp) zo (by simp;omega) kl N5 st7;refine il rfl rfl zr (f:=72) (args:=#[.int .i64 ((i+1:Nat):Int),.int .i64 (d:Nat),cS,.pointer (some ⟨bN,0,none⟩),.pointer (some ⟨bF,0,none⟩),cR]) (w':=w7) ?_ nq ?_
   .have k39:a7.eval (.tmp 39)=fv:=WB;have k41:a7.eval (.tmp 41)=.int .i64 ((i+1:Nat):Int):=Xx;have k43:a7.eval (.tmp 43)=.int .i64 (d:Nat):=FU;refine(C1 (f:=.tmp 39) (x:=.tmp 41) (y:=.tmp 43) w7 rfl rfl rfl (k39.trans mK) zk).trans ?_;rw[k41,k43]
    rfl
   rintro en w8 ⟨rfl,Mi8,hM8,st8⟩;refine⟨_,rfl,?_⟩;show wpOpsIn _ _ _ _ _ [] (a7.put (some 44) (.tuple #[])) w8
   obtain⟨a8,WJ⟩:∃a8,a7.put (some 44) (.tuple #[])=a8:=⟨_,rfl⟩
   have WY:fj IF a7 a8:=by rw[<-WJ];exact fj.put (λt ht=>by cases ht;rfl) _
   have ade:a8.tmps.size=50:=by rw[<-WJ];simp[Act.put,fr7.size]
   have abo:a8.defers=[]:=by rw[<-WJ];exact fr7.defers
   rw[WJ];have Wo:=fr7.step ade abo (fj.weaken WY λt ht=>by simp[W6]at ht;simp[IF];omega);have h88:a8.tmps.getD 8 undef=.int .i64 (i:Int):=(WY 8 rfl).trans h87;show Code.wpIn _ _ _ _ _ a8 w8;obtain⟨u,AX,xF,v8,ty8,WR,f1,f2,f3,f4,n1,n2,n3,n4⟩:=st8.st
   have hl8:WR.length=(es.length+1)*1:=by have:=n2.1;simpa using this
   refine aeG ?_;show wpOpsIn _ _ _ _ _ [0,1,2,3,4,5] a8 w8
   refine Mh (P:=prog) (n:=50) (T:=23) (el:=3) (p:=3) (t1:=45) (t2:=46) (t3:=47) (t4:=48) (t5:=49) (bN:=bN) (i:=i3) (iT:=i23) (v:=v8) (ty:=ty8) (k:=es.length) (xs:=WR.take (es.length*1)) (last:=WR.drop (es.length*1))
    rfl rfl rfl rfl rfl rfl ⟨rfl,rfl,rfl⟩ ⟨rfl,rfl,rfl⟩ ⟨rfl,rfl,rfl⟩ ⟨rfl,rfl,rfl⟩ ⟨rfl,rfl,rfl⟩ ⟨rfl,rfl,rfl⟩ rfl rfl rfl zk QG KW Fu zd Wo.size zd Wo.t3 n1 (by rw[afa,vr];simpa using n2) (by rw[vr,aes,hl8];omega) zo ?_
   intro a9 v9 abJ acw SS SU acM N4
   have mT:∀b,b≠bN->(w8.setRow bN #[v9]).heap[b]?=w8.heap[b]?:=λb hb=>afm w8 bN b #[v9] hb
   have st9:Lv wB Mi8 bF bN s cS cR fv (L_++lu s d (es++[(i:Int)])) es (w8.setRow bN #[v9]):=by
    refine st8.eF ⟨_,n1⟩ ⟨rfl,rfl,rfl,ah7,λb _ hm=>mT b λe=>hm (.inl e)⟩ (afV w8 bN _ #[v9] ty8 (0,0) n1) (Wx:=WR.take (es.length*1)) (jA (by rw[vr]at N4;exact N4) λb hb=>mT b λe=>by rw[SU]at hb;have:=(n2.lt b hb).1;omega) ⟨wR es,λj hj k Eh=>?_⟩ λb hb=>.inl (by rw[<-SU];exact hb)
    have Jr:k=0:=by
     have:=(wR es _ (ad2 hj)).1;omega
    subst Jr
    have OQ:j<es.length:=by rw[aG]at hj;exact hj
    have eX:j<(ints (es++[(i:Int)])).length:=by rw[aG];simp;omega
    have jL:(ints (es++[(i:Int)]))[j]=(ints es)[j]:=by
     simp only[ints,aeB,aer,aeF];exact aeV (by simpa using OQ)
    obtain⟨x,x1,x2⟩:=n3.2 j eX 0 (by rw[jL];exact Eh);refine⟨x,by rw[agP zo];exact x1,?_⟩;simp only[jL]at x2;exact x2.mono (cC.of_eq λ_ _ h=>h.elim)
   have Yg:fj IF a8 a9:=λt ht=>by
    have:t<35:=by simp[IF]at ht;omega
    exact SS t zo zo zo zo zo
   have fr9:=Wo.step abJ (acw.trans Wo.defers) (fj.weaken Yg λt ht=>by simp[W6]at ht;simp[IF];omega);have tX:a9.tmps.getD 8 undef=.int .i64 (i:Int):=(Yg 8 rfl).trans h88;clear N4 mT;generalize w8.setRow bN #[v9]=w9 at st9⊢;simp only[Exit.then,Exit.inBlock];refine fin fr9 tX st9 (λTp Sj acu YD acN=>?_) _ _ zk zk zk;refine⟨⟨i+1,_,Mi8,acu,YD,zo,zo,λb k h=>hM8 b k (hMM b k h),acN,by rw[<-fw];simp⟩,?_⟩;rw[YD,h8];show s.name.words.length-((i+1:Nat):Int).toNat<s.name.words.length-(i:Int).toNat;rw[Int.toNat_natCast,Int.toNat_natCast];omega
structure P0(bF bN bR:Nat)(cS:Value)(a:Act):Prop where
 size:a.tmps.size=32
 defers:a.defers=[]
 t1:a.tmps.getD 1 undef=cS
 t4:a.tmps.getD 4 undef=.pointer (some ⟨bF,0,none⟩)
 t5:a.tmps.getD 5 undef=.pointer (some ⟨bN,0,none⟩)
 t6:a.tmps.getD 6 undef=.pointer (some ⟨bR,0,none⟩)
def Kt:Nat->Bool:=λt=>decide (7<=t)
def iF(s:bf)(fs:List (List Int))(fv:Value)(Mc NB x7:AV):au:=λt=>match t with
 |1=>.ref (bh s)
 |4=>.ref [.slice .view (fs.map vI)]
 |6=>.ref [.val fv]
 |7=>x7
 |15=>Mc
 |16=>NB
 |_=>.cT
section
variable{wB:World}{Mi:Nat->Nat->Prop}{bF bN bR:Nat}{s:bf}{cS fv:Value}{fs:List (List Int)}{es:List Int}{w:World}{a:Act}
def P0.step{a':Act}(fr:P0 bF bN bR cS a)(cM:a'.tmps.size=32)(fq:a'.defers=[])(h:fj Kt a a'):P0 bF bN bR cS a':=
 ⟨cM,fq,(h 1 rfl).trans fr.t1,(h 4 rfl).trans fr.t4,(h 5 rfl).trans fr.t5,(h 6 rfl).trans fr.t6⟩
def Lv.QC(st:Lv wB Mi bF bN s cS (.pointer (some ⟨bR,0,none⟩)) fv fs es w)(pr:Nat->Nat->Prop)(Kq:∀b k,wB.heap.size<=b->pr b k):RV pr dW w (.ref [.slice .view (fs.map vI)]) (.pointer (some ⟨bF,0,none⟩)):=by
 obtain⟨u,AX,xF,v,DV,xN,f1,f2,f3,f4,n1,n2,n3,n4⟩:=st.st;refine .data _ _ (.ref _ _ _ (λ_=>u) (λi hi=>?_) (λk hk=>⟨Kq _ _ st.ge.1,?_⟩) (λk hk=>?_))
 .have:i=0:=by simpa using hi
  subst this;rfl
 .have:k=0:=by simpa using hk
  subst this;simp[World.cell?,f1]
 .have:k=0:=by simpa using hk
  subst this
  exact RD.ofRow (size:=1) (es:=fs.map vI) (by rw[aef];exact f2) (f3.mono (cC.same λb k _ h=>Kq b k h.2)) λb hb k _=>Kq b k (by have:=(f2.lt b hb).1;have:=st.ge.1;omega)
def Lv.lq (st:Lv wB Mi bF bN s cS (.pointer (some ⟨bR,0,none⟩)) fv fs es w) (fr:P0 bF bN bR cS a) {Mc NB x7:AV} (zP:Mc.bC=Mc∧RV (fun _ _=>True) dW w Mc (a.tmps.getD 15 undef)) (xz:NB.bC=NB∧RV (fun _ _=>True) dW w NB (a.tmps.getD 16 undef)) (h7:x7.bC=x7∧RV (fun _ _=>True) dW w x7 (a.tmps.getD 7 undef)) :
  ∀t,t<32->(iF s fs fv Mc NB x7 t).bC=iF s fs fv Mc NB x7 t/\RV (λ_ _=>True) dW w (iF s fs fv Mc NB x7 t) (a.tmps.getD t undef):=by
 intro t ht;unfold iF;split
 .rw[fr.t1];exact⟨rfl,st.s.mono (cC.same λ_ _ _ _=>trivial) λ_ _ h=>h⟩
 .rw[fr.t4];exact⟨rfl,st.QC _ λ_ _ _=>trivial⟩
 .rw[fr.t6];exact⟨rfl,st.r.mono (cC.same λ_ _ _ _=>trivial) λ_ _ h=>h⟩
 .exact h7
 .exact zP
 .exact xz
 .exact⟨rfl,.cT _⟩
end
def RD.bounded{A:Nat->Prop}{w:World}{es:List AV}{c:Value}(EN:∀x∈es,∀c∈x.cells,jl c=true)(h:RD (λb _=>A b) w (.slice .view es) c):∃hi:Nat->Nat,RD (λb k=>A b/\k<hi b) w (.slice .view es) c:=by
 cases h with
 |jm=>exact⟨λ_=>0,.jm _⟩
 |kj _ a=>exact⟨λ_=>0,.kj _ a⟩
 |slice _ _ b off cap size cs gq hn cM h1 hc hr=>
  exact⟨λ_=>off+es.length*size,.slice _ _ b off cap size cs gq hn cM h1 (λk hk=>⟨⟨(hc k hk).1,(by show off+k<off+es.length*size;omega)⟩,(hc k hk).2⟩) λi hi j hj=>(hr i hi j hj).jl (EN _ (ad2 hi) _ (ad2 hj))⟩
def ac2(hG:aQ GI)(s:bf)(hs:gY s):AC prog GI 29 [cH s] (.ret (.ea (JK s))):=by
 have qo:=tf hG s hs
 refine AC.j7 func29 rfl ntmps29 ah7 λcc w=>?_
 refine eR hG c29.qa (λS' H'=>S' 1=.box 1 0/\H' 1=some (bh s)) ?_ ?_
 .simp[c29,ah.qa,cH,bh,ai]
 rintro S1 H1 ⟨s1,h1⟩;refine SW.scope ?_;show SW prog GI 32 none (.seq (.seq _ (.cond _ _ _)) _) _ _ _ _;refine SW.seq (eR hG (.ops [⟨some 8,none,.load .any true 15 (.t 1)⟩,⟨some 9,none,.call 32 [.t 8]⟩,⟨some 10,none,.not (.t 9)⟩]) (λS' H'=>S' 10=.bool (!eb s)/\S' 1=.box 1 0/\H' 1=some (bh s)) ?_ ?_)
 .simp[s1,h1,bh,ai];refine oc qo ?_;simp[s1,h1,bh,ai]
 clear s1 h1;rintro S2 H2 ⟨cE,s1,h1⟩;unfold JK
 cases hI:eb s with
 |false=>
  refine SW.cond rfl true (by show S2 10=_;rw[cE,hI]<;>rfl) ?_;show SW prog GI 32 none (.seq _ .ret) _ _ _ _;refine eR hG (.ops [⟨some 2,none,.mv true (.c (.slice .nil []))⟩,⟨some 3,none,.mv true (.c (.int .i64 2))⟩]) (λS' H'=>S' 2=.slice .nil []/\S' 3=.int .i64 2) ah7 ?_;rintro S3 H3 ⟨s2,s3⟩;refine SW.ret ⟨e_.plain rfl,rfl,_,?_,rfl⟩;show bQ prog 32 [.tmp 2,.tmp 3] S3 H3=_;simp[bQ,bG,bH,s2,s3,AV.aX,AV.out,AV.vw,AV.dE,vI,ints]
 |true=>
 have oz:=(ja (i_ hI).name).words;refine SW.cond rfl false (by show S2 10=_;rw[cE,hI]<;>rfl) (SW.skip ?_);show SW prog GI 32 none (.seq _ (.seq _ (.seq _ (.seq _ (.seq (.label 0) (.seq (.seq _ (.block _ _)) _)))))) _ _ _ _;simp only[aeH];intro w0 g a wB m dI ho R
 obtain⟨out,kl⟩:∃out,jr.ret (.ea (Dp s))=out:=⟨_,rfl⟩
 rw[kl]
 have Wq:Below w0.heap.size w0 wB:=by have:=R.below;rwa [R.base]at this
 have BJ:GI wB:=hG w0 wB dI Wq;have rS:=tm R zd s1 h1 (Fy s)
 obtain⟨cS,hcS⟩:∃cS,a.tmps.getD 1 undef=cS:=⟨_,rfl⟩
 rw[hcS]at rS;have cM:=R.size
 have fq:a.defers=[]:=by rw[R.defers,ho]<;>rfl
 have finish:∀ (aE:Act) (wE:World) (o2:Ow) (Rn:List AV) (e:Int) (eJ:Nat→Nat),aE.tmps.size=32→aE.defers=[]→Below wB.heap.size wB wE→(AV.slice o2 Rn).bC = .slice o2 Rn→RD (fun b k=>(wB.heap.size≤b∧b < wE.heap.size)∧k < eJ b) wE (.slice o2 Rn) (aE.tmps.getD 2 undef)→aE.tmps.getD 3 undef = .int .i64 e →
   jr.ret (.ea [.slice .view Rn,.int .i64 e])=out->QS prog w0 32 (pz prog 32 f29.results.toList out cc) .ret aE wE:=by
  intro aE wE o2 Rn e eJ adk aba P6 adu ec h3 kl;have RG:=R.kG P6
  have hle:g.base<=wB.heap.size:=by rw[R.base];exact Wq.size
  have RC:=RG.lY (G:=λb=>wB.heap.size<=b/\b<wE.heap.size) eJ (λb hb=>by
   refine⟨⟨afl hle hb.1,(R.fresh b hb.1).1,(R.fresh b hb.1).2,λi hi=>?_⟩,hb.2,?_⟩
   .obtain⟨_,_,_,_,_,q3,_⟩:=R.box i b hi;have:=(aea.1 q3).1;omega
   .rw[ho]<;>rfl)
  have RE:=RC.Ex (a2:=aE) (S2:=λt=>if t=2 then .slice o2 Rn else if t=3 then .int .i64 e else .cT) g.old rfl adk (by rw[ho];exact aba) (by rw[ho];exact λ_ h=>by cases h) RC.still RC.grown (by rw[ho];exact λ_ _ h=>by cases h) (λt ht=>by
   by_cases h2:t=2
   .subst h2;simp only[aeH];refine⟨adu,.data _ _ (ec.mono (cC.same λb k _ hp=>.inr ⟨afl hle hp.1.1,?_⟩))⟩;unfold Gh.lY;simp only[if_pos hp.1];exact hp.2
   .by_cases Pg:t=3
    .subst Pg;simp only[if_neg h2,aeH];rw[h3];exact⟨rfl,.data _ _ (.int _ _)⟩
    .simp only[if_neg h2,if_neg Pg]
     exact⟨rfl,.cT _⟩)
  refine⟨_,_,_,RE,?_⟩;refine⟨by rw[ho];exact e_.plain rfl,by rw[ho]<;>rfl,_,?_,kl.symm⟩;show bQ prog 32 [.tmp 2,.tmp 3] _ _=_;simp[bQ,bG,bH,AV.aX,AV.out,AV.vw,AV.dE]
 have f_:∀(a:Act)(d t:Nat)(c:Value),t≠d->(a.put (some d) c).tmps.getD t undef=a.tmps.getD t undef:=λa d t c h=>by
  simp[Act.put,aem (ae0 h)]
 have jj:∀(a:Act)(d:Nat)(c:Value),a.tmps.size=32->d<32->(a.put (some d) c).tmps.getD d undef=c:=λa d c h hd=>by
  simp[Act.put,h,hd]
 have ld:∀(a:Act)(d:Option Nat)(c:Value),(a.put d c).tmps.size=a.tmps.size:=λa d c=>by cases d<;>simp[Act.put]
 have tu:∀(a:Act)(d:Option Nat)(c:Value),(a.put d c).defers=a.defers:=λa d c=>by cases d<;>rfl
 obtain⟨bF,TK⟩:∃bF,wB.heap.size=bF:=⟨_,rfl⟩
 refine aeq (aeG ?_);show wpOpsIn _ _ _ _ _ [0] a wB;refine cI rfl rfl zr (mz (t:=113) (z:=.slice none 0 0) rfl zk) ?_;show Code.wpIn _ _ _ _ _ (a.put (some 4) (.pointer (some ⟨wB.heap.size,0,none⟩))) (wB.alloc (.cells #[.slice none 0 0] 113))
 obtain⟨a2,j_⟩:∃a2,a.put (some 4) (.pointer (some ⟨wB.heap.size,0,none⟩))=a2:=⟨_,rfl⟩
 obtain⟨w2,mg⟩:∃w2,wB.alloc (.cells #[.slice none 0 0] 113)=w2:=⟨_,rfl⟩
 have QH:w2.heap.size=bF+1:=by rw[<-mg,<-TK];simp
 have YO:w2.heap[bF]?=some (.cells #[.slice none 0 0] 113 (0,0)):=by rw[<-mg,<-TK];exact ae8 wB _
 have Yv:Below bF wB w2:=by rw[<-mg,<-TK];exact(afb _ _).alloc (aed _) _
 rw[j_,mg];refine aeq (aeG ?_);show wpOpsIn _ _ _ _ _ [0] a2 w2;refine cI rfl rfl zr (mz (t:=23) (z:=.slice none 0 0) rfl zk) ?_;show Code.wpIn _ _ _ _ _ (a2.put (some 5) (.pointer (some ⟨w2.heap.size,0,none⟩))) (w2.alloc (.cells #[.slice none 0 0] 23))
 obtain⟨a3,tE⟩:∃a3,a2.put (some 5) (.pointer (some ⟨w2.heap.size,0,none⟩))=a3:=⟨_,rfl⟩
 obtain⟨w3,pB⟩:∃w3,w2.alloc (.cells #[.slice none 0 0] 23)=w3:=⟨_,rfl⟩
 have BO:w3.heap.size=bF+2:=by rw[<-pB];simp[QH]
 have QF:w3.heap[bF+1]?=some (.cells #[.slice none 0 0] 23 (0,0)):=by rw[<-pB,<-QH];exact ae8 w2 _
 have NO:Below (bF+1) w2 w3:=by rw[<-pB,<-QH];exact(afb _ _).alloc (aed _) _
 rw[tE,pB];refine aeq (aeG ?_);show wpOpsIn _ _ _ _ _ [0] a3 w3;refine cI rfl rfl zr (mz (t:=114) (z:=.nilFunc) rfl zk) ?_;show Code.wpIn _ _ _ _ _ (a3.put (some 6) (.pointer (some ⟨w3.heap.size,0,none⟩))) (w3.alloc (.cells #[.nilFunc] 114))
 obtain⟨a4,nf⟩:∃a4,a3.put (some 6) (.pointer (some ⟨w3.heap.size,0,none⟩))=a4:=⟨_,rfl⟩
 obtain⟨w4,oz⟩:∃w4,w3.alloc (.cells #[.nilFunc] 114)=w4:=⟨_,rfl⟩
 have Qz:w4.heap.size=bF+3:=by rw[<-oz];simp[BO]
 have G9:w4.heap[bF+2]?=some (.cells #[.nilFunc] 114 (0,0)):=by rw[<-oz,<-BO];exact ae8 w3 _
 have EI:Below (bF+2) w3 w4:=by rw[<-oz,<-BO];exact(afb _ _).alloc (aed _) _
 rw[nf,oz]
 have z2:a2.tmps.size=32:=by rw[<-j_,ld];exact cM
 have z3:a3.tmps.size=32:=by rw[<-tE,ld];exact z2
 have z4:a4.tmps.size=32:=by rw[<-nf,ld];exact z3
 have u1:a4.tmps.getD 1 undef=cS:=by rw[<-nf,f_ _ _ _ _ zd,<-tE,f_ _ _ _ _ zd,<-j_,f_ _ _ _ _ zd,hcS]
 have u4:a4.tmps.getD 4 undef=.pointer (some ⟨bF,0,none⟩):=by rw[<-nf,f_ _ _ _ _ zd,<-tE,f_ _ _ _ _ zd,<-j_,jj _ _ _ cM zd,TK]
 have u5:a4.tmps.getD 5 undef=.pointer (some ⟨bF+1,0,none⟩):=by rw[<-nf,f_ _ _ _ _ zd,<-tE,jj _ _ _ z2 zd,QH]
 have u6:a4.tmps.getD 6 undef=.pointer (some ⟨bF+2,0,none⟩):=by rw[<-nf,jj _ _ _ z3 zd,BO]
 have d4:a4.defers=[]:=by rw[<-nf,tu,<-tE,tu,<-j_,tu];exact fq
 refine aeq (aeG ?_);show wpOpsIn _ _ _ _ _ [0,1] a4 w4;refine cI rfl rfl zr (nt (fn:=.func 72) (c:=#[.tmp 1,.tmp 5,.tmp 4,.tmp 6]) rfl) ?_
 have gq:(#[Operand.tmp 1,.tmp 5,.tmp 4,.tmp 6].map a4.eval)=#[cS,.pointer (some ⟨bF+1,0,none⟩),.pointer (some ⟨bF,0,none⟩),.pointer (some ⟨bF+2,0,none⟩)]:=by
  simp only[aeN,aer,aeF,Act.eval];rw[u1,u4,u5,u6]
 rw[gq]
 obtain⟨fv,mK⟩:∃fv:Value,fv=.func (.func 72) #[] #[cS,.pointer (some ⟨bF+1,0,none⟩),.pointer (some ⟨bF,0,none⟩),.pointer (some ⟨bF+2,0,none⟩)]:=⟨_,rfl⟩
 rw[<-mK]
 obtain⟨a5,r_⟩:∃a5,a4.put (some 11) fv=a5:=⟨_,rfl⟩
 show wpOpsIn _ _ _ _ _ [1] (a4.put (some 11) fv) w4;rw[r_]
 have z5:a5.tmps.size=32:=by rw[<-r_,ld];exact z4
 have Xw:a5.tmps.getD 11 undef=fv:=by rw[<-r_];exact jj _ _ _ z4 zd
 have v1:a5.tmps.getD 1 undef=cS:=by rw[<-r_,f_ _ _ _ _ zd];exact u1
 have v4:a5.tmps.getD 4 undef=.pointer (some ⟨bF,0,none⟩):=by rw[<-r_,f_ _ _ _ _ zd];exact u4
 have v5:a5.tmps.getD 5 undef=.pointer (some ⟨bF+1,0,none⟩):=by rw[<-r_,f_ _ _ _ _ zd];exact u5
 have v6:a5.tmps.getD 6 undef=.pointer (some ⟨bF+2,0,none⟩):=by rw[<-r_,f_ _ _ _ _ zd];exact u6
 have d5:a5.defers=[]:=by rw[<-r_,tu];exact d4
 obtain⟨i142,aam,aax⟩:=iZ 114 1;refine fD rfl rfl zr (jC (x:=.tmp 6) (y:=.tmp 11) rfl v6 aam aax G9 Xw (by rw[mK]<;>rfl)) ?_;show Code.wpIn _ _ _ _ _ (a5.put none undef) (w4.setRow (bF+2) #[fv])
 have fr:P0 bF (bF+1) (bF+2) cS (a5.put none undef):=⟨z5,d5,v1,v4,v5,v6⟩
 have mT:∀b,b≠bF+2->(w4.setRow (bF+2) #[fv]).heap[b]?=w4.heap[b]?:=λb hb=>afm w4 (bF+2) b #[fv] hb
 have HH:(w4.setRow (bF+2) #[fv]).heap.size=bF+3:=by simp[Qz]
 have hb4:Below bF wB w4:=Yv.trans ((NO.mono zo).trans (EI.mono zo));have PY:Below bF wB (w4.setRow (bF+2) #[fv]):=hb4.trans ⟨rfl,rfl,rfl,by rw[HH,Qz];exact aed _,λk hk=>mT k zo⟩
 have st:Lv wB (λb k=>(b<bF/\gz g true b k)\/(b=bF+2/\k=0)) bF (bF+1) s cS (.pointer (some ⟨bF+2,0,none⟩)) fv [] [] (w4.setRow (bF+2) #[fv]):=by
  refine⟨by rw[TK];exact PY,⟨zo,zo,zo⟩,?_,?_,?_,⟨.slice none 0 0,113,[],.slice none 0 0,23,[],?_,⟨rfl,.inl ⟨rfl,rfl⟩⟩,⟨λx hx=>by simp at hx,λj hj=>by simp at hj⟩,(λb hb=>by cases hb),?_,⟨rfl,.inl ⟨rfl,rfl⟩⟩,⟨λx hx=>by simp[ints]at hx,λj hj=>by simp[ints]at hj⟩,(λb hb=>by cases hb)⟩,?_,?_⟩
  .rintro b k (h|h)
   .rw[HH];omega
   .rw[HH];omega
  .rintro k (h|h)<;>omega
  .rintro k (h|h)<;>omega
  .rw[mT _ zo,EI.block _ zo,NO.block _ zo];exact YO
  .rw[mT _ zo,EI.block _ zo];exact QF
  .have rS':RV (λb k=>b<bF/\gz g true b k) dW wB (.ref (bh s)) cS:=rS.mono (cC.same λb k hb h=>⟨zo,h⟩) λ_ _ h=>h
   exact rS'.mono (cC.of_eq λb k h=>⟨.inl h,PY.block b h.1⟩) λ_ _ h=>h
  .refine .data _ _ (.ref _ _ _ (λ_=>fv) (λi hi=>?_) (λk hk=>⟨.inr ⟨rfl,(by have h0:k<1:=hk;omega)⟩,?_⟩) (λk hk=>?_))
   .have:i=0:=by simpa using hi
    subst this;rfl
   .have:k=0:=by simpa using hk
    subst this;have:=afV w4 (bF+2) _ #[fv] 114 (0,0) G9;simp[World.cell?,this]
   .have:k=0:=by simpa using hk
    subst this;exact .val _ (by rw[mK]<;>rfl)
 clear mT HH PY hb4 EI G9 NO QF Yv YO;generalize w4.setRow (bF+2) #[fv]=w5 at st⊢;generalize a5.put none undef=a6 at fr⊢;generalize(λb k=>(b<bF/\gz g true b k)\/(b=bF+2/\k=0))=Mi at st;clear v1 v4 v5 v6 d5 z5 Xw r_ gq u1 u4 u5 u6 d4 z4 z3 z2
 have gi:∀{w:World},Below wB.heap.size wB w->GI w:=λh=>hG wB _ BJ h
 have jk:∀(a:Act)(w:World)(t:Nat),(AV.cT).bC=AV.cT/\RV (λ_ _=>True) dW w AV.cT (a.tmps.getD t undef):=λa w t=>⟨rfl,.cT _⟩
 have iv:∀(a:Act)(w:World)(t:Nat)(k:Int),a.tmps.getD t undef=.int .i64 k->(AV.int .i64 k).bC=.int .i64 k/\RV (λ_ _=>True) dW w (.int .i64 k) (a.tmps.getD t undef):=λa w t k h=>⟨rfl,by rw[h];exact .data _ _ (.int _ _)⟩
 have GD:∀{w w':World}{g:Gh}{S:au}{H:aD}{a':Act},Rel prog w 32 dh g S H a' w'->Below w.heap.size w w':=λR=>by have:=R.below;rwa [R.base]at this
 show Code.wpIn _ _ _ _ _ a6 w5;refine aeq (wpIn_label ?_);show Code.wpIn _ _ _ _ _ a6 w5;refine aeq (aeq ?_);refine dS hG d_ (n:=32) (ac:=.ops [⟨some 12,none,.fieldAddr 5 (.t 1)⟩,⟨some 13,none,.fieldAddr 7 (.t 12)⟩,⟨some 14,none,.load .any false 1 (.t 13)⟩,⟨some 15,none,.lK (.t 14)⟩,⟨some 16,none,.mv false (.c (.int .i64 0))⟩]) (W:=Kt) zk zk zk (gi st.below) (λ_ _=>True) (iF s [] fv .cT .cT .cT) fr.size fr.defers (st.lq fr (jk _ _ _) (jk _ _ _) (jk _ _ _)) (K:=λS' _=>S' 15=.int .i64 (s.name.words.length:Nat)/\S' 16=.int .i64 ((0:Nat):Int)) ?_ ?_
 .simp[iF,bh,ai]
 rintro g1 S1 H1 a7 w7 oy R1 ⟨xu,xA⟩ cP;have fr:=fr.step R1.size (by rw[R1.defers,oy]<;>rfl) cP;have st:=st.grow (GD R1);have IP:=R1.slot 15 zd id;rw[xu]at IP;have IP:=IP.int_eq;have Ga:=R1.slot 16 zd id;rw[xA]at Ga;have Ga:=Ga.int_eq;clear R1 oy cP xu xA;show Code.wpIn _ _ _ _ _ a7 w7
 refine afD (ahM (λa w=>∃(k:Nat)(uR:Nat->Nat->Prop),P0 bF (bF+1) (bF+2) cS a/\a.tmps.getD 15 undef=.int .i64 (s.name.words.length:Nat)/\a.tmps.getD 16 undef=.int .i64 (k:Nat)/\k<=s.name.words.length/\(∀j,j<k->lu s j []=[])/\Lv wB uR bF (bF+1) s cS (.pointer (some ⟨bF+2,0,none⟩)) fv [] [] w)
  (λa _=>match a.tmps.getD 16 undef with|.int _ i=>s.name.words.length-i.toNat|_=>0) ⟨0,Mi,fr,IP,Ga,ae2 _,λj hj=>zo,st⟩ ?_)
 clear IP Ga fr st;rintro a8 w8 ⟨k,uR,fr,IP,Ga,hk,iX,st⟩;refine aeq ?_;refine dS hG d_ (n:=32) (ac:=.ops [⟨some 17,none,.bin .lss (.t 16) (.t 15)⟩]) (W:=Kt) zk zk zk (gi st.below) (λ_ _=>True) (iF s [] fv (.int .i64 (s.name.words.length:Nat)) (.int .i64 (k:Nat)) .cT) fr.size fr.defers (st.lq fr (iv _ _ _ _ IP) (iv _ _ _ _ Ga) (jk _ _ _)) (K:=λS' _=>S' 15=.int .i64 (s.name.words.length:Nat)/\S' 16=.int .i64 (k:Nat)/\S' 17=.bool (decide (k<s.name.words.length))) ?_ ?_
 .simp[iF]
 rintro g1 S1 H1 a9 w9 oy R1 ⟨xu,xA,q17⟩ cP;have fr:=fr.step R1.size (by rw[R1.defers,oy]<;>rfl) cP;have st:=st.grow (GD R1);have Lg:=R1.slot 15 zd id;rw[xu]at Lg;have Lg:=Lg.int_eq;have Lr:=R1.slot 16 zd id;rw[xA]at Lr;have Lr:=Lr.int_eq;have VB:=R1.slot 17 zd id;rw[q17]at VB;have VB:=VB.gK;clear R1 oy cP xu xA q17;show Code.wpIn _ _ _ _ _ a9 w9;refine aeq (ae7 (t:=decide (k<s.name.words.length)) VB ?_)
 by_cases aN:k<s.name.words.length
 case neg=>
  simp only[aN,agC,aek,aeA];refine ags ?_
  have hke:k=s.name.words.length:=zo
  subst hke;simp only[Exit.then,Exit.inBlock,aeH]
  have Ed:z_ s=none:=by rw[CA];exact PX _ iX
  show Code.wpIn _ _ _ _ _ a9 w9;refine aeq (aeq ?_);refine dS hG d_ (n:=32) (ac:=.ops [⟨some 26,none,.load .any false 1 (.t 4)⟩,⟨some 27,none,.lK (.t 26)⟩,⟨some 28,none,.bin .eql (.t 27) (.c (.int .i64 0))⟩]) (W:=Kt) zk zk zk (gi st.below) (λ_ _=>True) (iF s [] fv .cT .cT .cT) fr.size fr.defers (st.lq fr (jk _ _ _) (jk _ _ _) (jk _ _ _)) (K:=λS' _=>S' 28=.bool true) ?_ ?_
  .simp[iF]
  rintro g1 S1 H1 aA wA oy R1 Sr cP;have fr:=fr.step R1.size (by rw[R1.defers,oy]<;>rfl) cP;have st:=st.grow (GD R1);have yR:=R1.slot 28 zd id;rw[Sr]at yR;have yR:=yR.gK;show Code.wpIn _ _ _ _ _ aA wA;refine ae7 (t:=true) yR ?_;simp only[aeH];refine aeq ?_;refine dS hG d_ (n:=32) (ac:=.ops [⟨some 2,none,.mv true (.c (.slice .nil []))⟩,⟨some 3,none,.mv true (.c (.int .i64 5))⟩]) (W:=λ_=>true) zk zk zk (gi st.below) (λ_ _=>True) (iF s [] fv .cT .cT .cT) fr.size fr.defers (st.lq fr (jk _ _ _) (jk _ _ _) (jk _ _ _)) (K:=λS' _=>S' 2=.slice .nil []/\S' 3=.int .i64 5) ?_ ?_
  .simp[iF]
  rintro g2 S2 H2 aB T2 oN R2 ⟨q2,q3⟩ _;have e2:=R2.slot 2 zd id;rw[q2]at e2;have e3:=R2.slot 3 zd id;rw[q3]at e3;refine aga (finish aB T2 .view [] 5 (λ_=>0) R2.size (by rw[R2.defers,oN]<;>rfl) (st.grow (GD R2)).below rfl (e2.eP rfl).Eo e3.int_eq ?_);rw[<-kl];unfold Dp
  rw[Ed]<;>rfl
 simp only[aN,agK,aeH];refine afG ?_;show Code.wpIn _ _ _ _ _ a9 w9;refine aeq (afD ?_);refine aeq ?_;refine dS hG d_ (n:=32) (ac:=.ops [⟨some 18,none,.mv false (.t 16)⟩,⟨some 7,none,.mv true (.t 18)⟩]) (W:=Kt) zk zk zk (gi st.below) (λ_ _=>True) (iF s [] fv (.int .i64 (s.name.words.length:Nat)) (.int .i64 (k:Nat)) .cT) fr.size fr.defers (st.lq fr (iv _ _ _ _ Lg) (iv _ _ _ _ Lr) (jk _ _ _)) (K:=λS' _=>S' 15=.int .i64 (s.name.words.length:Nat)/\S' 16=.int .i64 (k:Nat)/\S' 7=.int .i64 (k:Nat)) ?_ ?_
 .simp[iF]
 rintro g1 S1 H1 Tp Sj oy R1 ⟨xu,xA,q7⟩ cP;have fr:=fr.step R1.size (by rw[R1.defers,oy]<;>rfl) cP;have st:=st.grow (GD R1);have Ky:=R1.slot 15 zd id;rw[xu]at Ky;have Ky:=Ky.int_eq;have Nd:=R1.slot 16 zd id;rw[xA]at Nd;have Nd:=Nd.int_eq;have f7:=R1.slot 7 zd id;rw[q7]at f7;have f7:=f7.int_eq;clear R1 oy cP xu xA q7 Lg Lr VB;show Code.wpIn _ _ _ _ _ Tp Sj;refine aeq ?_;refine my hG (n:=32) (p:=2) (l2:=[2]) rfl zk zk (l:=[⟨some 19,none,.load .any false 1 (.t 6)⟩,⟨some 20,none,.mv false (.t 7)⟩]) zk zd (W:=Kt) zk (gi st.below) (λ_ _=>True) (iF s [] fv (.int .i64 (s.name.words.length:Nat)) (.int .i64 (k:Nat)) (.int .i64 (k:Nat))) fr.size fr.defers (st.lq fr (iv _ _ _ _ Ky) (iv _ _ _ _ Nd) (iv _ _ _ _ f7)) (K:=λS' _=>S' 15=.int .i64 (s.name.words.length:Nat)/\S' 16=.int .i64 (k:Nat)/\S' 19=.val fv/\S' 20=.int .i64 (k:Nat)) ?_ ?_
 .simp[iF]
 rintro g1 S1 H1 WN w11 oy R1 ⟨xu,xA,q19,Vx⟩ cP;have fr:=fr.step R1.size (by rw[R1.defers,oy]<;>rfl) cP;have st:=st.grow (GD R1);have zP:=R1.slot 15 zd id;rw[xu]at zP;have zP:=zP.int_eq;have xz:=R1.slot 16 zd id;rw[xA]at xz;have xz:=xz.int_eq;have LJ:=R1.slot 19 zd id;rw[q19]at LJ;have LJ:=LJ.jT;have Qe:=R1.slot 20 zd id;rw[Vx]at Qe;have Qe:=Qe.int_eq;clear R1 oy cP xu xA q19 Vx Ky Nd f7;have xr:=Qv zo (d:=k) zo ([]:List Int) (s:=s);have nq:=Tv hG BJ hs hI mK k 0 [] [] uR w11 rfl (ae2 _) (by simpa using aN) (RH zo) (by simp;omega) st;refine il rfl rfl zr (f:=72) (args:=#[.int .i64 ((0:Nat):Int),.int .i64 (k:Nat),cS,.pointer (some ⟨bF+1,0,none⟩),.pointer (some ⟨bF,0,none⟩),.pointer (some ⟨bF+2,0,none⟩)]) (w':=w11) ?_ nq ?_
 .have k19:WN.eval (.tmp 19)=fv:=LJ;have k20:WN.eval (.tmp 20)=.int .i64 (k:Nat):=Qe;refine(C1 (f:=.tmp 19) (x:=.const (.int .i64 0)) (y:=.tmp 20) w11 rfl rfl rfl (k19.trans mK) zk).trans ?_;rw[k20]
  rfl
 rintro en w12 ⟨rfl,Mi2,hM2,st⟩;rw[List.nil_append]at st;refine⟨_,rfl,?_⟩;show Code.wpIn _ _ _ _ _ (WN.put (some 21) (.tuple #[])) w12
 obtain⟨a12,E7⟩:∃a12,WN.put (some 21) (.tuple #[])=a12:=⟨_,rfl⟩
 have fr:P0 bF (bF+1) (bF+2) cS a12:=fr.step (by rw[<-E7,ld];exact fr.size) (by rw[<-E7,tu];exact fr.defers) (by rw[<-E7];exact fj.put (λt ht=>by cases ht;rfl) _)
 have i15:a12.tmps.getD 15 undef=.int .i64 (s.name.words.length:Nat):=by rw[<-E7,f_ _ _ _ _ zd];exact zP
 have i16:a12.tmps.getD 16 undef=.int .i64 (k:Nat):=by rw[<-E7,f_ _ _ _ _ zd];exact xz
 rw[E7];clear E7 zP xz LJ Qe;refine aeq ?_;refine dS hG d_ (n:=32) (ac:=.ops [⟨some 22,none,.load .any false 1 (.t 4)⟩,⟨some 23,none,.lK (.t 22)⟩,⟨some 24,none,.bin .gtr (.t 23) (.c (.int .i64 0))⟩]) (W:=Kt) zk zk zk (gi st.below) (λ_ _=>True) (iF s (lu s k []) fv (.int .i64 (s.name.words.length:Nat)) (.int .i64 (k:Nat)) .cT) fr.size fr.defers (st.lq fr (iv _ _ _ _ i15) (iv _ _ _ _ i16) (jk _ _ _)) (K:=λS' _=>S' 15=.int .i64 (s.name.words.length:Nat)/\S' 16=.int .i64 (k:Nat)/\S' 24=.bool (decide (0<(lu s k []).length))) ?_ ?_
 .simp[iF]
 rintro g1 S1 H1 RF w13 oy R1 ⟨xu,xA,q24⟩ cP;have fr:=fr.step R1.size (by rw[R1.defers,oy]<;>rfl) cP;have st:=st.grow (GD R1);have zP:=R1.slot 15 zd id;rw[xu]at zP;have zP:=zP.int_eq;have xz:=R1.slot 16 zd id;rw[xA]at xz;have xz:=xz.int_eq;have Rv:=R1.slot 24 zd id;rw[q24]at Rv;have Rv:=Rv.gK;clear R1 oy cP xu xA q24 i15 i16;show Code.wpIn _ _ _ _ _ RF w13;refine ae7 (t:=decide (0<(lu s k []).length)) Rv ?_
 cases hL:lu s k []with
 |nil=>
  rw[hL]at st;simp only[List.length_nil,ah4,agC,aek,aeA];refine afG ?_;simp only[Exit.then,Exit.inBlock];show Code.wpIn _ _ _ _ _ RF w13;refine dS hG d_ (n:=32) (ac:=.ops [⟨some 25,none,.bin .add (.t 16) (.c (.int .i64 1))⟩,⟨some 16,none,.mv false (.t 25)⟩]) (W:=Kt) zk zk zk (gi st.below) (λ_ _=>True) (iF s [] fv (.int .i64 (s.name.words.length:Nat)) (.int .i64 (k:Nat)) .cT) fr.size fr.defers (st.lq fr (iv _ _ _ _ zP) (iv _ _ _ _ xz) (jk _ _ _)) (K:=λS' _=>S' 15=.int .i64 (s.name.words.length:Nat)/\S' 16=.int .i64 ((k+1:Nat):Int)) ?_ ?_
  .have qU:IntKind.i64.wrap ((k:Int)+1)=k+1:=bU zo;simp[iF,qU]
  rintro g1 S1 H1 X0 w14 oy R1 ⟨xu,xA⟩ cP;have fr:=fr.step R1.size (by rw[R1.defers,oy]<;>rfl) cP;have st:=st.grow (GD R1);have XB:=R1.slot 15 zd id;rw[xu]at XB;have XB:=XB.int_eq;have TM:=R1.slot 16 zd id;rw[xA]at TM;have TM:=TM.int_eq;refine⟨⟨k+1,Mi2,fr,XB,TM,zo,λj hj=>?_,st⟩,?_⟩
  .by_cases e:j=k
   .subst e;exact hL
   .exact iX j zo
  .rw[TM,Ga];show s.name.words.length-((k+1:Nat):Int).toNat<s.name.words.length-(k:Int).toNat;rw[Int.toNat_natCast,Int.toNat_natCast];omega
 |cons x l=>
  have aaR:z_ s=some x:=by rw[CA];exact N3 _ aN iX hL
  rw[hL]at st;simp only[List.length_cons,Nat.zero_lt_succ,agK,aeH];refine ags ?_;simp only[Exit.then,Exit.inBlock];show Code.wpIn _ _ _ _ _ RF w13;refine aeq (aeq ?_);refine dS hG d_ (n:=32) (ac:=.ops [⟨some 26,none,.load .any false 1 (.t 4)⟩,⟨some 27,none,.lK (.t 26)⟩,⟨some 28,none,.bin .eql (.t 27) (.c (.int .i64 0))⟩]) (W:=Kt) zk zk zk (gi st.below) (λ_ _=>True) (iF s (x::l) fv .cT .cT .cT) fr.size fr.defers (st.lq fr (jk _ _ _) (jk _ _ _) (jk _ _ _)) (K:=λS' _=>S' 28=.bool false) ?_ ?_
  .have dR:((l.length:Int)+1==0)=false:=by rw[aeO];omega
   simp[iF,dR]
   try omega
  rintro g1 S1 H1 aA wA oy R1 Sr cP;have fr:=fr.step R1.size (by rw[R1.defers,oy]<;>rfl) cP;have st:=st.grow (GD R1);have yR:=R1.slot 28 zd id;rw[Sr]at yR;have yR:=yR.gK;show Code.wpIn _ _ _ _ _ aA wA;refine ae7 (t:=false) yR ?_;simp only[aek,aeA];refine afG ?_;show Code.wpIn _ _ _ _ _ aA wA;refine aeq ?_
  refine dS hG d_ (n:=32) (ac:=.ops [⟨some 29,none,.load .any false 1 (.t 4)⟩,⟨some 30,none,.indexAddr 1 (.t 29) (.c (.int .i64 0))⟩,⟨some 31,none,.load .any false 1 (.t 30)⟩,⟨some 2,none,.mv true (.t 31)⟩,⟨some 3,none,.mv true (.c (.int .i64 0))⟩]) (W:=λ_=>true) zk zk zk (gi st.below) (λb _=>wB.heap.size<=b)
   (λt=>match t with|4=>.ref [.slice .view ((x::l).map vI)]|_=>.cT) fr.size fr.defers ?_ (K:=λS' _=>S' 2=.slice .view (ints x)/\S' 3=.int .i64 0) ?_ ?_
  .intro t ht;split
   .rw[fr.t4];exact⟨rfl,st.QC _ λb k h=>h⟩
   .exact⟨rfl,.cT _⟩
  .simp
  rintro g2 S2 H2 aB T2 oN R2 ⟨q2,q3⟩ _;have e2:=R2.slot 2 zd id;rw[q2]at e2;have e3:=R2.slot 3 zd id;rw[q3]at e3;have mM:=GD R2
  have r2:RD (λb _=>wB.heap.size<=b/\b<T2.heap.size) T2 (.slice .view (ints x)) (aB.tmps.getD 2 undef):=(e2.eP rfl).mono (cC.same λb k hb hp=>by
   rcases hp with⟨_,h⟩|⟨h,_⟩
   .rw[oN]at h;exact⟨h,hb⟩
   .rw[R2.base]at h;have:=st.below.size
    exact⟨zo,hb⟩)
  obtain⟨eJ,r3⟩:=RD.bounded (yC x) r2;refine aga (finish aB T2 .view (ints x) 0 eJ R2.size (by rw[R2.defers,oN]<;>rfl) (st.grow mM).below rfl r3 e3.int_eq ?_);rw[<-kl];unfold Dp
  rw[aaR]<;>rfl
def G6:List UInt8:=[116,114,97,109,32,49,32,49,32,49,32,48,10,99,101,108,108,32,49,32,50,32,110,111,10,101,110,100,32,49,55,56,10,102,114,111,110,116,32,49,32,49,10,115,112,97,99,101,115,32,48,32,48,32,48,32,48,32,49,10,115,105,103,110,32,49,10,119,111,114,100,32,110,111,32,48,32,45,10,101,110,100,32,48,57,56,10]
def va:bf:=⟨[⟨1,2,false⟩],1,1,1,0,⟨[1],[],0,0,0,0,1,[⟨[0],[],false⟩],1,1⟩⟩
def I3:JK mU=[vI [1],.int .i64 0]:=by kernel_rfl
def L7:mE G6=(va,0):=by kernel_rfl
def AG:iB va=G6:=by kernel_rfl
def Zl:gY va:=⟨zd,zd,zd,zd,λw hw=>by
 simp[va]at hw;subst hw;decide,λw hw=>by
 simp[va]at hw;subst hw;decide⟩
def aa4(hG:aQ GI)(hT:TB GI)(qD:ML GI):AC prog GI 10 [.str G6] (.ret (.ea [cH va,.int .i64 0])):=by
 have:=Yx hG hT qD G6;rwa [L7]at this
def aaf(hG:aQ GI):AC prog GI 12 [cH va] (.ret (.str G6)):=by
 have hI:eb va=true:=zk
 have:=Ye (GI:=GI) hG va (GS hI) zd (Cg (xf hI)) (QZ Zl.name (xf hI)) (by rw[AG];decide);rwa [AG]at this
def ac7(hG:aQ GI)(hT:TB GI)(qD:ML GI):AC prog GI 7 [] (.ret (.bool true)):=by
 have d:=adB (GI:=GI) hG;have a:=Wb (GI:=GI) hG;have b:=abY (GI:=GI) hG;have q1:=ab3 (GI:=GI) hG zb U5;have q2:=ac3 (GI:=GI) hG mU uV;have q3:=acO (GI:=GI) hG mU uV [3,2,2,4,5,1] zd;have q4:=adA (GI:=GI) hG mU uV;have q5:=abO (GI:=GI) hG zb U5;have q6:=abd (GI:=GI) hG mU uV 1;have q7:=acf (GI:=GI) hG mU uV;have q8:=abZ (GI:=GI) hG FE Vs;have q9:=abE (GI:=GI) hG mU uV;have q10:=ab9 (GI:=GI) hG FE Vs;have q11:=ac2 (GI:=GI) hG mU uV;have q12:=aa4 hG hT qD;have q13:=aaf (GI:=GI) hG;rw[Jn]at q1;rw[JG]at q2;rw[LN]at q3;rw[MR]at q4;rw[KR]at q5;rw[Lw]at q6;rw[Nc]at q7;rw[N6]at q8;rw[LI]at q9;rw[NQ]at q10;rw[I3]at q11;have p1:=Uf (GI:=GI) hG [9] [9] zd;have p2:=aa' (GI:=GI) hG [(1,1),(3,5)] [(1,1),(3,5)] zd;have p3:=Uf (GI:=GI) hG [1] [1] zd;refine dF hG func7 ntmps7 c7 ?_;refine aY (λS H=>S 0=.bool false) ah7 ?_
 rintro S H -
 refine aY (λS H=>S 1=vI [9]/\S 2=.int .i64 0) ?_ ?_
 .simp;refine oc d ?_;simp[cH,bh,ai];refine oc q1 ?_;simp
 clear S H;rintro S H ⟨s1,s2⟩;refine aY (λS H=>S 1=vI [9]/\S 2=.int .i64 0/\S 3=.slice .view (ct [(1,1),(3,5)])/\S 4=.int .i64 0) ?_ ?_
 .simp[s1,s2];refine oc a ?_;simp[cH,bh,ai,s1,s2];refine oc q2 ?_;simp[s1,s2]
 clear s1 s2 S H;rintro S H ⟨s1,s2,s3,s4⟩;refine aY (λS H=>S 1=vI [9]/\S 2=.int .i64 0/\S 3=.slice .view (ct [(1,1),(3,5)])/\S 4=.int .i64 0/\S 5=.int .i64 2/\S 6=.int .i64 0) ?_ ?_
 .simp[s1,s2,s3,s4];refine oc a ?_;simp[cH,bh,ai,s1,s2,s3,s4];refine oc q3 ?_;simp[s1,s2,s3,s4]
 clear s1 s2 s3 s4 S H;rintro S H ⟨s1,s2,s3,s4,s5,s6⟩;refine aY (λS H=>S 1=vI [9]/\S 2=.int .i64 0/\S 3=.slice .view (ct [(1,1),(3,5)])/\S 4=.int .i64 0/\S 5=.int .i64 2/\S 6=.int .i64 0/\S 7=.int .i64 1/\S 8=.int .i64 0) ?_ ?_
 .simp[s1,s2,s3,s4,s5,s6];refine oc a ?_;simp[cH,bh,ai,s1,s2,s3,s4,s5,s6];refine oc q4 ?_;simp[s1,s2,s3,s4,s5,s6]
 clear s1 s2 s3 s4 s5 s6 S H;rintro S H ⟨s1,s2,s3,s4,s5,s6,s7,s8⟩;refine aY (λS H=>S 1=vI [9]/\S 2=.int .i64 0/\S 3=.slice .view (ct [(1,1),(3,5)])/\S 4=.int .i64 0/\S 5=.int .i64 2/\S 6=.int .i64 0/\S 7=.int .i64 1/\S 8=.int .i64 0/\S 9=.int .i64 1/\S 10=.int .i64 0) ?_ ?_
 .simp[s1,s2,s3,s4,s5,s6,s7,s8];refine oc d ?_;simp[cH,bh,ai,s1,s2,s3,s4,s5,s6,s7,s8];refine oc q5 ?_;simp[s1,s2,s3,s4,s5,s6,s7,s8]
 clear s1 s2 s3 s4 s5 s6 s7 s8 S H;rintro S H ⟨s1,s2,s3,s4,s5,s6,s7,s8,s9,cE⟩;refine aY (λS H=>S 1=vI [9]/\S 2=.int .i64 0/\S 3=.slice .view (ct [(1,1),(3,5)])/\S 4=.int .i64 0/\S 5=.int .i64 2/\S 6=.int .i64 0/\S 7=.int .i64 1/\S 8=.int .i64 0/\S 9=.int .i64 1/\S 10=.int .i64 0/\S 11=.int .i64 2/\S 12=.int .i64 0) ?_ ?_
 .simp[s1,s2,s3,s4,s5,s6,s7,s8,s9,cE];refine oc a ?_;simp[cH,bh,ai,s1,s2,s3,s4,s5,s6,s7,s8,s9,cE];refine oc q6 ?_;simp[s1,s2,s3,s4,s5,s6,s7,s8,s9,cE]
 clear s1 s2 s3 s4 s5 s6 s7 s8 s9 cE S H;rintro S H ⟨s1,s2,s3,s4,s5,s6,s7,s8,s9,cE,cG,dN⟩;refine aY (λS H=>S 1=vI [9]/\S 2=.int .i64 0/\S 3=.slice .view (ct [(1,1),(3,5)])/\S 4=.int .i64 0/\S 5=.int .i64 2/\S 6=.int .i64 0/\S 7=.int .i64 1/\S 8=.int .i64 0/\S 9=.int .i64 1/\S 10=.int .i64 0/\S 11=.int .i64 2/\S 12=.int .i64 0/\S 13=.int .i64 1/\S 14=.int .i64 4/\S 15=.int .i64 0) ?_ ?_
 .simp[s1,s2,s3,s4,s5,s6,s7,s8,s9,cE,cG,dN];refine oc a ?_;simp[cH,bh,ai,s1,s2,s3,s4,s5,s6,s7,s8,s9,cE,cG,dN];refine oc q7 ?_;simp[s1,s2,s3,s4,s5,s6,s7,s8,s9,cE,cG,dN]
 clear s1 s2 s3 s4 s5 s6 s7 s8 s9 cE cG dN S H;rintro S H ⟨s1,s2,s3,s4,s5,s6,s7,s8,s9,cE,cG,dN,dY,eQ,kc⟩;refine aY (λS H=>S 1=vI [9]/\S 2=.int .i64 0/\S 3=.slice .view (ct [(1,1),(3,5)])/\S 4=.int .i64 0/\S 5=.int .i64 2/\S 6=.int .i64 0/\S 7=.int .i64 1/\S 8=.int .i64 0/\S 9=.int .i64 1/\S 10=.int .i64 0/\S 11=.int .i64 2/\S 12=.int .i64 0/\S 13=.int .i64 1/\S 14=.int .i64 4/\S 15=.int .i64 0/\S 16=.int .i64 3/\S 17=.int .i64 0) ?_ ?_
 .simp[s1,s2,s3,s4,s5,s6,s7,s8,s9,cE,cG,dN,dY,eQ,kc];refine oc b ?_;simp[cH,bh,ai,s1,s2,s3,s4,s5,s6,s7,s8,s9,cE,cG,dN,dY,eQ,kc];refine oc q8 ?_;simp[s1,s2,s3,s4,s5,s6,s7,s8,s9,cE,cG,dN,dY,eQ,kc]
 clear s1 s2 s3 s4 s5 s6 s7 s8 s9 cE cG dN dY eQ kc S H;rintro S H ⟨s1,s2,s3,s4,s5,s6,s7,s8,s9,cE,cG,dN,dY,eQ,kc,gk,jJ⟩;refine aY (λS H=>S 1=vI [9]/\S 2=.int .i64 0/\S 3=.slice .view (ct [(1,1),(3,5)])/\S 4=.int .i64 0/\S 5=.int .i64 2/\S 6=.int .i64 0/\S 7=.int .i64 1/\S 8=.int .i64 0/\S 9=.int .i64 1/\S 10=.int .i64 0/\S 11=.int .i64 2/\S 12=.int .i64 0/\S 13=.int .i64 1/\S 14=.int .i64 4/\S 15=.int .i64 0/\S 16=.int .i64 3/\S 17=.int .i64 0/\S 18=.int .i64 1/\S 19=.int .i64 0) ?_ ?_
 .simp[s1,s2,s3,s4,s5,s6,s7,s8,s9,cE,cG,dN,dY,eQ,kc,gk,jJ];refine oc a ?_;simp[cH,bh,ai,s1,s2,s3,s4,s5,s6,s7,s8,s9,cE,cG,dN,dY,eQ,kc,gk,jJ];refine oc q9 ?_;simp[s1,s2,s3,s4,s5,s6,s7,s8,s9,cE,cG,dN,dY,eQ,kc,gk,jJ]
 clear s1 s2 s3 s4 s5 s6 s7 s8 s9 cE cG dN dY eQ kc gk jJ S H;rintro S H ⟨s1,s2,s3,s4,s5,s6,s7,s8,s9,cE,cG,dN,dY,eQ,kc,gk,jJ,kJ,pj⟩;refine aY (λS H=>S 1=vI [9]/\S 2=.int .i64 0/\S 3=.slice .view (ct [(1,1),(3,5)])/\S 4=.int .i64 0/\S 5=.int .i64 2/\S 6=.int .i64 0/\S 7=.int .i64 1/\S 8=.int .i64 0/\S 9=.int .i64 1/\S 10=.int .i64 0/\S 11=.int .i64 2/\S 12=.int .i64 0/\S 13=.int .i64 1/\S 14=.int .i64 4/\S 15=.int .i64 0/\S 16=.int .i64 3/\S 17=.int .i64 0/\S 18=.int .i64 1/\S 19=.int .i64 0/\S 20=.int .i64 4/\S 21=.int .i64 2/\S 22=.int .i64 0) ?_ ?_
 .simp[s1,s2,s3,s4,s5,s6,s7,s8,s9,cE,cG,dN,dY,eQ,kc,gk,jJ,kJ,pj];refine oc b ?_;simp[cH,bh,ai,s1,s2,s3,s4,s5,s6,s7,s8,s9,cE,cG,dN,dY,eQ,kc,gk,jJ,kJ,pj];refine oc q10 ?_;simp[s1,s2,s3,s4,s5,s6,s7,s8,s9,cE,cG,dN,dY,eQ,kc,gk,jJ,kJ,pj]
 clear s1 s2 s3 s4 s5 s6 s7 s8 s9 cE cG dN dY eQ kc gk jJ kJ pj S H;rintro S H ⟨s1,s2,s3,s4,s5,s6,s7,s8,s9,cE,cG,dN,dY,eQ,kc,gk,jJ,kJ,pj,uC,jH,lx⟩;refine aY (λS H=>S 1=vI [9]/\S 2=.int .i64 0/\S 3=.slice .view (ct [(1,1),(3,5)])/\S 4=.int .i64 0/\S 5=.int .i64 2/\S 6=.int .i64 0/\S 7=.int .i64 1/\S 8=.int .i64 0/\S 9=.int .i64 1/\S 10=.int .i64 0/\S 11=.int .i64 2/\S 12=.int .i64 0/\S 13=.int .i64 1/\S 14=.int .i64 4/\S 15=.int .i64 0/\S 16=.int .i64 3/\S 17=.int .i64 0/\S 18=.int .i64 1/\S 19=.int .i64 0/\S 20=.int .i64 4/\S 21=.int .i64 2/\S 22=.int .i64 0/\S 23=vI [1]/\S 24=.int .i64 0) ?_ ?_
 .simp[s1,s2,s3,s4,s5,s6,s7,s8,s9,cE,cG,dN,dY,eQ,kc,gk,jJ,kJ,pj,uC,jH,lx];refine oc a ?_;simp[cH,bh,ai,s1,s2,s3,s4,s5,s6,s7,s8,s9,cE,cG,dN,dY,eQ,kc,gk,jJ,kJ,pj,uC,jH,lx];refine oc q11 ?_;simp[s1,s2,s3,s4,s5,s6,s7,s8,s9,cE,cG,dN,dY,eQ,kc,gk,jJ,kJ,pj,uC,jH,lx]
 clear s1 s2 s3 s4 s5 s6 s7 s8 s9 cE cG dN dY eQ kc gk jJ kJ pj uC jH lx S H;rintro S H ⟨s1,s2,s3,s4,s5,s6,s7,s8,s9,cE,cG,dN,dY,eQ,kc,gk,jJ,kJ,pj,uC,jH,lx,jU,sX⟩;refine aY (λS H=>S 1=vI [9]/\S 2=.int .i64 0/\S 3=.slice .view (ct [(1,1),(3,5)])/\S 4=.int .i64 0/\S 5=.int .i64 2/\S 6=.int .i64 0/\S 7=.int .i64 1/\S 8=.int .i64 0/\S 9=.int .i64 1/\S 10=.int .i64 0/\S 11=.int .i64 2/\S 12=.int .i64 0/\S 13=.int .i64 1/\S 14=.int .i64 4/\S 15=.int .i64 0/\S 16=.int .i64 3/\S 17=.int .i64 0/\S 18=.int .i64 1/\S 19=.int .i64 0/\S 20=.int .i64 4/\S 21=.int .i64 2/\S 22=.int .i64 0/\S 23=vI [1]/\S 24=.int .i64 0/\S 25=.box 25 0/\H 25=some (bh va)/\S 26=.int .i64 0) ?_ ?_
 .simp[s1,s2,s3,s4,s5,s6,s7,s8,s9,cE,cG,dN,dY,eQ,kc,gk,jJ,kJ,pj,uC,jH,lx,jU,sX];refine oc q12 ?_;simp[cH,bh,ai,s1,s2,s3,s4,s5,s6,s7,s8,s9,cE,cG,dN,dY,eQ,kc,gk,jJ,kJ,pj,uC,jH,lx,jU,sX]
 clear s1 s2 s3 s4 s5 s6 s7 s8 s9 cE cG dN dY eQ kc gk jJ kJ pj uC jH lx jU sX S H;rintro S H ⟨s1,s2,s3,s4,s5,s6,s7,s8,s9,cE,cG,dN,dY,eQ,kc,gk,jJ,kJ,pj,uC,jH,lx,jU,sX,gn,F1,iq⟩;refine aY (λS H=>S 1=vI [9]/\S 3=.slice .view (ct [(1,1),(3,5)])/\S 5=.int .i64 2/\S 7=.int .i64 1/\S 9=.int .i64 1/\S 11=.int .i64 2/\S 13=.int .i64 1/\S 14=.int .i64 4/\S 16=.int .i64 3/\S 18=.int .i64 1/\S 20=.int .i64 4/\S 21=.int .i64 2/\S 23=vI [1]/\S 25=.box 25 0/\H 25=some (bh va)) ?_ ?_
 .simp[s1,s3,s5,s7,s9,cG,dY,eQ,gk,kJ,uC,jH,jU,gn,F1,s2,s4,s6,s8,cE,dN,kc,jJ,pj,lx,sX,iq]
 clear s1 s3 s5 s7 s9 cG dY eQ gk kJ uC jH jU gn F1 s2 s4 s6 s8 cE dN kc jJ pj lx sX iq S H;rintro S H ⟨s1,s3,s5,s7,s9,cG,dY,eQ,gk,kJ,uC,jH,jU,gn,F1⟩;refine aY (λS H=>S 16=.int .i64 3/\S 18=.int .i64 1/\S 20=.int .i64 4/\S 21=.int .i64 2/\S 23=vI [1]/\S 25=.box 25 0/\H 25=some (bh va)) ?_ ?_
 .simp[s1,s3,s5,s7,s9,cG,dY,eQ,gk,kJ,uC,jH,jU,gn,F1,br];refine oc p1 ?_;simp[s1,s3,s5,s7,s9,cG,dY,eQ,gk,kJ,uC,jH,jU,gn,F1,br,cD];refine oc p2 ?_;simp[s1,s3,s5,s7,s9,cG,dY,eQ,gk,kJ,uC,jH,jU,gn,F1,br,cD]
 clear s1 s3 s5 s7 s9 cG dY eQ gk kJ uC jH jU gn F1 S H;rintro S H ⟨gk,kJ,uC,jH,jU,gn,F1⟩;simp[gk,kJ,uC,jH,jU,gn,F1,br];refine oc p3 ?_;simp[gk,kJ,uC,jH,jU,gn,F1,br,cD];refine oc q13 ?_;simp[G6]
end Go.Proofs.Tryz
namespace Go.Proofs.Tryz
open Go Go.AL Go.RowKit Go.Proofs Go.Proofs.Tram
def WG:gY eC:=⟨zd,zd,zd,zd,λ_ h=>(ae1 h).elim,λ_ h=>(ae1 h).elim⟩
def TG:bh eC=[.slice .view [],.int .i64 0,.int .i64 0,.int .i64 0,.int .i64 0,.slice .view [],.slice .view [],.int .i64 0,.int .i64 0,.int .i64 0,.int .i64 0,.int .i64 0,.slice .view [],.int .i64 0,.int .i64 0]:=rfl
def rn{n:Int}(h:gB n):nC (bW n)=true:=by
 have h3:=qT h;unfold nC;rw[wk h3,agq,aej];exact(fO h3).2.1 h.2
def rp{n:Int}(h:gB n):da (bW n)=n:=(om (qT h)).2.2.2
def Me{c:fC}(h:gB c.lo/\gB c.hi):ju (eI c)=(c,true):=by
 have e:ju (eI c)=if ly [bW c.lo,bW c.hi] 2=true then(⟨(fR [bW c.lo,bW c.hi]).getD 0 0,(fR [bW c.lo,bW c.hi]).getD 1 0,jy c.hid==vY⟩,true)else(cell0,false):=by unfold ju;rw[Cl h]
 have hw:[bW c.lo,bW c.hi].all nC=true:=by simp[rn h.1,rn h.2]
 rw[e,if_pos (GK (k:=2) hw rfl),(sF hw).2,show(jy c.hid==vY)=c.hid from ur _];simp[rp h.1,rp h.2]
def Gp(c:fC):kW (eI c)=true:=by
 unfold eI gQ;rw[iw 32 _ (by simp[ma])];simp[kW,vA]
def Iq(c:Int):kW (nc c)=false:=by
 unfold nc kW vA;simp
def CH{e:List UInt8}{rs:List (List UInt8)}(he:kW e=false):∀{l:List fC},(∀c∈l,gB c.lo/\gB c.hi)->∀cs,l5 cs (l.map eI++e::rs)=some (cs++l)
 |[],_,cs=>by
  show(if kW e=true then _ else some cs)=_;rw[he];simp
 |c::l,h,cs=>by
  show(if kW (eI c)=true then(if(ju (eI c)).2=true then l5 (cs++[(ju (eI c)).1]) (l.map eI++e::rs)else none)else some cs)=_;rw[if_pos (Gp c),Me (h c ah7),if_pos rfl,CH he λd hd=>h d (by simp[hd])];simp
def JB{x:bf}(h:kH x)(hn:x.name=cn)(u:List UInt8):rk (eS x++u)=some x:=by
 have hs:=BW h u;have hp:=Cv h;have h1:=h.head x.pos (by simp[fm]);have h2:=h.head x.reach (by simp[fm]);have h3:=h.head x.fh (by simp[fm]);have h4:=h.head x.eF (by simp[fm])
 have hw:[bW x.pos,bW x.reach,bW x.fh,bW x.eF].all nC=true:=by simp[rn h1,rn h2,rn h3,rn h4]
 have hH:pf (eS x++u)=[bW x.pos,bW x.reach,bW x.fh,bW x.eF]:=by
  unfold pf;rw[hs];show(bL 32 (lB x)).tail=_
  rw[hp]<;>rfl
 unfold rk;rw[hH,hs,if_pos (GK (k:=4) hw rfl),(sF hw).2];show(l5 [] (x.cells.map eI++_::_)).map _=_;rw[CH (Iq _) h.cells];have e0:at' ([bW x.pos,bW x.reach,bW x.fh,bW x.eF].map da) 0=x.pos:=rp h1;have e1:at' ([bW x.pos,bW x.reach,bW x.fh,bW x.eF].map da) 1=x.reach:=rp h2;have e2:at' ([bW x.pos,bW x.reach,bW x.fh,bW x.eF].map da) 2=x.fh:=rp h3;have e3:at' ([bW x.pos,bW x.reach,bW x.fh,bW x.eF].map da) 3=x.eF:=rp h4;show some (⟨[]++x.cells,_,_,_,_,cn⟩:bf)=some x;rw[e0,e1,e2,e3,List.nil_append,<-hn]
def Nk{x:bf}{u:List UInt8}{y:bw}(hu:lr u=.ok y)(hl:u.length<=320):yq (eS x++u) x=some { x with name:=y }:=by
 have hp:lQ (eS x++u) (eS x)=true:=tH.2 ⟨u,rfl⟩
 have hb:(lQ (eS x++u) (eS x)&&decide ((eS x++u).length<=(eS x).length+320))=true:=by
  rw[hp,agq,aej,aeu];omega
 have ht:iB { x with name:=y }=eS x++u:=by
  show eS { x with name:=y }++fb y=_;rw[(zg hu).1]
  rfl
 unfold yq;rw[if_pos hb,List.drop_left,hu];show(if iB { x with name:=y }=_ then _ else _)=_;rw[if_pos ht]
def Od{x y:bf}{r:List UInt8}(hx:kH x)(h:qx x r=.ok y):kH y:=by
 unfold qx at h;split at h
 .obtain⟨a,ha,h⟩:=fo h;obtain⟨b,hb,h⟩:=fo h;obtain⟨c,hc,h⟩:=fo h;obtain⟨d,hd,h⟩:=fo h;cases h;refine⟨λn hn=>?_,hx.cells⟩;simp only[fm,aeD,ae1,agF]at hn;rcases hn with rfl|rfl|rfl|rfl
  .exact gM ha
  .exact gM hb
  .exact gM hc
  .exact gM hd
 .cases h
def Pm{x y:bf}{r:List UInt8}(hx:kH x)(h:qj x r=.ok y):kH y:=by
 unfold qj at h;split at h
 .obtain⟨a,ha,h⟩:=fo h;obtain⟨b,hb,h⟩:=fo h;cases h;refine⟨hx.head,λc hc=>?_⟩;rcases aeg.1 hc with hc|hc
  .exact hx.cells c hc
  .rw[aev]at hc;subst hc;exact⟨gM ha,gM hb⟩
 .cases h
def NW{x y:Nat×bf}{r:List UInt8}(hx:kH x.2)(h:gW x r=.ok y):kH y.2:=by
 unfold gW at h;split at h
 .obtain⟨a,ha,h⟩:=fo h;cases h;exact Od hx ha
 .obtain⟨a,ha,h⟩:=fo h;cases h;exact Pm hx ha
def DY:∀{L:List (List UInt8)}{x y:Nat×bf},kH x.2->dO gW x L=.ok y->kH y.2
 |[],x,y,hx,h=>by cases h;exact hx
 |r::L,x,y,hx,h=>by
  obtain⟨a,ha,h⟩:=fo h;exact DY (NW hx ha) h
def UW:kH eC:=⟨λn hn=>by simp[fm,eC]at hn;rcases hn with rfl|rfl|rfl|rfl<;>exact⟨zd,zd⟩,by simp[eC]⟩
def MH{t u:List UInt8}{x:bf}(h:kn t=.ok (x,u)):kH x/\t=eS x++u/\x.name=cn:=by
 have hk:=(sK h).2
 have Fm:kn t=if firstT gV (bL 10 t)<=0 then .error t
 else c_ (dO gW (0,eC) ((bL 10 t).take (firstT gV (bL 10 t)).toNat)) λx=>if lQ t (eS x.2)then .ok (x.2,t.drop (eS x.2).length)else .error t:=rfl
 rw[Fm]at h;split at h
 .cases h
 obtain⟨a,ha,h⟩:=fo h;split at h
 case isFalse=>cases h
 rename_i hp;cases h;obtain⟨v,hv⟩:=tH.1 hp;refine⟨DY UW ha,?_,hk⟩
 conv=>rhs;rw[hv,List.drop_left]
 exact hv
def FB:∀{L:List (List UInt8)}{cs ds:List fC},(∀c∈cs,gB c.lo/\gB c.hi)->l5 cs L=some ds->∀c∈ds,gB c.lo/\gB c.hi
 |[],cs,ds,hc,h=>by cases h;exact hc
 |r::L,cs,ds,hc,h=>by
  have h:(if kW r=true then(if(ju r).2=true then l5 (cs++[(ju r).1]) L else none)else some cs)=some ds:=h;split at h
  .split at h
   .rename_i hb;refine FB (λc wP=>?_) h;rcases aeg.1 wP with h1|h1
    .exact hc c h1
    .rw[aev]at h1;subst h1;exact D3 hb
   .cases h
  .cases h;exact hc
def Mf{t:List UInt8}{x:bf}(h:rk t=some x):kH x/\x.name=cn:=by
 unfold rk at h;split at h
 .rename_i hb;obtain⟨cs,tZ,h⟩:=aeo.1 h;cases h;refine⟨⟨λn hn=>?_,FB ah7 tZ⟩,rfl⟩;simp only[fm,aeD,ae1,agF]at hn
  rcases hn with rfl|rfl|rfl|rfl<;>exact Fs hb _
 .cases h
def yh{t:List UInt8}{s:bf}(h:ve t=some s):kH s/\iB s=t/\lr (fb s.name)=.ok s.name/\(fb s.name).length<=320:=by
 unfold ve at h;obtain⟨x,hx,h⟩:=af3.1 h;obtain⟨hN,hn⟩:=Mf hx;unfold yq at h;split at h
 case isFalse=>cases h
 rename_i hb;rw[aeb,aej]at hb;obtain⟨v,hv⟩:=tH.1 hb.1;have hl:=hb.2;rw[hv,aeu]at hl
 cases hr:lr (t.drop (eS x).length)with
 |error e=>rw[hr]at h;cases h
 |ok y=>
  rw[hr]at h;have h:(if iB { x with name:=y }=t then some ({ x with name:=y }:bf)else none)=some s:=h;split at h
  case isFalse=>cases h
  rename_i hp;cases h
  have hd:t.drop (eS x).length=v:=by rw[hv,List.drop_left]
  rw[hd]at hr;have ht:=(zg hr).1;refine⟨⟨hN.head,hN.cells⟩,hp,?_,?_⟩
  .show lr (fb y)=.ok y;rw[ht];exact hr
  .show(fb y).length<=320;rw[ht];omega
def Su {t:List UInt8} (ht:t.length≤530):mE t=match ve t with
  |none=>(eC,4)
  |some s=>if eb s=true then(s,0)else(eC,2):=by
 have NA:mE t=match kn t with
 |.error _=>(eC,4)
 |.ok x=>if(fe x.2).2=3\/(fe x.2).2=4 then(eC,4)
  else if(fe x.2).2≠0\/eb { x.1 with name:=(fe x.2).1 }=false then(eC,2)
  else({ x.1 with name:=(fe x.2).1 },0):=by unfold mE;rw[if_neg zo]<;>rfl
 cases hx:ve t with
 |some s=>
  obtain⟨hN,hp,hr,hl⟩:=yh hx
  have e:kn t=.ok ({ s with name:=cn },fb s.name):=by rw[<-hp];exact Gi hN _
  have hL:fe (fb s.name)=if cN s.name then(s.name,0)else(cn,2):=by
   unfold fe;rw[if_neg zo,ux.1 hr]
  rw[NA,e]
  show(if(fe (fb s.name)).2=3\/(fe (fb s.name)).2=4 then(eC,(4:Int))else if(fe (fb s.name)).2≠0\/eb { s with name:=(fe (fb s.name)).1 }=false then(eC,2)else({ s with name:=(fe (fb s.name)).1 },0))=if eb s=true then(s,0)else(eC,2)
  rw[hL]
  cases hs:cN s.name with
  |false=>
   have:eb s=false:=by
    rw[<-afd];intro h;rw[xf h]at hs;cases hs
   rw[this];simp
  |true=>
   cases hI:eb s<;>simp[hI]
 |none=>
  show mE t=(eC,4)
  rw[NA]
  cases hp:kn t with
  |error e=>rfl
  |ok a=>
   obtain⟨x,u⟩:=a;obtain⟨hN,FN,hn⟩:=MH hp;show(if(fe u).2=3\/(fe u).2=4 then(eC,(4:Int))else _)=_;refine if_pos ?_
   refine Classical.byContradiction λhh=>?_
   have hh':¬(fe u).2=3/\¬(fe u).2=4:=by
    constructor
    .exact λh=>hh (.inl h)
    .exact λh=>hh (.inr h)
   by_cases hl:320<u.length
   .exact hh'.1 (by unfold fe;rw[if_pos hl])
   cases tr:jq u with
   |error e=>exact hh'.2 (by unfold fe;rw[if_neg hl,tr])
   |ok y=>
    have hy:=ux.2 tr
    have:ve t=some { x with name:=y }:=by
     unfold ve;rw[FN,JB hN hn u];exact Nk hy zo
    rw[hx]at this;cases this
def Qm{t:List UInt8}(ht:t.length<=630){s:bf}(h:ve t=some s):gY s:=by
 obtain⟨hN,hp,hr,hl⟩:=yh h;refine⟨?_,?_⟩
 .have h1:(iB s).length=t.length:=by rw[hp]
  unfold iB eS at h1;rw[sy]at h1;simp only[aeu]at h1
  have h2:∀l:List (List UInt8),l.length<=(eL l).length:=by
   intro l
   induction l with
   |nil=>exact ae2 _
   |cons p l ih=>
    have:eL (p::l)=p++[10]++eL l:=by simp[eL]
    rw[this];simp only[aeu,List.length_cons,List.length_nil];omega
  have h3:=h2 (fx s)
  have h4:(fx s).length=1+s.cells.length:=by unfold fx;simp;omega
  omega
 .exact sV (t:=fb s.name) zo (ux.1 hr)
end Go.Proofs.Tryz
namespace Go.Proofs.Tryz
open Go Go.AL Go.RowKit Go.Proofs Go.Proofs.Tram
attribute [local simp] aU bB bm aO aV aJ aK av az aW aw ao bO bP an ar ev aM.S aM.H bj aF bl AL.start AV.cells AV.storable AV.aZ aP bt bV bu HR.okB post bQ bG bH AV.out AV.aX aG aL fz cL AV.vw bT vI int a_ aq bD bq cd cj bZ bI aI AV.bC AV.dE
variable{GI:World->Prop}
def ac4 (hG:aQ GI) (hT:TB GI) (qD:ML GI) (t:List UInt8):AC prog GI 4 [.str t] (.ret (.bool true)):=by
  have hk:=ac7 hG hT qD
  by_cases hlen:630<t.length
  . have hI:(630:Int) < t.length:=by omega
    refine dF hG func4 ntmps4 c4 ?_;refine aY (λS H=>S 0=.str t) ah7 ?_;intro S H s0;simp[s0,hI];refine⟨_,zk,hk,λ_=>rfl,?_⟩;simp
  have hI:¬(630:Int)<t.length:=zo
  have Tp:=Yx (GI:=GI) hG hT qD t;have X0:=abf (GI:=GI) hG hT t zo;have ZJ:=Wd (GI:=GI) hG eC WG;unfold cH at ZJ;rw[TG]at ZJ
  have key:∀ (x y:bf) (e:Int) (b:Bool),mE t=(x,e)→yF (ve t) = .ea [cH y,.bool b] →
      ((∃want:Int,want≠0/\e=want/\x=eC/\((530<t.length/\want=3)\/(¬530<t.length/\b=false/\want=4)\/(¬530<t.length/\b=true/\AC prog GI 9 [cH y] (.ret (.bool false))/\want=2)))\/
       (¬530<t.length/\b=true/\AC prog GI 9 [cH y] (.ret (.bool true))/\e=0/\x=y/\AC prog GI 8 [cH y] (.ret (.ea [.str t,.int .i64 0]))/\AC prog GI 13 [cH y,cH y] (.ret (.bool true))))->
      AC prog GI 4 [.str t] (.ret (.bool true)):=by
    intro x y e b h1 h2 hc;rw[h1]at Tp;rw[h2]at X0;unfold cH at Tp X0;refine dF hG func4 ntmps4 c4 ?_;refine aY (λS H=>S 0=.str t) ah7 ?_;intro S H s0;refine aY (λS H=>S 0=.str t) (by simp[s0,hI]) ?_;clear s0 S H;intro S H s0;refine aY (λS H=>S 0=.str t/\S 3=.box 3 0/\H 3=some (bh x)/\S 4=.int .i64 e) ?_ ?_
    . simp [s0]
      refine oc Tp ?_;simp[s0,bh,ai]
    clear s0 S H;rintro S H ⟨s0,s3,e3,s4⟩;refine aY (λS H=>S 0=.str t/\S 3=.box 3 0/\H 3=some (bh x)/\S 4=.int .i64 e/\S 5=.box 5 0/\H 5=some (bh y)/\S 6=.bool b) ?_ ?_
    . simp [s0]
      refine oc X0 ?_;simp[s0,s3,e3,s4,bh,ai]
    clear s0 s3 e3 s4 S H;rintro S H ⟨s0,s3,e3,s4,s5,e5,s6⟩;refine aY (λS H=>S 0=.str t/\S 3=.box 3 0/\H 3=some (bh x)/\S 4=.int .i64 e/\S 5=.box 5 0/\H 5=some (bh y)/\S 6=.bool b/\S 7=.int .i64 0) (by simp[s0,s3,e3,s4,s5,e5,s6]) ?_;clear s0 s3 e3 s4 s5 e5 s6 S H;rintro S H ⟨s0,s3,e3,s4,s5,e5,s6,s7⟩
    rcases hc with⟨want,Vy,rfl,rfl,hc⟩|⟨hl,rfl,a9,rfl,rfl,a8,RF⟩
    . have dR:(e != 0)=true:=by simpa using Vy
      refine aY (λS H=>S 3=.box 3 0/\H 3=some (bh eC)/\S 4=.int .i64 e/\S 7=.int .i64 e) ?_ ?_
      . rcases hc with ⟨hl,rfl⟩ | ⟨hl,rfl,rfl⟩ | ⟨hl,rfl,a9,rfl⟩
        . have rK:(530:Int) < t.length:=by omega
          simp[s0,s3,e3,s4,s5,e5,s6,s7,rK]
        . have rK:¬ (530:Int) < t.length:=by omega
          simp[s0,s3,e3,s4,s5,e5,s6,s7,rK]
        . have rK:¬ (530:Int) < t.length:=by omega
          unfold cH at a9;simp[s0,s3,e3,s4,s5,e5,s6,s7,rK,bh,ai];refine oc a9 ?_;simp[s0,s3,e3,s4,s5,e5,s6,s7,rK,bh,ai]
      clear s0 s3 e3 s4 s5 e5 s6 s7 S H;rintro S H ⟨s3,e3,s4,s7⟩;rw[TG]at e3;simp[s3,e3,s4,s7,dR,Vy,cD];refine oc ZJ ?_;simp;refine⟨_,zk,hk,λ_=>rfl,?_⟩;simp
    . have rK:¬ (530:Int) < t.length:=by omega
      unfold cH at a9 a8 RF;refine aY (λS H=>S 0=.str t/\S 3=.box 3 0/\H 3=some (bh x)/\S 4=.int .i64 0/\S 5=.box 5 0/\H 5=some (bh x)/\S 7=.int .i64 0) ?_ ?_
      . simp [s0,s3,e3,s4,s5,e5,s6,s7,rK,bh,ai]
        refine oc a9 ?_;simp[s0,s3,e3,s4,s5,e5,s6,s7,rK,bh,ai]
      clear s0 s3 e3 s4 s5 e5 s6 s7 S H;rintro S H ⟨s0,s3,e3,s4,s5,e5,s7⟩;simp[s0,s3,e3,s4,s5,e5,s7,bh,ai];refine oc a8 ?_;simp[s0,s3,e3,s4,s5,e5,s7,bh,ai];refine oc RF ?_;simp[s0,s3,e3,s4,s5,e5,s7,bh,ai];refine⟨_,zk,hk,λ_=>rfl,?_⟩;simp
  by_cases hl:530<t.length
  . have hr:mE t=(eC,3):=by unfold mE;rw [if_pos hl]
    cases hx:ve t with
    |none=>exact key eC eC 3 false hr (by rw[hx]<;>rfl) (.inl ⟨3,zd,rfl,rfl,.inl ⟨hl,rfl⟩⟩)
    |some y=>exact key eC y 3 true hr (by rw[hx]<;>rfl) (.inl ⟨3,zd,rfl,rfl,.inl ⟨hl,rfl⟩⟩)
  have hr:=Su (t:=t) zo
  cases hx:ve t with
  |none =>
    rw[hx]at hr;exact key eC eC 4 false hr (by rw[hx]<;>rfl) (.inl ⟨4,zd,rfl,rfl,.inr (.inl ⟨hl,rfl,rfl⟩)⟩)
  |some x =>
    rw[hx]at hr;have hs:=Qm zo hx;have a9:=ac9 (GI:=GI) hG x hs
    have hr:mE t=if eb x=true then(x,0)else(eC,2):=hr
    cases gC:eb x with
    |false =>
      rw[gC]at hr a9;exact key eC x 2 true hr (by rw[hx]<;>rfl) (.inl ⟨2,zd,rfl,rfl,.inr (.inr ⟨hl,rfl,a9,rfl⟩)⟩)
    |true =>
      rw[gC]at hr a9;have hp:=(yh hx).2.1;have a8:=WL (GI:=GI) hG hT x hs gC (by rw[hp];omega);rw[hp]at a8;exact key x x 0 true hr (by rw[hx]<;>rfl) (.inr ⟨hl,rfl,a9,rfl,rfl,a8,Wd hG x hs⟩)
end Go.Proofs.Tryz
namespace Go.Proofs.YtajdcjkalbbogaaGreatDoor
open Go Go.AL Go.ChangeShapes Go.WideShapes Go.ChangeAt Go.RowKit Go.Proofs.Tryz
namespace Reads
abbrev row:OpenClaim:=Rows.tramReadsRow
abbrev spec:ChangeSpec:=Rows.tramReadsSpec
def call (W:World) (base:Nat) (args:Array Value) {H:Type} {enc:TypeId×Value→H} (ds:List (DataW H)) (p:List MemPlace) (hG:GT W) (Hh:∀ (j:Nat) t v,Tryz.f4.params[j]? = some t→args[j]? = some v→Value.okWide Tryz.prog W .any base t v)
  (hA:DataW.TrodAll enc Tryz.prog W 0 (λ_=>true) true Tryz.f4.params.toList args.toList ds p):Calls Tryz.prog 4 args W λe W'=>e=.returned (.bool true)/\Below W.heap.size W W':=by
 rw[Tryz.params4]at hA Hh;obtain⟨v0,T',d0,ds0,p0,q0,e0,rfl,rfl,h0,No⟩:=trodAll_cons hA;obtain⟨rfl,rfl,rfl⟩:=trodAll_nil No
 obtain rfl:args=#[v0]:=by
  apply Array.toList_inj.1;rw[e0]
 obtain⟨x0,g0,a0⟩:=Si (Hh 0 9 v0 rfl rfl) h0
 refine Tr (ac4 PQ (λ_ h=>h.2) (λ_ h=>h.1) x0) hG rfl λi h h'=>?_
 match i,h with
 |0,_=>exact .data _ _ a0
def w1(os:Os):((World.laidAll Tryz.prog os row.laid).forCall (λ_ _=>0) ⟨#[],#[.string ⟨#[]⟩],[]⟩).Shaped Tryz.checked.prog:=
 World.shaped_of_ZipB zk zk
def lifted (os:Os) (started:os.Started) (H:Type) (enc:TypeId×Value→H) :
  ReturnsInHanded {} Tryz.checked os 4 .any (λw args=>(spec.pre enc Tryz.prog Tryz.f4 row.domain false w args/\laidMetH Tryz.prog row.laid w)/\sizedMet enc Tryz.prog Tryz.f4 (OpenSpec.ofChange spec) false w args)
   (spec.post enc Tryz.prog Tryz.f4 false true false false):=by
 refine KY 4 Tryz.f4 Tryz.func4 zk zk spec rfl ?_ ?_ os started _ 12 (w1 os) zk zk zk ?_ (λW base args ds p=>call W base args ds p)
 .intro ds hl;rw[show Tryz.f4.params.size=1 by kernel_rfl]at hl
  match ds,hl with
  |[d0],_=>rfl
 .rw[Tryz.params4];intro t ht
  have:t=9:=by simpa using ht
  rcases this with rfl
  all_goals exact⟨zk,agb zk⟩
 .rw[ahy _ _ _ zk];exact laidMet_laidAll _ zk zk
def Nz:Tryz.prog.funcNamed "mahlstick/mahlsticklaw09.TramReads" = some 4:=by kernel_rfl
def Pt:(row.inPlace==Tryz.prog.inPlace 4)=true:=by kernel_rfl
def Gn:(row.unfollowed==Tryz.prog.unfollowed 4)=true:=by kernel_rfl
def M0:(row.recurses==Tryz.prog.recurses 4)=true:=by kernel_rfl
def WU:(row.named==Tryz.prog.varsNamed 4)=true:=by kernel_rfl
def Xz:joinedFacts Tryz.prog 4 Tryz.f4 spec row=true:=
 Px ⟨rfl,rfl,rfl,rfl,rfl,rfl⟩ zk zk zk Pt Gn M0 WU zk zk zk zk
def Lf:Tryz.f4.isInstance Tryz.prog row.origin row.targs:=agb zk
def Pa:Tryz.f4.isWrapper Tryz.prog row.wrapper row.mainSum:=by
 unfold Func.isWrapper;rw[if_neg (by decide+kernel)];exact⟨rfl,rfl⟩
def holds:Rows.TramReadsSaid:=
 OpenClaim.holds_of_wide 4 Tryz.f4 rfl rfl rfl rfl rfl rfl rfl ⟨rfl,rfl,rfl,rfl,rfl⟩ rfl rfl rfl rfl rfl Nz Tryz.func4 Xz Lf Pa (λos started H enc _=>lifted os started H enc)
def acX:row.wfByText (OpenSpec.ofChange spec)=true:=by kernel_rfl
def WW:false=row.goesBy Tryz.prog:=by kernel_rfl
def VJ:([9].all λu=>!Tryz.prog.wantsStandIn u)=true:=by kernel_rfl
def Wn:Tryz.prog.mainIs=some (true, "82171092be9143676f45a3056eb5c6b4af787ddf9532c329b36358d498a216de".toList):=by rw [RI,aa1]
def card:Rows.TramReadsCardSaid:=
 Claim7.holds_tied_plain_at .later [] [.data,.data,.data,.data,.pinned] true (true, "82171092be9143676f45a3056eb5c6b4af787ddf9532c329b36358d498a216de") true holds (λ_ h=>by cases h) acX (λ_ h=>by cases h) tramReads_row_tie rfl ⟨rfl,rfl⟩ Wn rfl
  (λf fn hf Wa=>by
   obtain rfl:f=4:=aeE (Nz.symm.trans hf)|>.symm
   obtain rfl:fn=Tryz.f4:=(aeE (Tryz.func4.symm.trans Wa)).symm;refine⟨TD,λj t ht=>?_⟩;rw[Tryz.params4]at ht
   have hm:t∈[9]:=by
    simpa using afg ht
   exact(show Tryz.prog.wantsStandIn t=false by simpa using aeh.1 VJ t hm))
  WW
end Reads
#print axioms Reads.card
end Go.Proofs.YtajdcjkalbbogaaGreatDoor
