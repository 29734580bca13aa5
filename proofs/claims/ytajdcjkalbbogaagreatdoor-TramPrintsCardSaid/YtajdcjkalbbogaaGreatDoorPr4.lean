/-
  For all tram sheets the call of TramPrints returns true, and each argument reads behind the call as it read before. Conditions: none beyond those of the given card.
-/
import Derived.Test.YtajdcjkalbbogaaGreatDoorPr3
set_option maxRecDepth 100000
set_option maxHeartbeats 8000000
set_option linter.all false
namespace Go.Proofs.Tryz
open Go Go.AL Go.RowKit Go.Proofs Go.Proofs.Tram
attribute [local simp] eD fG qe ou eQ d_ ec dE dJ eP dF df ik ig aF aD ev aP.S aP.H bw au aX AL.start AV.cells AV.storable AV.cy bB cd dS cb HR.okB post cM dc de AV.out AV.cg cZ dZ fz gZ AV.vw cW vI int cz aN dk dP iS jN eM dV bG tB tR jl
variable{GI:World->Prop}
def fJ:az:=⟨[],0,0,0,0,cG⟩
def LJ:List UInt8:=[121,101,115]
def rD(x:az)(r:List UInt8):Except (List UInt8) az:=match aZ 32 r with
 |[_,a,b,c,d]=>cN (eJ a) λa=>cN (eJ b) λb=>cN (eJ c) λc=>cN (eJ d) λd=>.ok { x with pos:=a,reach:=b,eX:=c,dQ:=d }
 |_=>.error r
def rI(x:az)(r:List UInt8):Except (List UInt8) az:=match aZ 32 r with
 |[_,a,b,c]=>cN (eJ a) λa=>cN (eJ b) λb=>.ok { x with cells:=x.cells++[⟨a,b,c==LJ⟩] }
 |_=>.error r
def ia(x:Nat×az)(r:List UInt8):Except (List UInt8) (Nat×az):=
 if x.1=0 then cN (rD x.2 r) λy=>.ok (1,y)else cN (rI x.2 r) λy=>.ok (x.1+1,y)
def nY(t:List UInt8):Except (List UInt8) (az×List UInt8):=
 if firstT gB (aZ 10 t)<=0 then .error t
 else cN (ee ia (0,fJ) ((aZ 10 t).take (firstT gB (aZ 10 t)).toNat)) λx=>if qB t (ic x.2)then .ok (x.2,t.drop (ic x.2).length)else .error t
def Ut:Except (List UInt8) (az×List UInt8)->iJ
 |.ok x=>.ret (.dR [bm x.1,.str x.2])
 |.error e=>.panic (lr e)
def MC{x:az}{r:List UInt8}(h:(aZ 32 r).length≠5):rD x r=.error r:=by
 unfold rD;split
 .rename_i hh;rw[hh]at h;exact absurd rfl h
 .rfl
def Oo{x:az}{r:List UInt8}(h:(aZ 32 r).length≠4):rI x r=.error r:=by
 unfold rI;split
 .rename_i hh;rw[hh]at h;exact absurd rfl h
 .rfl
def YD{α:Type}{l:List α}(h:l.length=5):∃a b c d e,l=[a,b,c,d,e]:=by
 match l,h with
 |[a,b,c,d,e],_=>exact⟨a,b,c,d,e,rfl⟩
def Yl{α:Type}{l:List α}(h:l.length=4):∃a b c d,l=[a,b,c,d]:=by
 match l,h with
 |[a,b,c,d],_=>exact⟨a,b,c,d,rfl⟩
def lT{w:List UInt8}{n:Int}(h:eJ w=.ok n):nf n:=by
 unfold eJ at h;split at h
 .rename_i hw;cases h;obtain⟨_,h2,h3,_⟩:=vR.1 hw;exact zw w h3 h2
 .cases h
def tW(x:az):List AV:=[grow 67 (x.cells.map fR),.int .i64 x.pos,.int .i64 x.reach,.int .i64 x.eX,.int .i64 x.dQ,.slice .nil [],.slice .nil [],.int .i64 0,.int .i64 0,.int .i64 0,.int .i64 0,.int .i64 0,.slice .nil [],.int .i64 0,.int .i64 0]
def UT(l:List fV):aG 3 (l.map fR)=true:=iC λa=>⟨rfl,rfl⟩
structure uD(t:List UInt8)(L:List (List UInt8))(j:Nat)(x:az)(S:an)(H:ao):Prop where
 s0:S 0=.str t
 s2:S 2=.box 2 0
 e2:H 2=some (tW fJ)
 s6:S 6=.box 6 0
 e6:H 6=some (tW x)
 ja:S 21=strs L
 ky:S 22=.int .i64 (L.length:Nat)
 jt:S 23=.int .i64 (j:Nat)
structure Oe(j:Nat)(x:az):Prop where
 num:rl x
 Uk:x.cells.length<=j
 name:x.name=cG
noncomputable def qT:ah:=ah.qb c42.qb.qb.qb.qb.qb.qa.qb.qb
noncomputable def sh:ah:=ah.qb qT.qb.qb.qa
noncomputable def tS:ah:=ah.qb sh.qb
noncomputable def tY:ah:=ah.qa tS.qa.qb
noncomputable def xT:List bH:=tY.qb.qa.dl
noncomputable def Dv:List bH:=tS.qb.qb.dl
def aaf(hG:ar GI)(pD:ML GI)(t:List UInt8)(ht:t.length<=530):AC prog GI 42 [.str t] (Ut (nY t)):=by
 have DT:=lq 10 t
 have Rl:∀p∈aZ 10 t,p.length<=530:=λp hp=>by have:=kz hp;omega
 have a164:=J0 pD t 10 zo;have Ft:=acO (GI:=GI) hG (aZ 10 t) zo
 have qi:firstT gB (aZ 10 t)<=(aZ 10 t).length:=by
  unfold firstT;split
  .have:=List.findIdx_le_length (p:=gB) (xs:=aZ 10 t);omega
  .omega
 have UE: -1<=firstT gB (aZ 10 t):=by unfold firstT;split<;>omega
 refine AC.jF func42 rfl ntmps42 ahi λcc w=>?_
 refine dX hG c42.qa (λS' H'=>S' 0=.str t/\S' 2=.box 2 0/\H' 2=some (tW fJ)) ?_ ?_
 .simp[c42,ah.qa,af,ae,tW,fJ,grow]
 rintro S H ⟨s0,s2,e2⟩;refine dX hG c42.qb.qa (λS' H'=>S' 0=.str t/\S' 2=.box 2 0/\H' 2=some (tW fJ)/\S' 4=strs (aZ 10 t)) ?_ ?_
 .simp[c42,ah.qa,ah.qb,af,ae,s0,s2,e2];refine oc a164 ?_;simp[af,ae,s0,s2,e2,strs]
 clear s0 s2 e2 S H;rintro S H ⟨s0,s2,e2,s4⟩
 have MA:nY t=if firstT gB (aZ 10 t)<=0 then .error t
 else cN (ee ia (0,fJ) ((aZ 10 t).take (firstT gB (aZ 10 t)).toNat)) λx=>if qB t (ic x.2)then .ok (x.2,t.drop (ic x.2).length)else .error t:=rfl
 rw[MA]
 generalize aZ 10 t=R at*
 generalize firstT gB R=f at*
 refine dX hG c42.qb.qb.qa (λS' H'=>S' 0=.str t/\S' 2=.box 2 0/\H' 2=some (tW fJ)/\S' 4=strs R/\S' 5=.int .i64 f) ?_ ?_
 .simp[c42,ah.qa,ah.qb,af,ae,s0,s2,e2,s4,strs];refine oc Ft ?_;simp[af,ae,s0,s2,e2,s4,strs]
 clear s0 s2 e2 s4 S H;rintro S H ⟨s0,s2,e2,s4,s5⟩
 by_cases h0:f<=0
 .rw[if_pos h0]
  have aq:¬0<f:=zo
  refine SW.seq (SW.fN hG db zk (λ_ _ h=>h) (ac:=ah.qa c42.qb.qb.qb) zk ?_);unfold eW.bD;simp[c42,ah.qa,ah.qb,af,ae,s0,s5,aq];refine oc (CK hG t) ?_;simp[eN,thenS,oa,Ut,lr]
  first|exact⟨rfl,rfl⟩|exact⟨rfl,rfl,rfl⟩
 rw[if_neg h0]
 have aq:0<f:=zo
 refine dX hG c42.qb.qb.qb.qa (λS' H'=>S' 0=.str t/\S' 2=.box 2 0/\H' 2=some (tW fJ)/\S' 4=strs R/\S' 5=.int .i64 f) ?_ ?_
 .simp[c42,ah.qa,ah.qb,af,ae,s0,s5,aq];refine oc (Ly hG t) ?_;simp[af,ae,s0,s2,e2,s4,s5,strs]
 clear s0 s2 e2 s4 s5 S H;rintro S H ⟨s0,s2,e2,s4,s5⟩;refine dX hG c42.qb.qb.qb.qb.qa (λS' H'=>S' 0=.str t/\S' 2=.box 2 0/\H' 2=some (tW fJ)/\S' 4=strs R/\S' 5=.int .i64 f/\S' 6=.box 6 0/\H' 6=some (tW fJ)) ?_ ?_
 .simp[c42,ah.qa,ah.qb,af,ae,s0,s2,e2,s4,s5,strs,tW,fJ,grow]
 clear s0 s2 e2 s4 s5 S H;rintro S H ⟨s0,s2,e2,s4,s5,s6,e6⟩
 obtain⟨n,rfl⟩:∃n:Nat,f=n:=⟨f.toNat,zo⟩
 obtain⟨L,hL⟩:∃L,R.take n=L:=⟨_,rfl⟩
 have Qy:L.length=n:=by rw[<-hL,adA];omega
 have We:∀p∈L,p.length<=530:=λp hp=>Rl p (by rw[<-hL]at hp;exact adU hp)
 rw[Int.toNat_natCast,hL];show SW prog GI 94 none (.seq (.seq _ (.block 0 (.loop _))) (.seq _ (.seq _ (.seq _ .ret)))) _ _ _ _;refine SW.seq (dX hG c42.qb.qb.qb.qb.qb.qa.qa (uD t L 0 fJ) ?_ ?_)
 .have OQ:(R.map AV.str).take n=L.map AV.str:=by rw[<-ae_,hL]
  have hnR:(n:Int)<=R.length:=zo
  have aaj:n<=R.length:=zo
  simp[c42,ah.qa,ah.qb,af,ae,s0,s2,e2,s4,s5,s6,e6,strs,hnR,aaj,OQ,bound,gl];exact⟨by simp[af,ae,s0],by simp[af,ae,s2],by simp[af,ae,e2],by simp[af,ae,s6],by simp[af,ae,e6],by simp[af,ae,strs,OQ],by simp[af,ae,Qy],by simp[af,ae]⟩
 clear s0 s2 e2 s4 s5 s6 e6 S H;intro S H hI
 have bW:∀d,¬(Old.plain cc w).bx d:=λ_ h=>h
 refine SW.block (SW.loop (λo S' H'=>o=Old.plain cc w/\∃j x,j<=L.length/\ee ia (0,fJ) (L.take j)=.ok (j,x)/\Oe j x/\uD t L j x S' H') (λS' _=>match S' 23 with|.int _ j=>L.length-j.toNat|_=>0) ⟨rfl,0,fJ,ad_ _,rfl,⟨⟨λn hn=>by simp[e_,fJ]at hn;rcases hn with rfl|rfl|rfl|rfl<;>exact⟨zd,zd⟩,by simp[fJ]⟩,ad_ _,rfl⟩,hI⟩ ?_);clear hI S H;rintro o S H ⟨rfl,j,x,hj,hf,bX,hI⟩;have m23:=hI.jt;show SW prog GI 94 none (.seq _ (.seq (.cond _ _ _) (.seq (.block 1 _) _))) _ _ _ _;refine pV hG qT.qa (λd _=>bW d) (λS' H'=>S' 24=.bool (decide (j<L.length))/\uD t L j x S' H') ?_ ?_
 .obtain⟨s0,s2,e2,s6,e6,ja,ky,jt⟩:=hI;simp[c42,qT,ah.qa,ah.qb,af,ae,ky,jt];exact⟨by simp[af,ae,s0],by simp[af,ae,s2],e2,by simp[af,ae,s6],e6,by simp[af,ae,ja],by simp[af,ae,ky],by simp[af,ae,jt]⟩
 clear hI;rintro S H ⟨rG,hI⟩
 by_cases aq:j<L.length
 case neg=>
  have qC:j=L.length:=zo
  rw[qC,ado (adl _)]at hf;rw[hf];refine SW.seq (SW.cond rfl false (by show S 24=_;rw[rG];simp[aq]) (SW.exit ?_));show SW prog GI 94 none (.seq _ (.seq _ (.seq _ .ret))) _ _ _ _;have Xd:=Xf (GI:=GI) hG x bX.num (by have:=bX.Uk;omega);have BT:=bX.name;obtain⟨s0,s2,e2,s6,e6,ja,ky,jt⟩:=hI
  obtain⟨u,hu⟩:∃u,ic x=u:=⟨_,rfl⟩
  have IN:qB t u=true->u.length<=t.length:=λh=>by unfold qB at h;rw[adk,adr]at h;exact h.1
  simp only[cN,hu];rw[hu]at Xd;refine pV hG c42.qb.qb.qb.qb.qb.qb.qa (λd _=>bW d) (λS' H'=>S' 0=.str t/\S' 2=.box 2 0/\H' 2=some (tW fJ)/\S' 6=.box 6 0/\H' 6=some (tW x)/\S' 10=.str u) ?_ ?_
  .simp[c42,ah.qa,ah.qb,af,ae,s6,e6,tW];refine oc (by simpa[bm,av,ai,BT,cG,vI,ints]using Xd) ?_;simp[af,ae,s0,s2,e2,s6,e6,tW]
  clear s0 s2 e2 s6 e6 ja ky jt rG m23 S H;rintro S H ⟨s0,s2,e2,s6,e6,bJ⟩;have a167:=WN (GI:=GI) hG t u;cases hp:qB t u
  .rw[hp]at a167;refine SW.seq (SW.fN hG db zk (λd _=>bW d) (ac:=ah.qa c42.qb.qb.qb.qb.qb.qb.qb) zk ?_);unfold eW.bD;simp[c42,ah.qa,ah.qb,af,ae,s0,bJ];refine oc a167 ?_;simp[af,ae,s0];refine oc (CK hG t) ?_;simp[eN,thenS,oa,Ut,lr]
   first|exact⟨rfl,rfl⟩|exact⟨rfl,rfl,rfl⟩
  rw[hp]at a167;have IN:=IN hp;refine pV hG c42.qb.qb.qb.qb.qb.qb.qb.qa (λd _=>bW d) (λS' H'=>S' 0=.str t/\S' 2=.box 2 0/\H' 2=some (tW fJ)/\S' 6=.box 6 0/\H' 6=some (tW x)/\S' 10=.str u) ?_ ?_
  .simp[c42,ah.qa,ah.qb,af,ae,s0,bJ];refine oc a167 ?_;simp[af,ae,s0];refine oc (Ly hG t) ?_;simp[af,ae,s0,s2,e2,s6,e6,bJ]
  clear s0 s2 e2 s6 e6 bJ S H;rintro S H ⟨s0,s2,e2,s6,e6,bJ⟩;refine pV hG c42.qb.qb.qb.qb.qb.qb.qb.qb.qa (λd _=>bW d) (λS' H'=>S' 2=.box 2 0/\H' 2=some ((tW x).map AV.aJ)/\S' 3=.str (t.drop u.length)) ?_ ?_
  .simp[c42,ah.qa,ah.qb,af,ae,s0,s2,e2,s6,e6,bJ,tW,bound,IN]
  clear s0 s2 e2 s6 e6 bJ S H;rintro S H ⟨s2,e2,s3⟩;obtain⟨i31,nL,nG⟩:=iZ 31 15;obtain⟨fs,fw⟩:=uZ 31;refine SW.ret ⟨ep.plain rfl,rfl,.dR [bm x,.str (t.drop u.length)],?_,rfl⟩;show cM prog 94 [.cell 2 31,_] S H=_;simp[cM,dc,de,s2,e2,s3,nL,fw,nG,cb,ef,tW,AV.out,jl,AV.cg,AV.vw,tR,tB,bm,av,BT,cG,ai,vI,ints]
 case pos=>
  obtain⟨r,hr⟩:∃r,L[j]=r:=⟨_,rfl⟩
  have yh:r.length<=530:=by rw[<-hr];exact We _ (adi aq)
  have UG:=J0 pD r 32 zo;refine SW.seq (SW.cond rfl true (by show S 24=_;rw[rG];simp[aq]) (SW.skip ?_));clear rG;show SW prog GI 94 none (.seq (.block 1 (.seq _ (.seq _ (.seq (.seq _ (.cond _ (.seq _ (.seq _ (.exit 1))) .skip)) (.seq _ _))))) _) _ _ _ _;refine SW.seq (SW.block (pV hG sh.qa (λd _=>bW d) (λS' H'=>S' 7=.int .i64 (j:Nat)/\S' 8=.str r/\uD t L j x S' H') ?_ ?_))
  .obtain⟨s0,s2,e2,s6,e6,ja,ky,jt⟩:=hI;simp[c42,qT,sh,ah.qa,ah.qb,af,ae,ja,jt,strs,aq,hr];exact⟨by simp[af,ae,s0],by simp[af,ae,s2],e2,by simp[af,ae,s6],e6,by simp[af,ae,ja,strs],by simp[af,ae,ky],by simp[af,ae,jt]⟩
  clear hI;rintro S H ⟨s7,s8,hI⟩
  obtain⟨ws,Eb⟩:∃ws,aZ 32 r=ws:=⟨_,rfl⟩
  have Ed:∀p∈ws,p.length<1000000:=λp hp=>by have:=kz (c:=32) (l:=r) (p:=p) (by rw[Eb];exact hp);omega
  rw[Eb]at UG;refine pV hG sh.qb.qa (λd _=>bW d) (λS' H'=>S' 7=.int .i64 (j:Nat)/\S' 8=.str r/\S' 9=strs ws/\uD t L j x S' H') ?_ ?_
  .obtain⟨s0,s2,e2,s6,e6,ja,ky,jt⟩:=hI;simp[c42,qT,sh,ah.qa,ah.qb,af,ae,s8];refine oc UG ?_;simp[af,ae,s7,s8,strs];exact⟨by simp[af,ae,s0],by simp[af,ae,s2],e2,by simp[af,ae,s6],e6,by simp[af,ae,ja,strs],by simp[af,ae,ky],by simp[af,ae,jt]⟩
  clear hI s7 s8 S H;rintro S H ⟨s7,s8,s9,hI⟩;refine SW.mono (Q:=λe o S' H'=>o=Old.plain cc w/\match e with|.normal=>∃y,ia (j,x) r=.ok (j+1,y)/\Oe (j+1) y/\uD t L j y S' H'|.exit i=>i=1/\∃y,ia (j,x) r=.ok (j+1,y)/\Oe (j+1) y/\uD t L j y S' H'|.panic v=>∃er,ia (j,x) r=.error er/\v=lr er|_=>False) ?_ ?_
  .rintro e o S' H' ⟨rfl,h⟩;cases e
   case panic v=>
    obtain⟨er,he,rfl⟩:=h;have eL:=u9 aq hf (by rw[hr];exact he);rw[eL];exact⟨rfl,rfl,rfl⟩
   case ret=>exact h.elim
   case' exit id=>obtain⟨rfl,h⟩:=h
   all_goals
    obtain⟨y,hy,hk,hI⟩:=h;have uA:=Bi aq hf;rw[hr,hy]at uA;show SW prog GI 94 none _ _ _ _ _;refine SW.fN hG db zk (λd _=>bW d) (ac:=ah.qb qT.qb.qb) zk ?_;unfold eW.bD;obtain⟨s0,s2,e2,s6,e6,ja,ky,jt⟩:=hI;have pW:IntKind.i64.wrap ((j:Int)+1)=j+1:=aT zo;simp[c42,qT,sh,ah.qa,ah.qb,af,ae,jt,pW,thenS];refine⟨⟨j+1,zo,y,uA,hk,by simp[af,ae,s0],by simp[af,ae,s2],e2,by simp[af,ae,s6],e6,by simp[af,ae,ja],by simp[af,ae,ky],by simp[af,ae]⟩,?_⟩;rw[m23];show L.length-((j:Int)+1).toNat<L.length-(j:Int).toNat;omega
  show SW prog GI 94 none (.seq (.seq _ (.cond _ (.seq _ (.seq _ (.exit 1))) .skip)) (.seq _ _)) _ _ _ _;refine SW.seq (pV hG tS.qa.qa (λd _=>bW d) (λS' H'=>S' 31=.bool (decide (j=0))/\S' 8=.str r/\S' 9=strs ws/\uD t L j x S' H') ?_ ?_)
  .obtain⟨s0,s2,e2,s6,e6,ja,ky,jt⟩:=hI
   have hjz:((j:Int)==0)=decide (j=0):=by rw[ad5];simp
   simp[c42,qT,sh,tS,ah.qa,ah.qb,af,ae,s7,s8,s9,hjz,strs];exact⟨by simp[af,ae,s0],by simp[af,ae,s2],e2,by simp[af,ae,s6],e6,by simp[af,ae,ja,strs],by simp[af,ae,ky],by simp[af,ae,jt]⟩
  clear hI s7 s8 s9 S H;rintro S H ⟨jJ,s8,s9,hI⟩
  by_cases hz:j=0
  case pos=>
   have eL:ia (j,x) r=cN (rD x r) λy=>.ok (j+1,y):=by unfold ia;rw[if_pos hz,hz]
   rw[eL];refine SW.cond rfl true (by show S 31=_;rw[jJ];simp[hz]) ?_;show SW prog GI 94 none (.seq _ (.seq _ (.exit 1))) _ _ _ _
   by_cases h5:ws.length=5
   case neg=>
    rw[MC (by rw[Eb];exact h5)]
    have h5b:((ws.length:Int)==5)=false:=by simp;omega
    refine SW.seq (SW.fN hG db zk (λd _=>bW d) (ac:=ah.qa tY) zk ?_);unfold eW.bD;simp[c42,qT,sh,tS,tY,ah.qa,ah.qb,af,ae,s8,s9,strs,h5b];refine oc (CK hG r) ?_;simp[eN,thenS,cN,lr]
    try first|exact⟨rfl,rfl⟩|rfl|exact⟨rfl,rfl,rfl⟩
   obtain⟨w0,wa,wb,wc,wd,rfl⟩:=YD h5
   have hhx:rD x r=cN (eJ wa) λa=>cN (eJ wb) λb=>cN (eJ wc) λc=>cN (eJ wd) λd=>.ok { x with pos:=a,reach:=b,eX:=c,dQ:=d }:=by unfold rD;rw[Eb]
   rw[hhx];refine pV hG tY.qa (λd _=>bW d) (λS' H'=>S' 9=strs [w0,wa,wb,wc,wd]/\uD t L j x S' H') ?_ ?_
   .obtain⟨s0,s2,e2,s6,e6,ja,ky,jt⟩:=hI;simp[c42,qT,sh,tS,tY,ah.qa,ah.qb,af,ae,s8,s9,strs];refine oc (Ly hG r) ?_;simp[af,ae,s9,strs];exact⟨by simp[af,ae,s0],by simp[af,ae,s2],e2,by simp[af,ae,s6],e6,by simp[af,ae,ja,strs],by simp[af,ae,ky],by simp[af,ae,jt]⟩
   clear hI jJ s8 s9 S H;rintro S H ⟨s9,hI⟩;have n1:=FP (GI:=GI) hG wa (Ed _ ahi);have n2:=FP (GI:=GI) hG wb (Ed _ ahi);have n3:=FP (GI:=GI) hG wc (Ed _ ahi);have n4:=FP (GI:=GI) hG wd (Ed _ ahi);refine SW.seq (SW.Gx hG db [3,7,11,15] [0,1,2,4,5,6,8,9,10,12,13,14,3,16,7,11,15,17,18,19,20,21,22,23] zk zk (l:=xT) zk ((xT.take 3++(xT.drop 4).take 3++(xT.drop 8).take 3++(xT.drop 12).take 3).map (λo=>(false,o))++((true,⟨some 40,none,.call 91 [.t 39]⟩)::(false,⟨some 53,none,.fieldAddr 1 (.t 6)⟩)::(true,⟨some 44,none,.call 91 [.t 43]⟩)::(true,⟨some 48,none,.call 91 [.t 47]⟩)::(true,⟨some 52,none,.call 91 [.t 51]⟩)::(xT.drop 17).map λo=>(false,o))) zk ?_);refine lv _ (qy (K:=λS' H'=>S' 39=.str wa/\S' 43=.str wb/\S' 47=.str wc/\S' 51=.str wd/\uD t L j x S' H') ?_ _ _ _ ?_)
   case refine_2=>
    obtain⟨s0,s2,e2,s6,e6,ja,ky,jt⟩:=hI;simp[c42,qT,sh,tS,tY,xT,ah.qa,ah.qb,ah.dl,af,ae,s6,s9,strs,gl];exact⟨by simp[af,ae,s0],by simp[af,ae,s2],e2,by simp[af,ae,s6],e6,by simp[af,ae,ja,strs],by simp[af,ae,ky],by simp[af,ae,jt]⟩
   clear hI s9;rintro S2 H2 ⟨EH,s43,zS,s51,hI⟩;refine jL (by simp[af,ae,EH]) zk (by simpa[af,ae,EH]using n1) ?_
   cases e1:eJ wa with
   |error er=>exact⟨rfl,er,rfl,rfl⟩
   |ok v1=>
   simp only[t_];refine lv [⟨some 53,none,.fieldAddr 1 (.t 6)⟩] ?_;simp[af,ae,hI.s6];refine jL (by simp[af,ae,s43]) zk (by simpa[af,ae,s43]using n2) ?_
   cases e2:eJ wb with
   |error er=>exact⟨rfl,er,rfl,rfl⟩
   |ok v2=>
   simp only[t_];refine jL (by simp[af,ae,zS]) zk (by simpa[af,ae,zS]using n3) ?_
   cases e3:eJ wc with
   |error er=>exact⟨rfl,er,rfl,rfl⟩
   |ok v3=>
   simp only[t_];refine jL (by simp[af,ae,s51]) zk (by simpa[af,ae,s51]using n4) ?_
   cases e4:eJ wd with
   |error er=>exact⟨rfl,er,rfl,rfl⟩
   |ok v4=>
   simp only[t_];obtain⟨s0,s2,e2,s6,e6,ja,ky,jt⟩:=hI;refine tQ [⟨none,none,.store (.box 6) 1 (.t 53) (.t 40)⟩,⟨some 54,none,.fieldAddr 2 (.t 6)⟩,⟨none,none,.store (.box 6) 1 (.t 54) (.t 44)⟩,⟨some 55,none,.fieldAddr 3 (.t 6)⟩,⟨none,none,.store (.box 6) 1 (.t 55) (.t 48)⟩,⟨some 56,none,.fieldAddr 4 (.t 6)⟩,⟨none,none,.store (.box 6) 1 (.t 56) (.t 52)⟩] ?_;simp[af,ae,s6,e6,tW];show SW prog GI 94 none (.exit 1) _ _ _ _;refine SW.exit ⟨rfl,rfl,_,rfl,⟨⟨?_,bX.num.cells⟩,by have:=bX.Uk;show x.cells.length<=_;omega,bX.name⟩,⟨by simp[af,ae,s0],by simp[af,ae,s2],by simp[af,ae,e2],by simp[af,ae,s6],by simp[af,ae,e6,tW],by simp[af,ae,ja,strs],by simp[af,ae,ky],by simp[af,ae,jt]⟩⟩;intro n hn;simp only[e_,adT,aeq,agv]at hn;rcases hn with rfl|rfl|rfl|rfl
   .exact lT e1
   .exact lT (by assumption)
   .exact lT (by assumption)
   .exact lT (by assumption)
  case neg=>
   have eL:ia (j,x) r=cN (rI x r) λy=>.ok (j+1,y):=by unfold ia;rw[if_neg hz]
   rw[eL];refine SW.cond rfl false (by show S 31=_;rw[jJ];simp[hz]) (SW.skip ?_);show SW prog GI 94 none (.seq _ _) _ _ _ _
   by_cases h4:ws.length=4
   case neg=>
    rw[Oo (by rw[Eb];exact h4)]
    have h4b:((ws.length:Int)==4)=false:=by simp;omega
    refine SW.seq (SW.fN hG db zk (λd _=>bW d) (ac:=ah.qa tS.qb) zk ?_);unfold eW.bD;simp[c42,qT,sh,tS,tY,ah.qa,ah.qb,af,ae,s8,s9,strs,h4b];refine oc (CK hG r) ?_;simp[eN,thenS,cN,lr]
    try first|exact⟨rfl,rfl⟩|rfl|exact⟨rfl,rfl,rfl⟩
   obtain⟨w0,wa,wb,wc,rfl⟩:=Yl h4
   have hhx:rI x r=cN (eJ wa) λa=>cN (eJ wb) λb=>.ok { x with cells:=x.cells++[⟨a,b,wc==LJ⟩] }:=by unfold rI;rw[Eb]
   rw[hhx];refine pV hG tS.qb.qa (λd _=>bW d) (λS' H'=>S' 9=strs [w0,wa,wb,wc]/\uD t L j x S' H') ?_ ?_
   .obtain⟨s0,s2,e2,s6,e6,ja,ky,jt⟩:=hI;simp[c42,qT,sh,tS,tY,ah.qa,ah.qb,af,ae,s8,s9,strs];refine oc (Ly hG r) ?_;simp[af,ae,s9,strs];exact⟨by simp[af,ae,s0],by simp[af,ae,s2],e2,by simp[af,ae,s6],e6,by simp[af,ae,ja,strs],by simp[af,ae,ky],by simp[af,ae,jt]⟩
   clear hI jJ s8 s9 S H;rintro S H ⟨s9,hI⟩;have n1:=FP (GI:=GI) hG wa (Ed _ ahi);have n2:=FP (GI:=GI) hG wb (Ed _ ahi)
   obtain⟨bb,lS⟩:∃bb,(wc==LJ)=bb:=⟨_,rfl⟩
   have abw:(wc==[121,101,115])=bb:=lS;refine SW.Gx hG db [5,9] [0,1,2,3,4,6,7,8,11,12,13,14,5,9,10,15,16,17,18,19] zk zk (l:=Dv) zk ((Dv.take 5++(Dv.drop 6).take 3++(Dv.drop 11).take 4).map (λo=>(false,o))++((true,⟨some 67,none,.call 91 [.t 66]⟩)::(true,⟨some 71,none,.call 91 [.t 70]⟩)::((Dv.drop 10).take 1++Dv.drop 15).map λo=>(false,o))) zk ?_;refine lv _ (qy (K:=λS' H'=>S' 63=grow 67 (x.cells.map fR)/\S' 66=.str wa/\S' 70=.str wb/\S' 76=.bool bb/\S' 0=.str t/\S' 2=.box 2 0/\H' 2=some (tW fJ)/\S' 6=.box 6 0/\H' 6=some ((grow 67 (x.cells.map fR)).aJ::(tW x).drop 1)/\S' 21=strs L/\S' 22=.int .i64 (L.length:Nat)/\S' 23=.int .i64 (j:Nat)) ?_ _ _ _ ?_)
   case refine_2=>
    obtain⟨s0,s2,e2,s6,e6,ja,ky,jt⟩:=hI;simp[c42,qT,sh,tS,Dv,ah.qa,ah.qb,ah.dl,af,ae,s6,e6,s0,s2,e2,s9,ja,ky,jt,strs,gl,abw,tW]
   clear hI s9;rintro S2 H2 ⟨s63,nM,s70,VN,s0,s2,e2,s6,e6,ja,ky,jt⟩;refine jL (by simp[af,ae,nM]) zk (by simpa[af,ae,nM]using n1) ?_
   cases e1:eJ wa with
   |error er=>first|exact⟨rfl,er,rfl,rfl⟩|exact⟨trivial,er,rfl,rfl⟩
   |ok v1=>
   simp only[t_];refine jL (by simp[af,ae,s70]) zk (by simpa[af,ae,s70]using n2) ?_
   cases N':eJ wb with
   |error er=>first|exact⟨rfl,er,rfl,rfl⟩|exact⟨trivial,er,rfl,rfl⟩
   |ok v2=>
   simp only[t_];have fp:=lT e1;have fc:=lT N';refine tQ [⟨some 72,none,.build [.int .i64 0,.int .i64 0] [(0,1,.t 67),(1,1,.t 71)]⟩,⟨some 77,none,.build [.int .i64 0,.int .i64 0,.bool false] [(0,2,.t 72),(2,1,.t 76)]⟩,⟨some 78,none,.buildSlice 22 67 3 [.t 77]⟩,⟨some 79,none,.append 22 67 3 24 (.t 63) (.t 78)⟩,⟨some 80,none,.fieldAddr 0 (.t 6)⟩,⟨none,none,.store (.box 6) 1 (.t 80) (.t 79)⟩] ?_;have cL:aG 3 [AV.agg [.int .i64 v1,.int .i64 v2,.bool bb]]=true:=rfl;simp[bI,cL,VN];refine kR (x.cells.map fR) (fR ⟨v1,v2,bb⟩) (.own 67) (by simp[s63]) (by simp[fR]) rfl (UT x.cells) (by rw[adn];have:=bX.Uk;omega) ?_;intro S' sd cE;simp[sd,cE,s6,e6,tW];refine⟨_,rfl,⟨⟨bX.num.head,?_⟩,by have:=bX.Uk;simp;omega,bX.name⟩,by simp[af,ae,cE,s0],by simp[af,ae,cE,s2],by simp[af,ae,e2],by simp[af,ae,cE,s6],by simp[af,ae,e6,tW,fR,grow,lS],by simp[af,ae,cE,ja,strs],by simp[af,ae,cE,ky],by simp[af,ae,cE,jt]⟩;intro c hc;rcases adm.1 hc with hc|hc
   .exact bX.num.cells c hc
   .rw[adJ]at hc;subst hc;exact⟨fp,fc⟩
end Go.Proofs.Tryz
namespace Go.Proofs.Tryz
open Go Go.AL Go.RowKit Go.Proofs Go.Proofs.Tram
attribute [local simp] eD fG fB eR eQ d_ ec dE dJ eP dF df ik ig aF aD ev aP.S aP.H bw au aX AL.start AV.cells AV.storable AV.cy bB cd dS cb HR.okB post cM dc de AV.out AV.cg cZ dZ fz gZ AV.vw cW vI int cz aN dk dP iS jN eM dV bG AV.aJ AV.cI
variable{GI:World->Prop}
def DP(c:fV):Array Value:=#[.int .i64 c.lo,.int .i64 c.hi,.bool c.hid]
def Tg{α β:Type}{f:α->β}{l:List α}{x y:β}(h:l.map f=[x,y]):∃a b,l=[a,b]/\f a=x/\f b=y:=by
 have hl:l.length=2:=by simpa using congrArg List.length h
 match l,hl with
 |[a,b],_=>exact⟨a,b,rfl,by simpa using h⟩
def LI:∃ f0 f1:Field,(prog.fieldsOf 67).toList=[f0,f1]/\(f0.name == "_")=false/\f0.type=26/\f0.offset=0/\(f1.name == "_")=false/\f1.type=4/\f1.offset=2:=by
 have h:(prog.fieldsOf 67).toList.map (λf=>(f.name == "_",f.type,f.offset))=[(false,26,0),(false,4,2)]:=by kernel_rfl
 obtain⟨f0,f1,hf,h0,h1⟩:=Tg h;simp only[afO]at h0 h1;exact⟨f0,f1,hf,h0.1,h0.2.1,h0.2.2,h1.1,h1.2.1,h1.2.2⟩
def Lm{a:Act}{w:World}{o:Oper}{x1 x2:Operand}{t':TypeId}{c:fV}(ho:o.op=.binOp .neq 67 x1 x2 t')(h1:a.eval x1=.agg (DP c))(h2:a.eval x2=.agg (DP c)):(execOp a.eval o).run prog w=.ok (.value (.bool false)) w:=by
 obtain⟨f0,f1,hf,n0,t0,o0,n1,t1,o1⟩:=LI
 have u52:prog.underlying 67=some (.struct (prog.fieldsOf 67)):=zk
 have u4:prog.underlying 4=some .bool:=zk
 have k26:l_ prog 9999 26=some 2:=zk
 have p0:(part 26 (DP c) 0).run prog w=.ok (od prog 26 [c.lo,c.hi]) w:=by
  have kN:(isAgg 26).run prog w=.ok true w:=by
   obtain⟨fs,fw⟩:=uZ 26;unfold isAgg;rw[adq,adD fw w];simp
  obtain⟨i,hi,hs⟩:=iZ 26 2;obtain⟨fs,fw⟩:=uZ 26;simp only[part,adq,kN,Result.andThen_ok,adS,od,fw];simp only[sizeOf,typeInfo,adq];simp[hi,hs,DP,gm]
 have p1:(part 4 (DP c) 2).run prog w=.ok (.bool c.hid) w:=by
  have kN:(isAgg 4).run prog w=.ok false w:=by
   unfold isAgg;rw[adq,adD u4 w];simp
  simp only[part,adq,kN,Result.andThen_ok,ads,adH];simp[DP]
 have q0:=q_ (P:=prog) (w:=w) 9999 26 2 k26 [c.lo,c.hi] [c.lo,c.hi] rfl rfl;have q1:(Op.equalIn 9999 4 (.bool c.hid) (.bool c.hid)).run prog w=.ok (c.hid==c.hid) w:=run_equalIn_bool w 9998 4 _ _ u4
 have hE:(Op.equalIn 10000 67 (.agg (DP c)) (.agg (DP c))).run prog w=.ok true w:=by
  rw[run_equalIn_struct w 9999 67 _ _ u52 zk,hf]
  have e0:f0.name ≠ "_" := by simpa using n0
  have e1:f1.name ≠ "_" := by simpa using n1
  simp[Op.eqFields,e0,e1,t0,o0,t1,o1,adq,p0,p1,q0,q1]
 have hg:=run_eqGuard_agg (P:=prog) w .neq 67 x1 x2 (DP c) (DP c) zk;simp[execOp,ho,h1,h2,hg,run_neq_struct,hE,adq]
def OX{Pr:Nat->Nat->Prop}{w:World}{c:fV}{v:Value}(h:RD Pr w (fR c) v):v=.agg (DP c):=by
 unfold fR at h;cases h;rename_i vs hl h1 hr
 congr 1
 have hl:vs.size=3:=by simpa using hl.symm
 have h0:=(hr 0 ahi zo).yT rfl;have h1:=(hr 1 ahi zo).yT rfl;have h2:=(hr 2 ahi zo).yT rfl
 refine aeP (by rw[hl]<;>rfl) λi hi dv=>?_
 have:i=0\/i=1\/i=2:=zo
 rcases this with rfl|rfl|rfl
 .exact h0
 .exact h1
 .exact h2
def DF(s:az)(i:Nat)(S:an)(H:ao):Prop:=S 2=.box 2 0/\S 3=.box 3 0/\H 2=some (av s)/\H 3=some (av s)/\S 5=.int .i64 (i:Nat)
noncomputable def PQ:ah:=ah.qb c13.qb.qb.qa.qb.qb
noncomputable def Wm:List bH:=(PQ.qb.qa.qb.qa.dl).take 10
def XB(hG:ar GI)(s:az)(hs:fW s):AC prog GI 13 [bm s,bm s] (.ret (.bool true)):=by
 have acM:=Xr (GI:=GI) hG s.name hs.name;have kJ:=hs.cells
 refine AC.jF func13 rfl ntmps13 ahi λcc w=>?_
 refine dX hG c13.qa (λS H=>S 2=.box 2 0/\S 3=.box 3 0/\H 2=some (av s)/\H 3=some (av s)) ?_ ?_
 .simp[c13,ah.qa,bm,av,ai]
 rintro S H ⟨s2,s3,e2,e3⟩;refine dX hG c13.qb.qa (λS H=>S 2=.box 2 0/\S 3=.box 3 0/\H 2=some (av s)/\H 3=some (av s)) ?_ ?_
 .simp[c13,ah.qa,ah.qb,s2,s3,e2,e3,av,ai]
 clear s2 s3 e2 e3 S H;rintro S H ⟨s2,s3,e2,e3⟩;refine SW.seq (dX hG (.ops [⟨some 5,none,.mv true (.c (.int .i64 0))⟩]) (λS H=>DF s 0 S H) ?_ ?_)
 .simp[DF,s2,s3,e2,e3]
 clear s2 s3 e2 e3 S H;rintro S H hF;refine SW.block (SW.loop (λo S H=>o=Old.plain cc w/\∃k,k<=s.cells.length/\DF s k S H) (λS _=>match S 5 with|.int _ j=>s.cells.length-j.toNat|_=>0) ⟨rfl,0,zo,hF⟩ ?_);clear hF S H;rintro o S H ⟨rfl,k,hk,s2,s3,e2,e3,s5⟩
 have hdk:decide ((k:Int)<(s.cells.length:Int))=decide (k<s.cells.length):=ahi
 refine SW.seq (dX hG PQ.qa.qa (λS H=>DF s k S H/\S 45=.bool (decide (k<s.cells.length))) ?_ ?_)
 .simp[PQ,c13,ah.qa,ah.qb,DF,s2,s3,e2,e3,s5,hdk,av,ai]
 have p7:=s5;clear s2 s3 e2 e3;rintro S1 H1 ⟨⟨s2,s3,e2,e3,s5⟩,J8⟩;refine SW.cond (c':=.t 45) zk (decide (k<s.cells.length)) J8 ?_
 by_cases aq:k<s.cells.length
 case neg=>
  rw[agq aq];refine SW.exit ?_;show SW prog GI 64 none (.seq _ .ret) _ _ _ _;refine dX hG c13.qb.qb.qb.qa (λS H=>S 4=.bool true) ?_ ?_
  .simp[c13,ah.qa,ah.qb,s2,s3,e2,e3,av,ai];refine oc acM ?_;simp
  intro S H s4;refine SW.ret ⟨ep.plain rfl,rfl,_,?_,rfl⟩;show cM prog 64 [.tmp 4] S H=_;simp[cM,dc,de,s4,AV.cg,AV.out]
 rw[af2 aq];refine SW.skip ?_;refine SW.seq (SW.block (SW.mono (Q:=λx o S H=>x=.normal/\o=Old.plain cc w/\DF s k S H) ?_ ?_))
 .rintro x o S2 H2 ⟨rfl,rfl,s2,s3,e2,e3,s5⟩;have hw:IntKind.i64.wrap ((k:Int)+1)=k+1:=aT zo;refine SW.last hG db zk (ac:=ah.qb PQ.qb) zk (λ_ _ h=>h) (λS H=>DF s (k+1) S H) ?_ ?_
  .simp[PQ,c13,ah.qa,ah.qb,DF,s2,s3,e2,e3,s5,hw]
  rintro S' H' hF;refine⟨⟨rfl,k+1,zo,hF⟩,?_⟩;have:=hF.2.2.2.2;rw[p7,this];simp;omega
 refine SW.seq (SW.PG (p:=10) hG db zk zk zk (λ_ h=>h) (l:=Wm) zk zk (K:=λS H=>DF s k S H/\S 52=fR s.cells[k]/\S 57=fR s.cells[k]) ?_ ?_)
 .simp[Wm,PQ,c13,ah.qa,ah.qb,ah.dl,DF,s2,s3,e2,e3,s5,aq,fR,av,ai]
 clear s2 s3 e2 e3 s5 J8 S1 H1;rintro w0 g S H a w' m cq ho R ⟨⟨s2,s3,e2,e3,s5⟩,D8,QM⟩;show wpOpsIn _ _ _ _ _ [10] a w';have t52:=R.slot 52 zd id;rw[D8]at t52;have t57:=R.slot 57 zd id;rw[QM]at t57;refine bg rfl rfl zr (Lm (c:=s.cells[k]) rfl (OX (t52.dW rfl)) (OX (t57.dW rfl))) ?_;have R1:=R.put 58 (.bool false) (.bool false) zd (.data _ _ (.bool _)) trivial;refine⟨g,_,_,R1,?_⟩;rw[ho];refine SW.cond (c':=.t 58) zk false (by show au S 58 _ 58=_;simp[au]) (SW.skip ⟨rfl,rfl,?_⟩);simp[DF,au,s2,s3,e2,e3,s5]
end Go.Proofs.Tryz
namespace Go.Proofs.YtajdcjkalbbogaaGreatDoor
open Go Go.AL Go.ChangeShapes Go.WideShapes Go.ChangeAt Go.RowKit Go.Proofs.Tryz
def Gp:mapsRowed Tryz.prog=true:=by kernel_rfl
def Ui:(Tryz.prog.stops==[])=true:=by kernel_rfl
def HA:(Tryz.prog.stopKnobs==[])=true:=by kernel_rfl
def Hk:Tryz.prog.plainKeys=false:=by kernel_rfl
def EC:Tryz.prog.stopsHeard=true:=by kernel_rfl
def Uc:true=Tryz.prog.looks []:=by kernel_rfl
def Oy {f:FuncId} {fn:Func} {s:ChangeSpec} {c:OpenClaim}
  (h0:c.stops=[]/\c.knobs=[]/\c.plainKeys=false/\c.shortTexts=none/\c.lifted=false/\c.make=.cut)
  (h1:c.wf (OpenSpec.ofChange s)=true) (h2:fn.params.all (Tryz.prog.readableRec ·)=true) (h3:namedTie Tryz.prog c.named s.vars=true)
  (h4:(c.inPlace==Tryz.prog.inPlace f)=true) (h5:(c.unfollowed==Tryz.prog.unfollowed f)=true) (h6:(c.recurses==Tryz.prog.recurses f)=true) (h7:(c.named==Tryz.prog.varsNamed f)=true)
  (h8:((c.maps==(fn.params.toList++s.plain.varTypes Tryz.prog).any (Tryz.prog.mapsRec ·))&&(c.ifaces==(fn.params.toList++s.plain.varTypes Tryz.prog).any (Tryz.prog.ifacesRec ·))&&(c.mapsOut==Tryz.prog.mapsAmong fn.resultTypes.toList)&&
   (c.loops==(fn.params.toList++s.plain.varTypes Tryz.prog).any (Tryz.prog.loopsFrom ·))&&(c.wideKeys==(fn.params.toList++s.plain.varTypes Tryz.prog++fn.resultTypes.toList).any (Tryz.prog.wideKeysFrom ·))&&
   s.vars.all (Tryz.prog.varReadable ·)&&fn.resultTypes.all (λt=>Tryz.prog.readableRec t&&decide (t<Tryz.prog.types.size))&&(c.ifacesOut==fn.resultTypes.toList.any (Tryz.prog.ifacesRec ·))&&(c.loopsOut==fn.resultTypes.toList.any (Tryz.prog.loopsFrom ·)))=true)
  (h9:(c.kinds==(if c.domain.isEmpty then[]else fn.params.toList.map λt=>match Tryz.prog.underlying t with|some (.int k)=>some k|_=>none))=true) (pB:(c.pinned==c.pinnedBy)=true)
  (Tn:((c.veiled==(fn.params.toList++s.plain.varTypes Tryz.prog++fn.resultTypes.toList).any (Tryz.prog.veiledRec ·))&&c.veiledFits Tryz.prog fn.params.toList (fn.params.toList++s.plain.varTypes Tryz.prog++fn.resultTypes.toList))=true):
  joinedFacts Tryz.prog f fn s c=true:=by
 obtain⟨a1,a2,a3,a4,a5,a6⟩:=h0;unfold joinedFacts;simp only[adk]at h8 Tn⊢;obtain⟨⟨⟨⟨⟨⟨⟨⟨b1,b2⟩,b3⟩,b4⟩,b5⟩,b6⟩,b7⟩,b8⟩,b9⟩:=h8;refine⟨⟨⟨⟨⟨⟨⟨⟨⟨⟨⟨⟨⟨⟨⟨⟨⟨⟨⟨⟨⟨⟨⟨⟨⟨⟨⟨⟨⟨⟨⟨h1,Fm⟩,Gp⟩,h2⟩,h3⟩,?_⟩,Ui⟩,?_⟩,HA⟩,h4⟩,h5⟩,h6⟩,h7⟩,b1⟩,b2⟩,b3⟩,b4⟩,b5⟩,b6⟩,b7⟩,b8⟩,b9⟩,?_⟩,?_⟩,EC⟩,Ju⟩,?_⟩,?_⟩,h9⟩,pB⟩,Tn.1⟩,Tn.2⟩
 .rw[a1];rfl
 .rw[a2];rfl
 .rw[a3,Hk];rfl
 .rw[a4];rfl
 .rw[a5,EV];rfl
 .rw[Vu,a6];rfl
def Q4 {G:World→Prop} {f:Nat} {Vf:List AV} {W:World} {args:Array Value} (h:AC Tryz.prog G f Vf (.ret (.bool true))) (hG:G W) (hl:Vf.length=args.size) (hr:∀ i (h:i < Vf.length) (h':i < args.size),RV T0 (fun _=>none) W Vf[i] args[i]) :
  Calls Tryz.prog f args W λe W'=>e=.returned (.bool true)/\Below W.heap.size W W':=by
 refine(h W T0 args hG hl hr).mono ?_;rintro e W' ⟨hb,hi,_,c,rfl,hv,_⟩
 cases hv with
 |data _ _ h=>cases h with
  |bool b=>exact⟨rfl,hb⟩
end Go.Proofs.YtajdcjkalbbogaaGreatDoor
namespace Go.Proofs.Tryz
open Go Go.AL Go.RowKit Go.Proofs Go.Proofs.Tram
variable{GI:World->Prop}
def upT{Pr:Nat->Nat->Prop}{w:World}{e:List UInt8}{c:Value}(h:RD Pr w (lr e) c):c=.iface 133 (.agg #[.string ⟨e.toArray⟩]):=by
 unfold lr at h
 cases h with
 |iface t v c h=>
  cases h with
  |agg cs vs hl h1 hr=>
   have hs:vs.size=1:=by rw[<-hl]<;>rfl
   have h0:=hr 0 ahi zo;simp only[List.getElem_cons_zero]at h0
   have:vs=#[vs[0]]:=by
    apply aeP
    .simpa using hs
    .intro i h1 h2
     have:i=0:=by simp at h2;omega
     subst this;rfl
   rw[this];generalize vs[0]=x at h0;cases h0;rfl
section
variable{w0:World}{n:Nat}{g:Gh}{S:an}{H:ao}{a:Act}{w:World}{d i1 i4 i5:Nat}{t u e:List UInt8}{z x:List AV}{y:AV}
def QX (hG:ar GI) (cq:GI w0) (R:Rel prog w0 n bL g S H a w) (Eg:i1 < n) (Eh:S i1 = .box i1 0) (Di:H i1=some [.str t]) (tY:AC prog GI 42 [.str t] (.panic (lr e))) (v4 v5:Value) :
  Calls prog 41 #[a.tmps.getD i1 undef,v4,v5] w λen w2=>Below w.heap.size w w2/\en=.panicked [{ v:=.iface 133 (.agg #[.string ⟨e.toArray⟩]),recovered:=false }]:=by
 have gj:GI w:=hG w0 w cq (by have:=R.below;rwa [R.base]at this);obtain⟨b1,e1,eV⟩:=Ll R Eg Eh Di;refine afo func41 rfl ?_;refine(fo (m:=0)).1 ?_;refine hZ (λa=>a.tmps.size=8/\a.defers=[]/\a.tmps.getD 0 undef=.pointer (some ⟨b1,0,none⟩)) ⟨by simp[ntmps41],rfl,(cH _ _ 0 ahi).trans e1⟩ ?_;rintro aC ⟨zC,dC,t0⟩;refine adP ?_;show wpOpsIn _ _ _ _ _ [0,1,2,3,4,5,6] aC w;refine bg rfl rfl zr (jV (t:=9) (d:=.string) (b:=b1) (off:=0) rfl t0 zk rfl eV) ?_;show wpOpsIn _ _ _ _ _ [1,2,3,4,5,6] (aC.put (some 4) (.string ⟨t.toArray⟩)) w
 refine o9 rfl rfl zr (gn (k:=42) (args:=#[.string ⟨t.toArray⟩]) w rfl rfl ?_ zk) (tY w (fC g false) #[.string ⟨t.toArray⟩] gj rfl (λi h h'=>by
  match i,h with
  |0,_=>exact .data _ _ (.str t))) ?_
 .simp only[adV,ady,adR];show #[(aC.put (some 4) _).eval (.tmp 4)]=_;rw[ck _ _ _ _ zo,if_pos rfl]
 rintro en w2 ⟨iY,hi,qi,c,rfl,dh⟩;have hc:=upT dh;subst hc;exact⟨dC,iY,rfl⟩
end
end Go.Proofs.Tryz
namespace Go.Proofs.Tryz
open Go Go.AL Go.RowKit Go.Proofs Go.Proofs.Tram
attribute [local simp] eD fG fB eR eQ d_ ec dE dJ eP dF df ik ig aF aD ev aP.S aP.H bw au aX AL.start AV.cells AV.storable AV.cy bB cd dS cb HR.okB post cM dc de AV.out AV.cg cZ dZ fz gZ AV.vw cW vI int cz aN dk dP iS jN eM dV bG AV.aJ AV.cI
def bS:aI:=⟨[6,4,8],[⟨0,1,1,3⟩,⟨2,0,0,2⟩],2,4,5,8,3,[⟨[2,0,1],[],false⟩,⟨[0,2],[1],true⟩],18,2⟩
variable{GI:World->Prop}
def HV(hG:ar GI)(a b:Int):AC prog GI 114 [.int .i64 a,.int .i64 b] (.ret (b_ (a,b))):=by
 obtain⟨i33,Ti,SV⟩:=iZ 26 2;obtain⟨fs,fw⟩:=uZ 26;refine cw hG func114 ntmps114 c114 ?_;simp[c114,Ti,SV,fw,ef,b_,bI]
def aam(hG:ar GI):AC prog GI 57 [] (.ret (cC { bS with wide:=21 })):=by
 obtain⟨i36,rT,sg⟩:=iZ 29 10;obtain⟨fs,fw⟩:=uZ 29;refine cw hG func57 ntmps57 c57 ?_;simp[c57,aG];refine oc (HV hG 1 3) ?_;simp[b_,bI,aG];refine oc (HV hG 0 2) ?_;simp[b_,bI,aG];refine oc (HV hG 2 4) ?_;simp[b_,bI,aG];refine oc (HV hG 5 8) ?_;simp[b_,bI,aG,rT,sg,fw,ef,cC,ai,bS,cD,dM,ints]
end Go.Proofs.Tryz
namespace Go.Proofs.Tryz
open Go Go.AL Go.RowKit Go.Proofs Go.Proofs.Tram
attribute [local simp] eD fG fB eR eQ d_ ec dE dJ eP dF df ik ig aF aD ev aP.S aP.H bw au aX AL.start AV.cells AV.storable AV.cy bB cd dS cb HR.okB post cM dc de AV.out AV.cg cZ dZ fz gZ AV.vw cW vI int cz aN dk dP iS jN eM dV bG AV.aJ AV.cI
variable{GI:World->Prop}
def l5:az:=⟨[⟨2,3,false⟩,⟨2,2,false⟩,⟨1,2,true⟩,⟨3,4,false⟩,⟨2,5,false⟩,⟨1,1,false⟩],6,5,2,1,{ bS with wide:=21 }⟩
def CC:az:={ l5 with eX:=1 }
def ze:az:={ l5 with name:=⟨[5],[],0,0,0,0,1,[⟨[0,0,0,0],[1,3],false⟩],16,2⟩ }
def IX:vL ze=[vI [9],.int .i64 0]:=by kernel_rfl
def Iq:Hj l5=[.slice .view (aY [(1,1),(3,5)]),.int .i64 0]:=by kernel_rfl
def JJ:xY l5 [3,2,2,4,5,1]=[.int .i64 2,.int .i64 0]:=by kernel_rfl
def JE:px 0 l5=[.int .i64 1,.int .i64 0]:=by kernel_rfl
def K6:px 1 ze=[.int .i64 1,.int .i64 0]:=by kernel_rfl
def JK:th l5 1=[.int .i64 2,.int .i64 0]:=by kernel_rfl
def KX:x_ l5=[.int .i64 1,.int .i64 4,.int .i64 0]:=by kernel_rfl
def Mu:FL CC=[.int .i64 3,.int .i64 0]:=by kernel_rfl
def LK:yf l5=[.int .i64 1,.int .i64 0]:=by kernel_rfl
def Mb:xD CC=[.int .i64 4,.int .i64 2,.int .i64 0]:=by kernel_rfl
def sJ:fW l5:=⟨zd,zd,zd,zd,λw hw=>by
 simp[l5,bS]at hw;rcases hw with rfl|rfl<;>decide,λw hw=>by
 simp[l5,bS]at hw;rcases hw with rfl|rfl<;>decide⟩
def Rf:fW CC:=⟨sJ.cells,sJ.name⟩
def Sw:fW ze:=⟨zd,zd,zd,zd,λw hw=>by
 simp[ze]at hw;subst hw;decide,λw hw=>by
 simp[ze]at hw;subst hw;decide⟩
def Fh(hG:ar GI)(lo hi:Int)(hid:Bool):AC prog GI 56 [.int .i64 lo,.int .i64 hi,.bool hid] (.ret (fR ⟨lo,hi,hid⟩)):=by
 obtain⟨i52,aat,aa9⟩:=iZ 67 3;obtain⟨fs,fw⟩:=uZ 67;refine cw hG func56 ntmps56 c56 ?_;simp[c56,aat,aa9,fw,ef,fR,bI]
def yP:∃it,prog.info? 31=some it/\it.size=15:=En zk
def Te(hG:ar GI):AC prog GI 19 [] (.ret (bm l5)):=by
 obtain⟨i31,nL,nG⟩:=yP;obtain⟨fs,fw⟩:=uZ 31;refine cw hG func19 ntmps19 c19 ?_;simp[c19];refine oc (Fh hG 2 3 false) ?_;simp[fR];refine oc (Fh hG 2 2 false) ?_;simp[fR];refine oc (Fh hG 1 2 true) ?_;simp[fR];refine oc (Fh hG 3 4 false) ?_;simp[fR];refine oc (Fh hG 2 5 false) ?_;simp[fR];refine oc (Fh hG 1 1 false) ?_;simp[fR,aG];refine oc (aam hG) ?_;simp[fR,aG,bI,nL,nG,fw,ef,bm,av,cC,ai,l5]
def abc(hG:ar GI)(s:az)(p:Int):AC prog GI 68 [bm s,.int .i64 p] (.ret (bm { s with eX:=p })):=by
 obtain⟨i31,nL,nG⟩:=yP;obtain⟨fs,fw⟩:=uZ 31;refine cw hG func68 ntmps68 c68 ?_;simp[c68,bm,av,ai,nL,nG,fw,ef,bI]
def abp(hG:ar GI):AC prog GI 26 [] (.ret (bm CC)):=by
 obtain⟨i31,nL,nG⟩:=yP;obtain⟨fs,fw⟩:=uZ 31;have h:=abc hG l5 1;refine cw hG func26 ntmps26 c26 ?_;simp[c26];refine oc (Te hG) ?_;simp[bm,av,ai];refine oc h ?_;simp[nL,nG,fw,ef,bI,bm,av,ai,CC]
def ab5(hG:ar GI):AC prog GI 17 [] (.ret (bm ze)):=by
 obtain⟨i31,nL,nG⟩:=yP;obtain⟨fs,fw⟩:=uZ 31;refine cw hG func17 ntmps17 c17 ?_;simp[c17];refine oc (Te hG) ?_;simp[nL,nG,fw,ef,bI,aG,bm,av,ai,ze,cD,ints]
end Go.Proofs.Tryz
namespace Go.Proofs.Tryz
open Go Go.AL Go.RowKit Go.Proofs Go.Proofs.Tram
attribute [local simp] eD fG fB eR eQ d_ ec dE dJ eP dF df ik ig aF aD ev aP.S aP.H bw au aX AL.start AV.cells AV.storable AV.cy bB cd dS cb HR.okB post cM dc de AV.out AV.cg cZ dZ fz gZ AV.vw cW vI int cz aN dk dP iS jN eM dV bG
variable{GI:World->Prop}
def mw(s:az)(out:List Int):az:={ s with name:=Gd s.name out }
def PW{s:az}(hs:dn s=true){l:List Int}(ho:gX s.name l=true):dn (mw s l)=true:=by
 unfold dn at hs⊢;rw[adk]at hs⊢;exact⟨hs.1,LH hs.2 ho⟩
def Be(s:az)(l:List Word):List AV:=[.slice .view (s.cells.map fR),.int .i64 s.pos,.int .i64 s.reach,.int .i64 s.eX,.int .i64 s.dQ,vI s.name.aM,.slice .view (s.name.aL.map dM),.int .i64 s.name.fI,.int .i64 s.name.fH,.int .i64 s.name.ir,.int .i64 s.name.il,.int .i64 s.name.bT,grow 48 (l.map cD),.int .i64 s.name.wide,.int .i64 s.name.rows]
def ME(l:List Word):aG 3 (l.map cD)=true:=iC λa=>⟨rfl,rfl⟩
def YE(hG:ar GI)(s:az)(hl:s.name.words.length<1000)(out:List Int)(ho:out.length<1000000):AC prog GI 119 [bm s,vI out] (.ret (bm (mw s out))):=by
 obtain⟨it,nL,nG⟩:=yP;obtain⟨fs,fw⟩:=uZ 31
 have aaE:=λi:Nat=>Mm (GI:=GI) hG out ho (i:Int)
 refine cw hG func119 ntmps119 c119 ?_;refine aK (λS H=>S 1=vI out/\S 2=.box 2 0/\H 2=some (av s)/\S 4=.box 4 0/\∃z,H 4=some z/\z.length=15) (by simp[bm,av,ai,AV.aJ,AV.cI]) ?_;rintro S H ⟨s1,s2,h2,s4,z,h4,hz⟩;refine aK (λS H=>S 1=vI out/\S 2=.box 2 0/\H 2=some (av s)/\S 4=.box 4 0/\H 4=some z/\S 5=.box 5 0/\H 5=some (av s)) (by simp[s1,s2,h2,s4,h4,av,ai,AV.aJ,AV.cI]) ?_;clear s1 s2 h2 s4 h4 S H;rintro S H ⟨s1,s2,h2,s4,h4,s5,h5⟩;refine aK (λS H=>S 1=vI out/\S 2=.box 2 0/\H 2=some (av s)/\S 4=.box 4 0/\H 4=some z/\S 5=.box 5 0/\H 5=some (Be s [])) (by simp[s1,s2,h2,s4,h4,s5,h5,av,ai,Be,grow,AV.aJ,AV.cI]) ?_;clear s1 s2 h2 s4 h4 s5 h5 S H;rintro S H ⟨s1,s2,h2,s4,h4,s5,h5⟩;refine aK (λS H=>S 4=.box 4 0/\H 4=some z/\S 5=.box 5 0/\H 5=some (Be s (kL out 0 s.name.words))) ?_ ?_
 .simp[s1,s2,h2,s4,h4,s5,h5,av,ai,AV.aJ,AV.cI];refine bu 15 s.name.words.length (λi S H=>S 1=vI out/\S 13=.slice .view (s.name.words.map cD)/\S 14=.int .i64 s.name.words.length/\S 4=.box 4 0/\H 4=some z/\S 5=.box 5 0/\H 5=some (Be s (kL out 0 (s.name.words.take i)))/\S 15=.int .i64 (i:Nat)) (λi S H h=>h.2.2.2.2.2.2.2) ⟨by simp[s1,AV.aJ,AV.cI],by simp[s1,h2,av,ai,AV.aJ,AV.cI],by simp[s1,h2,av,ai,AV.aJ,AV.cI],by simp[s4,AV.aJ,AV.cI],by simp[h4,AV.aJ,AV.cI],by simp[s5,AV.aJ,AV.cI],by simp[h5,kL,AV.aJ,AV.cI],by simp[AV.aJ,AV.cI]⟩ ?_;clear s1 s2 h2 s4 h4 s5 h5 S H;rintro i hi S H ⟨s1,dH,eg,s4,h4,s5,h5,ki⟩
  by_cases aq:i<s.name.words.length
  case neg=>
   have di:i=s.name.words.length:=zo
   subst di;rw[ado (adl _)]at h5;simp[s1,dH,eg,s4,h4,s5,h5,ki,AV.aJ,AV.cI]
  have hw:IntKind.i64.wrap ((i:Int)+1)=i+1:=aT zo;have eL:=NX out aq;have hle:=vH out (s.name.words.take i) 0
  have Pc:(kL out 0 (s.name.words.take i)).length<1000:=by rw[adA]at hle;omega
  obtain⟨wd,uS⟩:∃wd,s.name.words[i]=wd:=⟨_,rfl⟩
  have a198:=aaE i;rw[eL]
  generalize kL out 0 (s.name.words.take i)=L at*
  refine aK (λS H=>S 1=vI out/\S 13=.slice .view (s.name.words.map cD)/\S 14=.int .i64 s.name.words.length/\S 4=.box 4 0/\H 4=some z/\S 5=.box 5 0/\H 5=some (Be s L)/\S 15=.int .i64 (i:Nat)/\S 16=.bool true) (by simp[s1,dH,eg,s4,h4,s5,h5,ki,aq,AV.aJ,AV.cI]) ?_;clear s1 dH eg s4 h4 s5 h5 ki S H;rintro S H ⟨s1,dH,eg,s4,h4,s5,h5,ki,fP⟩
  cases hc:out.contains (i:Int)with
  |true=>
   rw[hc]at a198;simp[s1,dH,eg,s4,h4,s5,h5,ki,fP,aq,uS,cD,AV.aJ,AV.cI];refine oc a198 ?_;simp[s1,dH,eg,s4,h4,s5,h5,ki,fP,aq,uS,cD,hw,AV.aJ,AV.cI]
  |false=>
   rw[hc]at a198;simp[s1,dH,eg,s4,h4,s5,h5,ki,fP,aq,uS,cD,AV.aJ,AV.cI];refine oc a198 ?_;have bX:=ME L
   have hL:(L.map cD).length<1000:=by simpa using Pc
   have e1:(L++[s.name.words[i]]).map cD=L.map cD++[cD wd]:=by rw[adL,uS]<;>rfl
   have k3:aG 3 [AV.agg [.slice .view (ints wd.aU),.slice .view (ints wd.bU),.bool wd.free]]=true:=rfl;simp only[uS]at e1;simp[Be,e1];unfold Be at h5
   generalize L.map cD=M at*
   cases M with
   |nil=>
    have wg:grow 48 []=.slice .nil []:=rfl;simp[s1,dH,eg,s4,h4,s5,h5,ki,fP,aq,uS,wg,hw,k3,cD,AV.aJ,AV.cI]
    try rfl
   |cons y M=>
    have wg:grow 48 (y::M)=.slice (.own 48) (y::M):=rfl
    have Tl:∀z,grow 48 (y::(M++[z]))=.slice (.own 48) (y::(M++[z])):=λ_=>rfl
    have nq:M.length+1+1<1048576:=by simp at hL;omega
    simp[s1,dH,eg,s4,h4,s5,h5,ki,fP,aq,uS,wg,Tl,hw,k3,bX,nq,cD,AV.aJ,AV.cI]
 .clear s1 s2 h2 s4 h4 s5 h5 S H;rintro S H ⟨s4,h4,s5,h5⟩;have aaT:List.drop 15 z=[]:=aey zo;unfold Be at h5;simp[s4,h4,s5,h5,hz,aaT,nL,nG,fw,ef,tB,tR,jl];simp[bm,av,ai,mw,Gd,vI,ints]
end Go.Proofs.Tryz
namespace Go.Proofs.Tryz
open Go Go.AL Go.RowKit Go.Proofs Go.Proofs.Tram
attribute [local simp] eD fG fB eR eQ d_ ec dE dJ eP dF df ik ig aF aD ev aP.S aP.H bw au aX AL.start AV.cells AV.storable AV.cy bB cd dS cb HR.okB post cM dc de AV.out AV.cg cZ dZ fz gZ AV.vw cW vI int cz aN dk dP iS jN eM dV bG AV.aJ AV.cI
variable{GI:World->Prop}
section
variable{w0:World}{n:Nat}{g:Gh}{S:an}{H:ao}{a:Act}{w:World}{d:Nat}
def Qz{k:Nat->Option Obj}{b:Nat}(o:Option Obj)(h:k b=none):au (au k b o) b none=k:=by
 funext c
 by_cases hc:c=b
 .subst hc;simp[au,h]
 .simp[au,hc]
def yK {k:Nat} {us:Array Value} (jP:eb prog k=true) (R:Rel prog w0 n bL g S H a w) {X:an→ao→Prop}
  (hc:∀g1 w1,Rel prog w0 n bL g1 S H a w1->g1.old={ g.old with aV:=au g.old.aV w.heap.size (some (.cells #[.int .i64 0] 34)) }->Below w.heap.size w w1->w1=w.alloc (.cells #[.int .i64 0] 34)->
   Calls prog k us w1 λe w2=>e=.returned (.tuple #[])/\∃(c:Value)(g':Gh)(S':an)(H':ao),g'.old=g1.old/\Rel prog w0 n bL g' S' H' (a.put (some d) c) w2/\X S' H'):
  Calls prog 40 #[.func (.func k) #[] us] w λe w2=>e=.returned (.int .i64 0)/\∃(c:Value)(g':Gh)(S':an)(H':ao),g'.old=g.old/\Rel prog w0 n bL g' S' H' (a.put (some d) c) w2/\X S' H':=by
 have R1:=R.nx (.cells #[.int .i64 0] 34);have zl:=sL R;refine mF jP (hc _ _ R1 rfl ((aej _ _).alloc (adl _) _) rfl) ?_;rintro e w2 ⟨rfl,c,g',S',H',ho,R2,hX⟩
 have hk:g'.old.aV w.heap.size=some (.cells #[.int .i64 0] 34):=by rw[ho];exact aO _ _ _
 have kB:=(R2.kept _ _ hk).2.1;have aq:=(adj.1 kB).1;refine⟨aq,⟨_,_,kB⟩,.inl ⟨_,rfl,rfl,c,_,S',H',?_,(R2.tJ w.heap.size).jU ?_,hX⟩⟩
 .show({ g'.old with aV:=au g'.old.aV w.heap.size none }:Old)=_;rw[ho];show({ g.old with aV:=au (au g.old.aV w.heap.size (some (.cells #[.int .i64 0] 34))) w.heap.size none }:Old)=_;rw[Qz _ zl]
 .refine⟨rfl,rfl,rfl,ahi,λk cE=>?_⟩
  by_cases hb:k=w.heap.size
  .subst hb;rw[ae3 w2 _ _ _ _ _ kB,kB]
  .exact aes w2 _ k _ hb
def BE {k:Nat} {us:Array Value} (jP:eb prog k=true) (R:Rel prog w0 n bL g S H a w) {r:Int}
  (hc:∀g1 w1,Rel prog w0 n bL g1 S H a w1->Below w.heap.size w w1->w1=w.alloc (.cells #[.int .i64 0] 34)->
   Calls prog k us w1 λe w2=>Below w1.heap.size w1 w2/\((r=7/\∃n,e=.panicked [{ v:=.iface 131 (.agg #[.int .i64 n]),recovered:=false }])\/(r=4/\∃s:List UInt8,e=.panicked [{ v:=.iface 133 (.agg #[.string ⟨s.toArray⟩]),recovered:=false }]))):
  Calls prog 40 #[.func (.func k) #[] us] w λe w2=>e=.returned (.int .i64 r)/\∃g',g'.old=g.old/\Rel prog w0 n bL g' S H a w2:=by
 have R1:=R.nx (.cells #[.int .i64 0] 34);have zl:=sL R;refine mF jP (hc _ _ R1 ((aej _ _).alloc (adl _) _) rfl) ?_;rintro en w2 ⟨iY,U6⟩;have R2:=R1.jU iY;have hk:au g.old.aV w.heap.size (some (.cells #[.int .i64 0] 34)) w.heap.size=some (.cells #[.int .i64 0] 34):=aO _ _ _;have kB:=(R2.kept _ _ hk).2.1;have aq:=(adj.1 kB).1
 have fin:∀w3,Below w2.heap.size w2 w3->∃g',g'.old=g.old/\Rel prog w0 n bL g' S H a (w3.setRow w.heap.size #[.int .i64 r]):=λw3 oq=>by
  have R3:=R2.jU oq;have C3:=(R3.kept _ _ hk).2.1;have R4:=R3.nO hk (.cells #[.int .i64 r] 34);rw[nK w3 C3];refine⟨_,?_,R4.tJ w.heap.size⟩;show({ g.old with aV:=au (au (au g.old.aV w.heap.size (some (.cells #[.int .i64 0] 34))) w.heap.size (some (.cells #[.int .i64 r] 34))) w.heap.size none }:Old)=_
  have:au (au (au g.old.aV w.heap.size (some (.cells #[.int .i64 0] 34))) w.heap.size (some (.cells #[.int .i64 r] 34))) w.heap.size none=g.old.aV:=by
   funext c
   by_cases hc:c=w.heap.size
   .subst hc;simp[au,zl]
   .simp[au,hc]
  rw[this]
 rcases U6 with⟨rfl,k,rfl⟩|⟨rfl,k,rfl⟩
 .exact⟨aq,⟨_,_,kB⟩,.inr (.inl ⟨k,rfl,λw3 oq=>⟨rfl,fin w3 oq⟩⟩)⟩
 .exact⟨aq,⟨_,_,kB⟩,.inr (.inr ⟨k,rfl,λw3 oq=>⟨rfl,fin w3 oq⟩⟩)⟩
variable{i2 i3 i5:Nat}{s x:az}{out ns:List Int}{b:Bool}{z:AV}
def D3(s:az):(av s).map AV.cI=av s:=by simp[av,ai,AV.cI,vI]
def sE(R:Rel prog w0 n bL g S H a w){i:Nat}{cs:List AV}(hi:i<n)(hS:S i=.box i 0)(hH:H i=some cs)(hv:cs.map AV.cI=cs):RV (fC g true) cQ w (.ref cs) (a.tmps.getD i undef):=by
 have h:=R.slot i hi id;rw[hS]at h;have:=R.gZ h true (λ_=>rfl);simp only[Go.AL.gZ,hH,List.drop_zero,hv]at this;exact this
def Mv (hG:ar GI) (cq:GI w0) (R:Rel prog w0 n bL g S H a w) (za:i2 < n) (Z5:i3 < n) (NI:i5 < n)
  (wq:S i2=.box i2 0) (xf:H i2=some (av s)) (N1:S i3=.box i3 0) (Yx:H i3=some [vI out]) (B2:S i5=.box i5 0) (Gq:H i5=some [.bool false])
  (Dq:AC prog GI 119 [bm s,vI out] (.ret (bm x))) {k:Int} (FG:AC prog GI 69 [bm x] (.panic (qS k))):
  Calls prog 118 #[a.tmps.getD i2 undef,a.tmps.getD i3 undef,a.tmps.getD i5 undef] w λe w2=>Below w.heap.size w w2/\e=.panicked [{ v:=.iface 131 (.agg #[.int .i64 k]),recovered:=false }]:=by
 have gj:GI w:=hG w0 w cq (by have:=R.below;rwa [R.base]at this)
 have hA:AC prog GI 118 [.ref (av s),.ref [vI out],.ref [.bool false]] (.panic (qS k)):=by
  refine cw hG func118 ntmps118 c118 ?_;simp[c118,av,ai];refine oc Dq ?_;simp[bm,av,ai];refine oc FG ?_;simp[eN]
 refine(hA w (fC g true) #[a.tmps.getD i2 undef,a.tmps.getD i3 undef,a.tmps.getD i5 undef] gj rfl (λi h h'=>?_)).mono ?_
 .match i,h with
  |0,_=>exact sE R za wq xf (D3 s)
  |1,_=>exact sE R Z5 N1 Yx rfl
  |2,_=>exact sE R NI B2 Gq rfl
 .rintro en w2 ⟨iY,hi,qi,c,rfl,dh⟩;have hc:=Jc dh;subst hc;exact⟨iY,rfl⟩
def Qf (hG:ar GI) (cq:GI w0) (R:Rel prog w0 n bL g S H a w) (hd:d < n) (za:i2 < n) (Z5:i3 < n) (NI:i5 < n) (QE:d≠i5)
  (wq:S i2=.box i2 0) (xf:H i2=some (av s)) (N1:S i3=.box i3 0) (Yx:H i3=some [vI out]) (B2:S i5=.box i5 0) (Gq:H i5=some [z])
  (Dq:AC prog GI 119 [bm s,vI out] (.ret (bm x))) (FG:AC prog GI 69 [bm x] (.ret (dO x ns))) (Fi:AC prog GI 67 [dO x ns] (.ret (.bool b))):
  Calls prog 118 #[a.tmps.getD i2 undef,a.tmps.getD i3 undef,a.tmps.getD i5 undef] w λe w2=>e=.returned (.tuple #[])/\∃(c:Value)(g':Gh)(S':an)(H':ao),g'.old=g.old/\Rel prog w0 n bL g' S' H' (a.put (some d) c) w2/\(∀t,t≠d->S' t=S t)/\H'=au H i5 (some [.bool b]):=by
 have gj:GI w:=hG w0 w cq (by have:=R.below;rwa [R.base]at this);have r2:=sE R za wq xf (D3 s);have r3:=sE R Z5 N1 Yx rfl;obtain⟨b5,Z7,e5⟩:=nc R NI B2;have bj:=R.size;refine afo func118 rfl ?_;refine(fo (m:=0)).1 ?_;refine hZ (λc=>c.tmps.size=8/\c.defers=[]/\c.tmps.getD 0 undef=a.tmps.getD i2 undef/\c.tmps.getD 1 undef=a.tmps.getD i3 undef/\c.tmps.getD 2 undef=a.tmps.getD i5 undef) ⟨by simp[ntmps118],rfl,cH _ _ 0 ahi,cH _ _ 1 ahi,cH _ _ 2 ahi⟩ ?_;rintro aC ⟨zC,dC,t0,t1,t2⟩
 refine lu hG (n:=8) (p:=5) (l2:=[5]) rfl zk zk (l:=(ah.dl c118).take 5) zk zd (W:=λt=>decide (3<=t)) zk gj (fC g true)
  (λt=>match t with|0=>.ref (av s)|1=>.ref [vI out]|2=>.val (.pointer (some ⟨b5,0,none⟩))|_=>.bo) zC dC ?_ (K:=λS' _=>S' 7=.bool b/\S' 2=.val (.pointer (some ⟨b5,0,none⟩))) ?_ ?_
 .intro t ht;split
  .exact⟨rfl,by rw[t0];exact r2⟩
  .exact⟨rfl,by rw[t1];exact r3⟩
  .exact⟨rfl,by rw[t2,e5];exact .data _ _ (.val _ rfl)⟩
  .exact⟨rfl,.bo _⟩
 .simp[c118,ah.dl,av,ai];refine oc Dq ?_;simp[bm,av,ai];refine oc FG ?_;simp[dO,br,av,ai];refine oc Fi ?_;simp
 .rintro g1 S1 H1 a1 w1 nn R1 ⟨q7,q2⟩ _
  have oH:Below w.heap.size w w1:=by have:=R1.below;rwa [R1.base]at this
  have u7:=R1.slot 7 zd id;rw[q7]at u7;have u7:=u7.fL;have u2:=R1.slot 2 zd id;rw[q2]at u2;have u2:=u2.jo;have R2:=(R.jU oH).put d (.bool b) (.bool b) hd (.data _ _ (.bool _)) trivial;obtain⟨i4,Zh,PD⟩:=iZ 4 1;have J5:au S d (.bool b) i5=.box i5 0:=(aQ _ _ (ad6 QE)).trans B2
  have jZ:aD (au S d (.bool b)) H (.store .any i4.size (.t i5) (.t d))=some { v:=cz,dm:=some d,hw:=some (i5,[.bool b]) }:=by
   simp[aD,ev,J5,B2,ad6 QE,Gq,HR.okB,PD,AV.cells,AV.storable,AV.cy,bB,bw,aO]
  obtain ⟨c2,w3,g3,dz,TP,Ch,R3⟩:=mZ R2 (o:={ dst:=none,op := .store 4 (.tmp i5) (.tmp d),type:=0,pos := "",after := #[],guard:=none }) (x1 := .tmp i5) (x2 := .tmp d) (y1 := .t i5) (y2 := .t d) (hr := .any) rfl rfl Zh (by simp [du,NI]) (by simp [du,hd]) (λ_ _=>id) (λ_ _=>id) jZ
  have f5:(a.put (some d) (.bool b)).eval (.tmp i5)=.pointer (some ⟨b5,0,none⟩):=by
   show(a.put (some d) (.bool b)).tmps.getD i5 undef=_;rw[i_ _ _ _ _ zo,if_neg (ad6 QE),e5]
  have fd:(a.put (some d) (.bool b)).eval (.tmp d)=.bool b:=by
   show(a.put (some d) (.bool b)).tmps.getD d undef=_;rw[i_ _ _ _ _ zo,if_pos rfl]
  have bn:∀ o:Oper,o.op = .store 4 (.tmp 2) (.tmp 7)->(execOp a1.eval o).run prog w1=(execOp (a.put (some d) (.bool b)).eval { dst:=none,op := .store 4 (.tmp i5) (.tmp d),type:=0,pos := "",after := #[],guard:=none }).run prog w1:=by
   intro o ho;have k2:a1.eval (.tmp 2)=.pointer (some ⟨b5,0,none⟩):=u2;have k7:a1.eval (.tmp 7)=.bool b:=u7;unfold execOp;simp only[ho,k2,k7,f5,fd]
  have fin:∀u:Value,(a1.put none u).defers=[]/\∃v',(results f118 (a1.put none u).tmps).run prog w3=.ok v' w3/\(v'=.tuple #[]/\∃(c:Value)(g':Gh)(S':an)(H':ao),g'.old=g.old/\Rel prog w0 n bL g' S' H' (a.put (some d) c) w3/\(∀t,t≠d->S' t=S t)/\H'=au H i5 (some [.bool b])):=λu=>
   ⟨R1.defers.trans (by rw[nn]<;>rfl),.tuple #[],by simp[results,results118],rfl,.bool b,g3,_,_,Ch,R3,λt ht=>by simp[aP.S,AL.aX,au,ht],rfl⟩
  have Lj:∀u:Value,(a1.put none u).defers=[]/\∃v',(results f118 (a1.put none u).tmps).run prog w3=.ok v' w3/\(Ending.returned v'=.returned (.tuple #[])/\∃(c:Value)(g':Gh)(S':an)(H':ao),g'.old=g.old/\Rel prog w0 n bL g' S' H' (a.put (some d) c) w3/\(∀t,t≠d->S' t=S t)/\H'=au H i5 (some [.bool b])):=λu=>by
   obtain⟨q1,v',q2,rfl,q3⟩:=fin u;exact⟨q1,_,q2,rfl,q3⟩
  rcases dz with hr|⟨hr,_⟩
  .exact bg rfl rfl zr ((bn _ rfl).trans hr) (Lj _)
  .exact eT rfl rfl zr ((bn _ rfl).trans hr) (Lj undef)
end
def mD(s:az)(out:List Int):Bool:=match j9 (mw s out).name with
 |some es=>decide (mN 0 (mw s out) (bZ (mw s out) es)=(bZ (mw s out) es).length)
 |none=>false
def Qr{s:az}(h:fW s)(out:List Int):fW (mw s out):=by
 have hl:=vH out s.name.words 0;exact⟨h.cells,⟨h.name.aM,h.name.aL,Nat.lt_of_le_of_lt hl h.name.words,λw hw=>h.name.aU w (sf hw),λw hw=>h.name.bU w (sf hw)⟩⟩
def abJ(hG:ar GI)(s:az)(hs:fW s)(hI:dn s=true)(out:List Int)(ho:gX s.name out=true):AC prog GI 73 [bm s,vI out] (.ret (.bool (mD s out))):=by
 have hI2:=PW hI ho;have hg:=gQ hI;have nH:=gQ hI2;have nv:=(gE hg.name).words;have hol:=Ma ho;have a160:=YE hG s zo out zo;have zc:fW (mw s out):=Qr hs out;unfold mD
 obtain ⟨b,e,hO,nB⟩:∃ (b:Bool) (e:Int),(match j9 (mw s out).name with
   |some es=>decide (mN 0 (mw s out) (bZ (mw s out) es)=(bZ (mw s out) es).length)
   |none=>false)=(e==0&&b)/\
   ∀(w0:World)(g:Gh)(S:an)(H:ao)(a:Act)(w:World),GI w0->Rel prog w0 14 bL g S H a w->S 2=.box 2 0->H 2=some (av s)->S 3=.box 3 0->H 3=some [vI out]->S 5=.box 5 0->H 5=some [.bool false]->
    Calls prog 40 #[.func (.func 118) #[] #[a.tmps.getD 2 undef,a.tmps.getD 3 undef,a.tmps.getD 5 undef]] w λen w2=>en=.returned (.int .i64 e)/\∃(c:Value)(g':Gh)(S':an)(H':ao),g'.old=g.old/\Rel prog w0 14 bL g' S' H' (a.put (some 8) c) w2/\S' 5=.box 5 0/\H' 5=some [.bool b]:=by
  cases gI:j9 (mw s out).name with
  |some es=>
   have hn:=lV nH (kf nH.name gI);refine⟨_,0,(agD _).symm,λw0 g S H a w cq R q2 M7 q3 XH q5 VB=>?_⟩
   refine yK (d:=8) zk R λg1 w1 R1 nn _ _=>?_
   refine(Qf hG cq R1 (d:=8) zd zd zd zd zd q2 M7 q3 XH q5 VB a160 (UA hG (mw s out) zc nH gI) (SM hG (mw s out) nH (bZ (mw s out) es) hn)).mono ?_;rintro en w2 ⟨rfl,c,g',S',H',oV,R',qN,ur⟩;exact⟨rfl,c,g',S',H',oV,R',by rw[qN 5 zd];exact q5,by rw[ur];exact aO _ _ _⟩
  |none=>
   refine⟨false,7,rfl,λw0 g S H a w cq R q2 M7 q3 XH q5 VB=>?_⟩;refine(BE zk R (r:=7) λg1 w1 R1 _ _=>?_).mono ?_
   .refine(Mv hG cq R1 zd zd zd q2 M7 q3 XH q5 VB a160 (LM hG (mw s out) zc nH gI)).mono ?_;rintro en w2 ⟨hb,rfl⟩;exact⟨hb,.inl ⟨rfl,_,rfl⟩⟩
   .rintro en w2 ⟨rfl,g',AF,R'⟩;exact⟨rfl,undef,g',au S 8 .bo,H,AF,R'.put 8 .bo undef zd (.bo _) trivial,(aQ _ _ zd).trans q5,VB⟩
 rw[hO]
 refine AC.jF func73 rfl ntmps73 ahi λcc w=>?_
 refine dX hG c73.qa (λS' H'=>S' 2=.box 2 0/\H' 2=some (av s)/\S' 3=.box 3 0/\H' 3=some [vI out]) ?_ ?_
 .simp[c73,ah.qa,bm,av,ai]
 rintro S1 H1 ⟨s2,h2,s3,h3⟩;show SW prog GI 14 none (.seq _ (.seq _ (.seq _ .ret))) _ _ _ _;refine dX hG c73.qb.qa (λS' H'=>S' 2=.box 2 0/\H' 2=some (av s)/\S' 3=.box 3 0/\H' 3=some [vI out]/\S' 5=.box 5 0/\H' 5=some [.bool false]) ?_ ?_
 .simp[c73,ah.qa,ah.qb,s2,h2,s3,h3]
 clear s2 h2 s3 h3;rintro S3 H3 ⟨s2,h2,s3,h3,s5,h5⟩
 refine SW.seq (SW.hand hG (p:=0) (lm:=[0,1]) (l2:=[2]) (kj:=[]) (oh:=[_,_]) (nk:=[_]) rfl rfl rfl rfl zk (λ_ h=>h) (n9:=[]) (np:=(c73.qb.qb.qa.dl).drop 2) rfl zk rfl zk
  (K1:=λS' H'=>S' 2=.box 2 0/\H' 2=some (av s)/\S' 3=.box 3 0/\H' 3=some [vI out]/\S' 5=.box 5 0/\H' 5=some [.bool false])
  (K2:=λo S' H'=>o=Old.plain cc w/\S' 5=.box 5 0/\H' 5=some [.bool b]/\S' 8=.int .i64 e)
  (K3:=λo S' H'=>o=Old.plain cc w/\S' 5=.box 5 0/\H' 5=some [.bool b]/\S' 6=.int .i64 e) ⟨s2,h2,s3,h3,s5,h5⟩ ?_ ?_ ?_)
 .rintro w0 g S5 H5 a w5 m cq ho R ⟨s2,h2,s3,h3,s5,h5⟩;have bj:=R.size;refine bg rfl rfl zr (mr (fn:=.func 118) (c:=#[.tmp 2,.tmp 3,.tmp 5]) rfl) ?_
  obtain⟨fv,lZ⟩:∃fv:Value,fv=.func (.func 118) #[] (#[Operand.tmp 2,.tmp 3,.tmp 5].map a.eval):=⟨_,rfl⟩
  show wpOpsIn _ _ _ _ _ [1] (a.put (some 7) (.func (.func 118) #[] (#[Operand.tmp 2,.tmp 3,.tmp 5].map a.eval))) w5;rw[<-lZ];have R1:=R.put 7 .bo fv zd (.bo _) trivial
  obtain⟨a1,nu⟩:∃a1,a.put (some 7) fv=a1:=⟨_,rfl⟩
  rw[nu]at R1⊢
  have vf:fv=.func (.func 118) #[] #[a1.tmps.getD 2 undef,a1.tmps.getD 3 undef,a1.tmps.getD 5 undef]:=by
   have e1:=ck a 7 2 fv zo;have e2:=ck a 7 3 fv zo;have e4:=ck a 7 5 fv zo;rw[if_neg zd,nu]at e1 e2 e4;have yp:a1.tmps.getD 2 undef=a.eval (.tmp 2):=e1;have N':a1.tmps.getD 3 undef=a.eval (.tmp 3):=e2;have Cj:a1.tmps.getD 5 undef=a.eval (.tmp 5):=e4;rw[yp,N',Cj,lZ];simp only[adV,ady,adR]
  have jr:a1.eval (.tmp 7)=fv:=by rw[<-nu,ck _ _ _ _ zo,if_pos rfl]
  refine gk rfl rfl zr (gn (k:=40) (args:=#[.func (.func 118) #[] #[a1.tmps.getD 2 undef,a1.tmps.getD 3 undef,a1.tmps.getD 5 undef]]) w5 rfl rfl ?_ zk) (nB w0 g _ _ a1 w5 cq R1 (by simp[au,s2]) h2 (by simp[au,s3]) h3 (by simp[au,s5]) h5) ?_
  .simp only[adV,ady,adR,jr,<-vf]
  .rintro en w6 ⟨rfl,c,g',S',H',oV,R2,B2,Gq⟩;refine⟨_,rfl,?_⟩;have R3:=R2.put 8 (.int .i64 e) (.int .i64 e) zd (.data _ _ (.int _ _)) trivial;rw[sT]at R3;exact⟨g',_,H',R3,oV.trans ho,by rw[aQ _ _ zd];exact B2,Gq,aO _ _ _⟩
 .rintro o S5 H5 ⟨rfl,s5,h5,s8⟩;refine⟨λ_ h=>h,?_⟩;simp[c73,ah.qa,ah.qb,ah.dl,s5,h5,s8]
 .rintro o S5 H5 ⟨rfl,s5,h5,s6⟩;show SW prog GI 14 none (.seq _ .ret) _ _ _ _;refine dX hG c73.qb.qb.qb.qa (λS' H'=>S' 4=.bool (e==0&&b)) ?_ ?_
  .by_cases he:e=0
   .subst he;simp[c73,ah.qa,ah.qb,s5,h5,s6]
   .have oA:(e==0)=false:=by simpa using he
    simp[c73,ah.qa,ah.qb,s5,h5,s6,oA]
  rintro S6 H6 s4;refine SW.ret ⟨ep.plain rfl,rfl,_,?_,rfl⟩;show cM prog 14 [.tmp 4] S6 H6=_;simp[cM,dc,de,s4,AV.cg,AV.out]
end Go.Proofs.Tryz
namespace Go.Proofs.Tryz
open Go Go.AL Go.RowKit Go.Proofs Go.Proofs.Tram
attribute [local simp] eD fG fB eR eQ d_ ec dE dJ eP dF df ik ig aF aD ev aP.S aP.H bw au aX AL.start AV.cells AV.storable AV.cy bB cd dS cb HR.okB post cM dc de AV.out AV.cg cZ dZ fz gZ AV.vw cW vI int cz aN dk dP iS jN eM dV bG
variable{GI:World->Prop}
def gz(t:List UInt8):aI×Int:=if 320<t.length then(cG,3)else match lx t with
 |.error _=>(cG,4)
 |.ok x=>if bl x then(x,0)else(cG,2)
def QG(t:List UInt8):HN t=.dR [cC (gz t).1,.int .i64 (gz t).2]:=by
 unfold HN gz;split
 .rfl
 .cases lx t with
  |error e=>rfl
  |ok x=>cases h:bl x<;>simp[h]
def Ya(hG:ar GI)(hT:TB GI)(pD:ML GI)(t:List UInt8):AC prog GI 43 [.str t] (.ret (.dR [cC (gz t).1,.int .i64 (gz t).2])):=by
 by_cases h:t.length<=420
 .rw[<-QG];exact YP hG hT pD t h
 .have hl:320<t.length:=zo
  have N_:(320:Int)<t.length:=zo
  obtain⟨i28,r_,sG⟩:=iZ 29 10;obtain⟨fs,fw⟩:=uZ 29;unfold gz;rw[if_pos hl];refine cw hG func43 ntmps43 c43 ?_;simp[c43,AV.aJ,AV.cI,N_,bI,r_,fw,sG,ef,cC,ai,cG,ints]
def Kq(t:List UInt8):qE (gz t).1:=by
 have h0:qE cG:=⟨by simp[cG],by simp[cG],by simp[cG],by simp[cG],by simp[cG]⟩
 unfold gz;split
 .exact h0
 .cases h:lx t with
  |error e=>exact h0
  |ok x=>
   have:=wH (t:=t) zo h;cases hs:bl x
   .simpa[hs]using h0
   .simpa[hs]using this
def jT{α β:Type}{x:Except (List UInt8) α}{f:α->Except (List UInt8) β}{b:β}(h:cN x f=.ok b):∃a,x=.ok a/\f a=.ok b:=by
 cases x with
 |error e=>cases h
 |ok a=>exact⟨a,rfl,h⟩
def Ja{x y:az}{r:List UInt8}(h:rD x r=.ok y):y.cells=x.cells/\y.name=x.name:=by
 unfold rD at h;split at h
 .obtain⟨a,_,h⟩:=jT h;obtain⟨b,_,h⟩:=jT h;obtain⟨c,_,h⟩:=jT h;obtain⟨d,_,h⟩:=jT h;cases h;exact⟨rfl,rfl⟩
 .cases h
def LN{x y:az}{r:List UInt8}(h:rI x r=.ok y):(∃c,y.cells=x.cells++[c])/\y.name=x.name:=by
 unfold rI at h;split at h
 .obtain⟨a,_,h⟩:=jT h;obtain⟨b,_,h⟩:=jT h;cases h;exact⟨⟨_,rfl⟩,rfl⟩
 .cases h
def J3{x y:Nat×az}{r:List UInt8}(h:ia x r=.ok y):y.2.cells.length<=x.2.cells.length+1/\y.2.name=x.2.name:=by
 unfold ia at h;split at h
 .obtain⟨a,ha,h⟩:=jT h;cases h;obtain⟨h1,h2⟩:=Ja ha;exact⟨by simp[h1],h2⟩
 .obtain⟨a,ha,h⟩:=jT h;cases h;obtain⟨⟨c,h1⟩,h2⟩:=LN ha;exact⟨by simp[h1],h2⟩
def Bo:∀{L:List (List UInt8)}{x y:Nat×az},ee ia x L=.ok y->y.2.cells.length<=x.2.cells.length+L.length/\y.2.name=x.2.name
 |[],x,y,h=>by cases h;exact⟨ahi,rfl⟩
 |r::L,x,y,h=>by
  obtain⟨a,ha,h⟩:=jT h;obtain⟨h1,h2⟩:=Bo h;obtain⟨h3,h4⟩:=J3 ha;exact⟨by simp;omega,h2.trans h4⟩
def wx{t u:List UInt8}{x:az}(h:nY t=.ok (x,u)):x.cells.length<=t.length+1/\x.name=cG:=by
 have MA:nY t=if firstT gB (aZ 10 t)<=0 then .error t
 else cN (ee ia (0,fJ) ((aZ 10 t).take (firstT gB (aZ 10 t)).toNat)) λx=>if qB t (ic x.2)then .ok (x.2,t.drop (ic x.2).length)else .error t:=rfl
 rw[MA]at h;split at h
 .cases h
 obtain⟨a,ha,h⟩:=jT h;split at h
 case isFalse=>cases h
 cases h;obtain⟨h1,h2⟩:=Bo ha;have hl:=lq 10 t;refine⟨?_,h2⟩
 have:((aZ 10 t).take (firstT gB (aZ 10 t)).toNat).length<=(aZ 10 t).length:=by rw[adA];omega
 simp only[fJ,List.length_nil]at h1;omega
def qw(t:List UInt8):az×Int:=if 530<t.length then(fJ,3)else match nY t with
 |.error _=>(fJ,4)
 |.ok x=>if(gz x.2).2=3\/(gz x.2).2=4 then(fJ,4)
  else if(gz x.2).2≠0\/dn { x.1 with name:=(gz x.2).1 }=false then(fJ,2)
  else({ x.1 with name:=(gz x.2).1 },0)
noncomputable def uq:ah:=ah.qb c10.qb.qb.qb
def PS(x:az):(av x).map AV.aJ=av x:=by simp[av,ai,AV.aJ,vI]
def WR(hG:ar GI)(hT:TB GI)(pD:ML GI)(t:List UInt8):AC prog GI 10 [.str t] (.ret (.dR [bm (qw t).1,.int .i64 (qw t).2])):=by
 obtain⟨i31,nL,nG⟩:=iZ 31 15;obtain⟨fs,fw⟩:=uZ 31
 by_cases hl:530<t.length
 .have N_:(530:Int)<t.length:=zo
  unfold qw;rw[if_pos hl];refine cw hG func10 ntmps10 c10 ?_;simp[c10,AV.aJ,AV.cI,N_,bI,nL,fw,nG,ef,bm,av,fJ,ai,cG,ints]
 have N_:¬(530:Int)<t.length:=zo
 have Z':qw t=match nY t with
 |.error _=>(fJ,4)
 |.ok x=>if(gz x.2).2=3\/(gz x.2).2=4 then(fJ,4)
  else if(gz x.2).2≠0\/dn { x.1 with name:=(gz x.2).1 }=false then(fJ,2)
  else({ x.1 with name:=(gz x.2).1 },0):=by unfold qw;rw[if_neg hl]
 have Kk:=aaf hG pD t zo
 obtain ⟨e,z4,y5,KF,nB⟩:∃ (e:Int) (z4:List AV) (y5:AV),((e=4∧qw t=(fJ,4))∨(e=0∧∃ x u,x.cells.length≤t.length+1∧x.name=cG∧z4=av x∧y5 = .str u∧qw t=if (gz u).2=3∨(gz u).2=4 then (fJ,4) else if (gz u).2≠0∨dn { x with name:=(gz u).1 }=false then (fJ,2) else ({ x with name:=(gz u).1 },0))) ∧
   ∀(w0:World)(g:Gh)(S:an)(H:ao)(a:Act)(w:World),GI w0->Rel prog w0 42 bL g S H a w->S 1=.box 1 0->H 1=some [.str t]->S 4=.box 4 0->H 4=some (tW fJ)->S 5=.box 5 0->H 5=some [.str []]->
    Calls prog 40 #[.func (.func 41) #[] #[a.tmps.getD 1 undef,a.tmps.getD 4 undef,a.tmps.getD 5 undef]] w λen w2=>en=.returned (.int .i64 e)/\∃(c:Value)(g':Gh)(S':an)(H':ao),g'.old=g.old/\Rel prog w0 42 bL g' S' H' (a.put (some 14) c) w2/\S' 2=S 2/\H' 2=H 2/\S' 4=.box 4 0/\H' 4=some z4/\S' 5=.box 5 0/\H' 5=some [y5]:=by
  cases hp:nY t with
  |ok p=>
   obtain⟨x,u⟩:=p;rw[hp]at Kk;refine⟨0,av x,.str u,.inr ⟨rfl,x,u,(wx hp).1,(wx hp).2,rfl,rfl,by rw[Z',hp]⟩,λw0 g S H a w cq R q1 h1 q4 h4 q5 h5=>?_⟩
   refine yK (d:=14) zk R λg1 w1 R1 nn _ _=>?_
   refine(TJ hG cq R1 (d:=14) (i1:=1) (i4:=4) (i5:=5) zd zd zd zd zd zd zd q1 h1 q4 h4 q5 h5 rfl rfl Kk).mono ?_;rintro en w2 ⟨rfl,c,g',S',H',oV,R',qN,ur⟩;refine⟨rfl,c,g',S',H',oV,R',qN 2 zd,?_,by rw[qN 4 zd];exact q4,?_,by rw[qN 5 zd];exact q5,?_⟩
   .rw[ur];simp[au]
   .rw[ur];simp[au];exact PS x
   .rw[ur];simp[au]
  |error er=>
   rw[hp]at Kk;refine⟨4,tW fJ,.str [],.inl ⟨rfl,by rw[Z',hp]⟩,λw0 g S H a w cq R q1 h1 q4 h4 q5 h5=>?_⟩;refine(BE zk R (r:=4) λg1 w1 R1 _ _=>?_).mono ?_
   .refine(QX hG cq R1 (i1:=1) zd q1 h1 Kk _ _).mono ?_;rintro en w2 ⟨hb,rfl⟩;exact⟨hb,.inr ⟨rfl,_,rfl⟩⟩
   .rintro en w2 ⟨rfl,g',AF,R'⟩;exact⟨rfl,undef,g',au S 14 .bo,H,AF,R'.put 14 .bo undef zd (.bo _) trivial,aQ _ _ zd,rfl,(aQ _ _ zd).trans q4,h4,(aQ _ _ zd).trans q5,h5⟩
 have a77:∀x:az,x.cells.length<=t.length+1->∀u,AC prog GI 32 [bm { x with name:=(gz u).1 }] (.ret (.bool (dn { x with name:=(gz u).1 }))):=λx hx u=>rk hG _ ⟨by show x.cells.length<1000000;omega,Kq u⟩
 have Ck:=λu=>Ya hG hT pD u
 clear Z' Kk
 generalize qw t=r at*
 refine AC.jF func10 rfl ntmps10 ahi λcc w=>?_
 refine dX hG c10.qa (λS' H'=>S' 1=.box 1 0/\H' 1=some [.str t]/\S' 2=.box 2 0/\H' 2=some (tW fJ)) ?_ ?_
 .simp[c10,ah.qa,AV.aJ,AV.cI,tW,fJ,grow]
 rintro S H ⟨s1,h1,s2,h2⟩;refine SW.seq (dX hG c10.qb.qa.qa (λS' H'=>S' 1=.box 1 0/\H' 1=some [.str t]/\S' 2=.box 2 0/\H' 2=some (tW fJ)/\S' 11=.bool false) ?_ ?_)
 .simp[c10,ah.qa,ah.qb,s1,h1,s2,h2,N_,AV.aJ,AV.cI]
 clear s1 h1 s2 h2 S H;rintro S H ⟨s1,h1,s2,h2,bC⟩;refine SW.cond rfl false (by show S 11=_;rw[bC]) (SW.skip ?_);clear bC;show SW prog GI 42 none (.seq _ (.seq _ (.seq (.seq _ (.seq _ (.cond _ (.seq _ .ret) .skip))) _))) _ _ _ _;refine dX hG c10.qb.qb.qa (λS' H'=>S' 1=.box 1 0/\H' 1=some [.str t]/\S' 2=.box 2 0/\H' 2=some (tW fJ)/\S' 4=.box 4 0/\H' 4=some (tW fJ)) ?_ ?_
 .simp[c10,ah.qa,ah.qb,s1,h1,s2,h2,AV.aJ,AV.cI,tW,fJ,grow]
 clear s1 h1 s2 h2 S H;rintro S H ⟨s1,h1,s2,h2,s4,h4⟩;refine dX hG c10.qb.qb.qb.qa (λS' H'=>S' 1=.box 1 0/\H' 1=some [.str t]/\S' 2=.box 2 0/\H' 2=some (tW fJ)/\S' 4=.box 4 0/\H' 4=some (tW fJ)/\S' 5=.box 5 0/\H' 5=some [.str []]) ?_ ?_
 .simp[c10,ah.qa,ah.qb,s1,h1,s2,h2,s4,h4,AV.aJ,AV.cI]
 clear s1 h1 s2 h2 s4 h4 S H;rintro S3 H3 ⟨s1,h1,s2,h2,s4,h4,s5,h5⟩
 refine SW.seq (SW.seq (SW.hand hG (p:=0) (lm:=[0,1]) (l2:=[2]) (kj:=[]) (oh:=[_,_]) (nk:=[_]) rfl rfl rfl rfl zk (λ_ h=>h) (n9:=[]) (np:=(c10.qb.qb.qb.qb.qa.qa.dl).drop 2) rfl zk rfl zk
  (K1:=λS' H'=>S' 1=.box 1 0/\H' 1=some [.str t]/\S' 2=.box 2 0/\H' 2=some (tW fJ)/\S' 4=.box 4 0/\H' 4=some (tW fJ)/\S' 5=.box 5 0/\H' 5=some [.str []])
  (K2:=λo S' H'=>o=Old.plain cc w/\S' 2=.box 2 0/\H' 2=some (tW fJ)/\S' 4=.box 4 0/\H' 4=some z4/\S' 5=.box 5 0/\H' 5=some [y5]/\S' 14=.int .i64 e)
  (K3:=λo S' H'=>o=Old.plain cc w/\S' 2=.box 2 0/\H' 2=some (tW fJ)/\S' 4=.box 4 0/\H' 4=some z4/\S' 5=.box 5 0/\H' 5=some [y5]/\S' 6=.int .i64 e) ⟨s1,h1,s2,h2,s4,h4,s5,h5⟩ ?_ ?_ ?_))
 .rintro w0 g S5 H5 a w5 m cq ho R ⟨s1,h1,s2,h2,s4,h4,s5,h5⟩;have bj:=R.size;refine bg rfl rfl zr (mr (fn:=.func 41) (c:=#[.tmp 1,.tmp 4,.tmp 5]) rfl) ?_
  obtain⟨fv,lZ⟩:∃fv:Value,fv=.func (.func 41) #[] (#[Operand.tmp 1,.tmp 4,.tmp 5].map a.eval):=⟨_,rfl⟩
  show wpOpsIn _ _ _ _ _ [1] (a.put (some 13) (.func (.func 41) #[] (#[Operand.tmp 1,.tmp 4,.tmp 5].map a.eval))) w5;rw[<-lZ];have R1:=R.put 13 .bo fv zd (.bo _) trivial
  obtain⟨a1,nu⟩:∃a1,a.put (some 13) fv=a1:=⟨_,rfl⟩
  rw[nu]at R1⊢
  have vf:fv=.func (.func 41) #[] #[a1.tmps.getD 1 undef,a1.tmps.getD 4 undef,a1.tmps.getD 5 undef]:=by
   have e1:=ck a 13 1 fv zo;have e2:=ck a 13 4 fv zo;have e4:=ck a 13 5 fv zo;rw[if_neg zd,nu]at e1 e2 e4;have yp:a1.tmps.getD 1 undef=a.eval (.tmp 1):=e1;have N':a1.tmps.getD 4 undef=a.eval (.tmp 4):=e2;have Cj:a1.tmps.getD 5 undef=a.eval (.tmp 5):=e4;rw[yp,N',Cj,lZ];simp only[adV,ady,adR]
  have jr:a1.eval (.tmp 13)=fv:=by rw[<-nu,ck _ _ _ _ zo,if_pos rfl]
  refine gk rfl rfl zr (gn (k:=40) (args:=#[.func (.func 41) #[] #[a1.tmps.getD 1 undef,a1.tmps.getD 4 undef,a1.tmps.getD 5 undef]]) w5 rfl rfl ?_ zk) (nB w0 g _ _ a1 w5 cq R1 (by simp[au,s1]) h1 (by simp[au,s4]) h4 (by simp[au,s5]) h5) ?_
  .simp only[adV,ady,adR,jr,<-vf]
  .rintro en w6 ⟨rfl,c,g',S',H',oV,R2,wq,xf,Az,EI,B2,Gq⟩;refine⟨_,rfl,?_⟩;have R3:=R2.put 14 (.int .i64 e) (.int .i64 e) zd (.data _ _ (.int _ _)) trivial;rw[sT]at R3;exact⟨g',_,H',R3,oV.trans ho,by rw[aQ _ _ zd,wq];simp[au,s2],xf.trans h2,by rw[aQ _ _ zd];exact Az,EI,by rw[aQ _ _ zd];exact B2,Gq,aO _ _ _⟩
 .rintro o S5 H5 ⟨rfl,s2,h2,s4,h4,s5,h5,eg⟩;refine⟨λ_ h=>h,?_⟩;simp[c10,ah.qa,ah.qb,ah.dl,s2,h2,s4,h4,s5,h5,eg,AV.aJ,AV.cI]
 rintro o S5 H5 ⟨rfl,s2,h2,s4,h4,s5,h5,s6⟩;clear s1 h1;show SW prog GI 42 none (.seq _ (.cond _ (.seq _ .ret) .skip)) _ _ _ _;refine dX hG c10.qb.qb.qb.qb.qa.qb.qa (λS' H'=>S' 2=.box 2 0/\H' 2=some (tW fJ)/\S' 4=.box 4 0/\H' 4=some z4/\S' 5=.box 5 0/\H' 5=some [y5]/\S' 6=.int .i64 e/\S' 16=.bool (e !=0)) ?_ ?_
 .simp[c10,ah.qa,ah.qb,s2,h2,s4,h4,s5,h5,s6,tB,tR,jl]
 clear s2 h2 s4 h4 s5 h5 s6;rintro S6 H6 ⟨s2,h2,s4,h4,s5,h5,s6,fP⟩
 rcases KF with⟨rfl,rfl⟩|⟨rfl,x,u,hxc,hxn,rfl,rfl,hr⟩
 .refine SW.cond rfl true (by show S6 16=_;rw[fP]<;>rfl) ?_;show SW prog GI 42 none (.seq _ .ret) _ _ _ _;refine dX hG uq.qa.qb.qb.qa.qa (λS' H'=>S' 2=.box 2 0/\S' 3=.int .i64 4/\H' 2=some (tW fJ)) ?_ ?_
  .simp[c10,uq,ah.qa,ah.qb,AV.aJ,AV.cI,s2,h2,s6,bI,tW,fJ,grow]
  rintro S8 H8 ⟨s2,s3,h2⟩;refine SW.ret ⟨ep.plain rfl,rfl,_,?_,rfl⟩;show cM prog 42 [.cell 2 31,.tmp 3] S8 H8=_;simp[cM,dc,de,s2,s3,h2,nL,fw,nG,cb,ef,AV.out,AV.aJ,AV.cg,AV.vw,AV.cI,bm,av,ai,tW,fJ,grow,cG,vI,ints]
 refine SW.cond rfl false (by show S6 16=_;rw[fP]<;>rfl) (SW.skip ?_);clear s6 fP
 obtain⟨y,er,hy⟩:∃y er,gz u=(y,er):=⟨_,_,rfl⟩
 have a77:=a77 x hxc u;have Ck:=Ck u;rw[hy]at hr a77 Ck;simp only at hr a77 Ck;show SW prog GI 42 none (.seq _ (.seq (.seq _ (.cond _ (.seq _ .ret) .skip)) (.seq _ (.seq (.seq _ (.cond _ (.seq _ .ret) .skip)) (.seq _ .ret))))) _ _ _ _;refine dX hG uq.qb.qa (λS' H'=>S' 2=.box 2 0/\H' 2=some (tW fJ)/\S' 4=.box 4 0/\H' 4=some (av x)/\S' 7=.box 7 0/\H' 7=some (ai y)/\S' 8=.int .i64 er) ?_ ?_
 .simp[c10,uq,ah.qa,ah.qb,AV.aJ,AV.cI,s5,h5];refine oc Ck ?_;simp[AV.aJ,AV.cI,s2,h2,s4,h4,cC,ai]
 clear s2 h2 s4 h4 s5 h5;rintro S7 H7 ⟨s2,h2,s4,h4,s7,h7,s8⟩;refine SW.seq (dX hG uq.qb.qb.qa.qa (λS' H'=>S' 2=.box 2 0/\H' 2=some (tW fJ)/\S' 4=.box 4 0/\H' 4=some (av x)/\S' 7=.box 7 0/\H' 7=some (ai y)/\S' 8=.int .i64 er/\S' 29=.bool (decide (er=3\/er=4))) ?_ ?_)
 .by_cases h3:er=3
  .simp[c10,uq,ah.qa,ah.qb,tB,tR,jl,s2,h2,s4,h4,s7,h7,s8,h3]
  .have h3b:(er==3)=false:=by simpa using h3
   have Q5:(er==4)=decide (er=4):=by rw[ad5];simp
   simp[c10,uq,ah.qa,ah.qb,tB,tR,jl,s2,h2,s4,h4,s7,h7,s8,h3,h3b,Q5]
 clear s2 h2 s4 h4 s7 h7 s8;rintro S7 H7 ⟨s2,h2,s4,h4,s7,h7,s8,Zy⟩
 by_cases Q5:er=3\/er=4
 .rw[if_pos Q5]at hr;subst hr;refine SW.cond rfl true (by show S7 29=_;rw[Zy];simp[Q5]) ?_;show SW prog GI 42 none (.seq _ .ret) _ _ _ _;refine dX hG uq.qb.qb.qa.qb.qa.qa (λS' H'=>S' 2=.box 2 0/\S' 3=.int .i64 4/\H' 2=some (tW fJ)) ?_ ?_
  .simp[c10,uq,ah.qa,ah.qb,AV.aJ,AV.cI,s2,h2,bI,tW,fJ,grow]
  clear s2 h2;rintro S8 H8 ⟨s2,s3,h2⟩;refine SW.ret ⟨ep.plain rfl,rfl,_,?_,rfl⟩;show cM prog 42 [.cell 2 31,.tmp 3] S8 H8=_;simp[cM,dc,de,s2,s3,h2,nL,fw,nG,cb,ef,AV.out,AV.aJ,AV.cg,AV.vw,AV.cI,bm,av,ai,tW,fJ,grow,cG,vI,ints]
 rw[if_neg Q5]at hr;refine SW.cond rfl false (by show S7 29=_;rw[Zy];simp[Q5]) (SW.skip ?_);clear Zy;show SW prog GI 42 none (.seq _ (.seq (.seq _ (.cond _ (.seq _ .ret) .skip)) (.seq _ .ret))) _ _ _ _;refine dX hG uq.qb.qb.qb.qa (λS' H'=>S' 2=.box 2 0/\H' 2=some (tW fJ)/\S' 4=.box 4 0/\H' 4=some (av { x with name:=y })/\S' 8=.int .i64 er) ?_ ?_
 .simp[c10,uq,ah.qa,ah.qb,AV.aJ,AV.cI,s2,h2,s4,h4,s7,h7,s8,av,ai]
 clear s2 h2 s4 h4 s7 h7 s8;rintro S7 H7 ⟨s2,h2,s4,h4,s8⟩
 obtain⟨X,hX⟩:∃X:az,{ x with name:=y }=X:=⟨_,rfl⟩
 rw[hX]at hr a77 h4;refine SW.seq (dX hG uq.qb.qb.qb.qb.qa.qa (λS' H'=>S' 2=.box 2 0/\H' 2=some (tW fJ)/\S' 4=.box 4 0/\H' 4=some (av X)/\S' 39=.bool (decide (er≠0\/dn X=false))) ?_ ?_)
 .by_cases h0:er=0
  .simp[c10,uq,ah.qa,ah.qb,AV.aJ,AV.cI,s2,h2,s4,h4,s8,h0,av,ai];refine oc a77 ?_;simp[AV.aJ,AV.cI,s2,h2,s4,h4,s8,h0,av,ai]
  .have h0b:(er !=0)=true:=by simpa using h0
   simp[c10,uq,ah.qa,ah.qb,tB,tR,jl,s2,h2,s4,h4,s8,h0,h0b]
 clear s2 h2 s4 h4 s8;rintro S7 H7 ⟨s2,h2,s4,h4,EH⟩
 by_cases wh:er≠0\/dn X=false
 .rw[if_pos wh]at hr;subst hr;refine SW.cond rfl true (by show S7 39=_;rw[EH];simpa using wh) ?_;show SW prog GI 42 none (.seq _ .ret) _ _ _ _;refine dX hG uq.qb.qb.qb.qb.qa.qb.qa.qa (λS' H'=>S' 2=.box 2 0/\S' 3=.int .i64 2/\H' 2=some (tW fJ)) ?_ ?_
  .simp[c10,uq,ah.qa,ah.qb,AV.aJ,AV.cI,s2,h2,bI,tW,fJ,grow]
  clear s2 h2;rintro S8 H8 ⟨s2,s3,h2⟩;refine SW.ret ⟨ep.plain rfl,rfl,_,?_,rfl⟩;show cM prog 42 [.cell 2 31,.tmp 3] S8 H8=_;simp[cM,dc,de,s2,s3,h2,nL,fw,nG,cb,ef,AV.out,AV.aJ,AV.cg,AV.vw,AV.cI,bm,av,ai,tW,fJ,grow,cG,vI,ints]
 rw[if_neg wh]at hr;subst hr;refine SW.cond rfl false (by show S7 39=_;rw[EH];simpa using wh) (SW.skip ?_);show SW prog GI 42 none (.seq _ .ret) _ _ _ _;refine dX hG uq.qb.qb.qb.qb.qb.qa (λS' H'=>S' 2=.box 2 0/\S' 3=.int .i64 0/\H' 2=some (av X)) ?_ ?_
 .simp[c10,uq,ah.qa,ah.qb,AV.aJ,AV.cI,s2,h2,s4,h4,tW,fJ,grow,av,ai]
 clear s2 h2 s4 h4;rintro S8 H8 ⟨s2,s3,h2⟩;refine SW.ret ⟨ep.plain rfl,rfl,_,?_,rfl⟩;show cM prog 42 [.cell 2 31,.tmp 3] S8 H8=_;simp[cM,dc,de,s2,s3,h2,nL,fw,nG,cb,ef,AV.out,AV.aJ,AV.cg,AV.vw,AV.cI,bm,av,ai,vI]
end Go.Proofs.Tryz
namespace Go.Proofs.Tryz
open Go Go.AL Go.RowKit Go.Proofs Go.Proofs.Tram
def kq(s:az)(d:Nat)(es:List Int):List (List Int):=(wL s.name d es).filter (mD s)
def te(s:az)(d:Nat)(es:List Int)(i:Nat):List (List Int):=(List.range' i (s.name.words.length-i)).flatMap λk=>if pq s.name k then kq s d (es++[(k:Int)])else[]
def Lz(s:az)(es:List Int):kq s 0 es=if mD s es then[es]else[]:=by
 unfold kq wL
 cases h:mD s es<;>simp[h]
def LV(s:az)(d:Nat)(es:List Int):kq s (d+1) es=te s d es (ql es):=by
 unfold kq te wL;rw[ahn]
 refine EJ λi _=>?_
 cases pq s.name i<;>rfl
def KN(s:az)(d:Nat)(es:List Int){i:Nat}(h:i<s.name.words.length):te s d es i=(if pq s.name i then kq s d (es++[(i:Int)])else[])++te s d es (i+1):=by
 unfold te;rw[show s.name.words.length-i=s.name.words.length-(i+1)+1 by omega,aeS,aeD]
def MN(s:az)(d:Nat)(es:List Int):te s d es s.name.words.length=[]:=by
 unfold te
 rw[agR]<;>rfl
def DJ{α β:Type}{f:α->List β}{b:Nat}(hf:∀x,(f x).length<=b):∀l:List α,(l.flatMap f).length<=b*l.length
 |[]=>ahi
 |a::l=>by
  rw[aeD,adC,List.length_cons,Nat.mul_succ];have:=DJ hf l;have:=hf a;omega
def Cr{s:aI}(h:s.words.length<=4):∀(d:Nat)(now:List Int),(wL s d now).length<=4^d
 |0,now=>by simp[wL]
 |d+1,now=>by
  unfold wL
  have h1:∀i:Nat,(if pq s i then wL s d (now++[(i:Int)])else[]).length<=4^d:=by
   intro i;split
   .exact Cr h d _
   .simp
  have h2:=DJ h1 (List.range' (ql now) (s.words.length-ql now));rw[List.length_range']at h2;rw[Nat.pow_succ];have h3:4^d*(s.words.length-ql now)<=4^d*4:=afs _ zo;omega
def Ov{s:az}(h:s.name.words.length<=4){d:Nat}(hd:d<4)(es:List Int):(kq s d es).length<=64:=by
 have h1:=agc (mD s) (wL s.name d es);have h2:=Cr h d es;have h3:4^d<=4^3:=Nat.pow_le_pow_right zd zo;unfold kq;omega
def zq(s:az):Option (List Int):=(Pq s.name).find? (mD s)
def Bv(s:az):zq s=((List.range s.name.words.length).flatMap λd=>kq s d []).head?:=by
 unfold zq Pq kq;rw[<-List.head?_filter,ahn]
def M5{α:Type}(f:Nat->List α){n m:Nat}(h:m<n)(hb:∀j,j<m->f j=[]){x:α}{l:List α}(hm:f m=x::l):((List.range n).flatMap f).head?=some x:=by
 have e:List.range n=List.range m++m::List.range' (m+1) (n-(m+1)):=by
  have h1:List.range' 0 m++List.range' (0+m) (n-(m+1)+1)=List.range' 0 (m+(n-(m+1)+1)):=agk;rw[adW,show m+(n-(m+1)+1)=n by omega]at h1;rw[ae8,ae8,<-h1,aeS]
 rw[e,aeX,agW.2 λj hj=>hb j (adQ.1 hj),List.nil_append,aeD,hm]
 rfl
def MO{α:Type}(f:Nat->List α){n:Nat}(hb:∀j,j<n->f j=[]):((List.range n).flatMap f).head?=none:=by
 rw[agW.2 λj hj=>hb j (adQ.1 hj)]
 rfl
def Ca(s:az):List AV:=match zq s with
 |some l=>[vI l,.int .i64 0]
 |none=>[vI [],.int .i64 5]
def IB(s:az):List AV:=if dn s then Ca s else[vI [],.int .i64 2]
def q'{n:Int}(h:nf n):dY n:=⟨h.1,by have:=h.2;omega⟩
def s_{n:Int}(h:nf n):eJ (aW n)=.ok n:=by
 have h3:=q' h
 have hw:wM (aW n)=true:=by
  unfold wM;rw[Bf h3,agD,adr];exact(eB h3).2.1 h.2
 unfold eJ;rw[if_pos hw,(oG h3).2.2.2]
def JV{s:az}(h:rl s):aZ 32 (j0 s)=[Eu,aW s.pos,aW s.reach,aW s.eX,aW s.dQ]:=by
 have hd:=λn hn=>gM (q' (h.head n hn))
 exact lC (bO zd (bO (hd _ (by simp[e_])) (bO (hd _ (by simp[e_])) (bO (hd _ (by simp[e_])) (bO (hd _ (by simp[e_])) lg)))))
def Li{c:fV}(h:nf c.lo/\nf c.hi):aZ 32 (eA c)=[xX,aW c.lo,aW c.hi,iP c.hid]:=
 lC (bO zd (bO (gM (q' h.1)) (bO (gM (q' h.2)) (bO (CD _) lg))))
def KV{s x:az}(h:rl s):rD x (j0 s)=.ok { x with pos:=s.pos,reach:=s.reach,eX:=s.eX,dQ:=s.dQ }:=by
 have hd:=λn hn=>s_ (h.head n hn)
 unfold rD;rw[JV h];simp only;rw[hd _ (by simp[e_]),hd s.reach (by simp[e_]),hd s.eX (by simp[e_]),hd s.dQ (by simp[e_])]
 rfl
def Jt{x:az}{c:fV}(h:nf c.lo/\nf c.hi):rI x (eA c)=.ok { x with cells:=x.cells++[c] }:=by
 unfold rI;rw[Li h];simp only;rw[s_ h.1,s_ h.2];show Except.ok ({ x with cells:=x.cells++[(⟨c.lo,c.hi,iP c.hid==LJ⟩:fV)] }:az)=_;rw[show(iP c.hid==LJ)=c.hid from CT _]
def KU{l:List fV}(h:∀c∈l,nf c.lo/\nf c.hi):∀{k:Nat}{x:az},k≠0->ee ia (k,x) (l.map eA)=.ok (k+l.length,{ x with cells:=x.cells++l }):=by
 induction l with
 |nil=>intro k x hk;simp[ee]
 |cons c l ih=>
  intro k x hk
  have e:ia (k,x) (eA c)=.ok (k+1,{ x with cells:=x.cells++[c] }):=by
   unfold ia;rw[if_neg hk,Jt (h c ahi)]
   rfl
  show cN (ia (k,x) (eA c)) (λa=>ee ia a (l.map eA))=_;rw[e];show ee ia (k+1,_) (l.map eA)=_;rw[ih (λc hc=>h c (by simp[hc])) zo];simp only[List.length_cons,ad2,List.singleton_append]
  congr 2
  omega
def H_{s:az}(h:rl s):ee ia (0,fJ) (eU s)=.ok (1+s.cells.length,{ s with name:=cG }):=by
 have e:ia (0,fJ) (j0 s)=.ok (1,{ fJ with pos:=s.pos,reach:=s.reach,eX:=s.eX,dQ:=s.dQ }):=by
  unfold ia;rw[if_pos rfl,KV h]
  rfl
 show cN (ia (0,fJ) (j0 s)) (λa=>ee ia a (s.cells.map eA))=_;rw[e];show ee ia (1,_) (s.cells.map eA)=_;rw[KU h.cells zd]
 rfl
def IE{s:az}(h:rl s):∀p∈eU s,¬(10:UInt8)∈p:=by
 have hd:=λn hn=>fy (q' (h.head n hn))
 intro p hp;rcases adT.1 hp with rfl|hp
 .exact lO zd (bO zd (bO (hd _ (by simp[e_])) (bO (hd _ (by simp[e_])) (bO (hd _ (by simp[e_])) (bO (hd _ (by simp[e_])) lg)))))
 .obtain⟨c,hc,rfl⟩:=adF.1 hp;have hn:=h.cells c hc;exact lO zd (bO zd (bO (fy (q' hn.1)) (bO (fy (q' hn.2)) (bO (by cases c.hid<;>decide) lg))))
def OF{c:Int}(h:0<=c)(h':c<1000):¬(10:UInt8)∈kK c:=by
 have d:∀n:Int,0<=n->n<10->¬(10:UInt8)∈aW n:=λn a b=>fy ⟨a,zo⟩
 intro hm;unfold kK at hm;simp only[adm]at hm;rcases hm with((hm|hm)|hm)|hm
 .revert hm;decide
 .exact d _ zo zo hm
 .exact d _ zo zo hm
 .exact d _ zo zo hm
def AJ{r:List UInt8}:∀{l:List (List UInt8)},(∀p∈l,¬(10:UInt8)∈p)->aZ 10 (dK l++r)=l++aZ 10 r
 |[],_=>rfl
 |p::l,h=>by
  have e:dK (p::l)++r=p++10::(dK l++r):=by simp[dK]
  rw[e,o8 (h p ahi),AJ λq hq=>h q (by simp[hq])]
  rfl
def J'{s:az}(h:rl s)(r:List UInt8):aZ 10 (ic s++r)=eU s++kK (ct 0 (eU s) % 223)::aZ 10 r:=by
 unfold ic;rw[qR,ad2,ad2,AJ (IE h),List.singleton_append,o8 (OF zo zo)]
def NR{s:az}(e:List UInt8)(r:List (List UInt8))(he:gB e=true):firstT gB (eU s++e::r)=((eU s).length:Nat):=by
 refine mQ ahi ?_ λj hj aq=>?_
 .rw[aep (adl _)];simpa using he
 .rw[adZ aq];have hm:(eU s)[j]∈eU s:=adi aq;generalize(eU s)[j]=p at hm
  have hb:∀{b:UInt8}{l:List UInt8},b≠101->gB (b::l)=false:=by
   intro b l hb;unfold gB qB T9;simp[List.take,hb]
  rcases adT.1 hm with rfl|hm
  .exact hb (b:=116) (l:=_) zd
  .obtain⟨c,_,rfl⟩:=adF.1 hm;exact hb (b:=99) (l:=_) zd
def E3{s:az}(h:rl s)(r:List UInt8):nY (ic s++r)=.ok ({ s with name:=cG },r):=by
 have he:gB (kK (ct 0 (eU s) % 223))=true:=FO.2 ⟨_,by unfold kK;simp only[ad2];rfl⟩;unfold nY;rw[J' h,NR _ _ he]
 have hl:0<(eU s).length:=by simp[eU]
 rw[if_neg zo,Int.toNat_natCast,afH,H_ h];have hx:ic { s with name:=cG }=ic s:=rfl;show(if qB (ic s++r) (ic { s with name:=cG })then _ else _)=_;rw[hx,if_pos (FO.2 ⟨r,rfl⟩),List.drop_left]
def NL{s:az}(hI:dn s=true):(ic s).length<=205:=by
 have hN:=su hI;have hg:=gQ hI
 have d:∀{n:Int},nf n->(aW n).length<=2:=λh=>(eB (q' h)).2.1 h.2
 have h0:(j0 s).length<=16:=by
  unfold j0;rw[oB];have e1:=d (hN.head s.pos (by simp[e_]));have e2:=d (hN.head s.reach (by simp[e_]));have e3:=d (hN.head s.eX (by simp[e_]));have e4:=d (hN.head s.dQ (by simp[e_]));simp only[e_,Eu,ady,adR,List.sum_cons,List.sum_nil,List.length_cons,List.length_nil];omega
 have h1:∀c∈s.cells,(eA c).length+1<=15:=λc hc=>by
  have hn:=hN.cells c hc;unfold eA;rw[oB];have e1:=d hn.1;have e2:=d hn.2
  have e3:(iP c.hid).length<=3:=by cases c.hid<;>decide
  simp only[lk,xX,ady,adR,List.sum_cons,List.sum_nil,List.length_cons,List.length_nil];omega
 have h2:=tF h1
 have h3:(kK (ct 0 (eU s) % 223)).length=7:=by
  have e:∀n:Int,0<=n->n<10->(aW n).length=1:=λn a b=>(eB (n:=n) ⟨a,zo⟩).2.2 b
  unfold kK;simp only[adC];rw[e _ zo zo,e _ zo zo,e _ zo zo]
  rfl
 have h4:∀l:List (List UInt8),(dK l).length=(l.map λp=>p.length+1).sum:=by
  intro l
  induction l with
  |nil=>rfl
  |cons p l ih=>
   have:dK (p::l)=p++[10]++dK l:=by simp[dK]
   rw[this];simp only[adC,ih,ady,List.sum_cons,List.length_cons,List.length_nil]
 have hc:=hg.cells.2;unfold ic;rw[qR,adC,adC,h3,h4]
 unfold eU at*
 simp only[ady,List.sum_cons,List.length_cons,List.length_nil];omega
def BN{s:az}(hI:dn s=true):(lj s).length<=525:=by
 have h1:=NL hI;have h2:=FX (qf hI);unfold lj;rw[adC];omega
def Hx{s:az}(hI:dn s=true):qw (lj s)=(s,0):=by
 have hl:=BN hI;have hn:=qf hI;have ht:=FX hn
 have hr:gz (iM s.name)=(s.name,0):=by
  unfold gz;rw[if_neg zo,HP (pk hn)];simp only[hn,adS]
 unfold qw;rw[if_neg zo];unfold lj;rw[E3 (su hI)];simp only[hr];rw[if_neg zd,if_neg (by simp[hI])]
end Go.Proofs.Tryz
namespace Go.Proofs.Tryz
open Go Go.AL Go.RowKit Go.Proofs Go.Proofs.Tram
attribute [local simp] eD fG fB eR eQ d_ ec dE dJ eP dF df ik ig aF aD ev aP.S aP.H bw au aX AL.start AV.cells AV.storable AV.cy bB cd dS cb HR.okB post cM dc de AV.out AV.cg cZ dZ fz gZ AV.vw cW vI int cz aN dk dP iS jN eM dV bG AV.aJ AV.cI
variable{GI:World->Prop}
def W6:Nat->Bool:=λt=>decide (6<=t)
def IC:Nat->Bool:=λt=>decide (35<=t)
structure Gu(bF bN:Nat)(cS cR:Value)(n many:Int)(a:Act):Prop where
 size:a.tmps.size=50
 defers:a.defers=[]
 t0:a.tmps.getD 0 undef=.int .i64 n
 t1:a.tmps.getD 1 undef=.int .i64 many
 t2:a.tmps.getD 2 undef=cS
 t3:a.tmps.getD 3 undef=.pointer (some ⟨bN,0,none⟩)
 t4:a.tmps.getD 4 undef=.pointer (some ⟨bF,0,none⟩)
 t5:a.tmps.getD 5 undef=cR
def iy(s:az)(es:List Int)(fv:Value)(n many:Int)(v8:AV):an:=λt=>match t with
 |0=>.int .i64 n
 |1=>.int .i64 many
 |2=>.ref (av s)
 |3=>.ref [.slice .view (ints es)]
 |5=>.ref [.val fv]
 |8=>v8
 |_=>.bo
section
variable{wB:World}{Mi:Nat->Nat->Prop}{bF bN:Nat}{s:az}{cS cR fv:Value}{fs:List (List Int)}{es:List Int}{w:World}{a:Act}{n many:Int}
def Gu.step{a':Act}(fr:Gu bF bN cS cR n many a)(bj:a'.tmps.size=50)(eI:a'.defers=[])(h:eE W6 a a'):Gu bF bN cS cR n many a':=
 ⟨bj,eI,(h 0 rfl).trans fr.t0,(h 1 rfl).trans fr.t1,(h 2 rfl).trans fr.t2,(h 3 rfl).trans fr.t3,(h 4 rfl).trans fr.t4,(h 5 rfl).trans fr.t5⟩
def Lv.gw (st:Lv wB Mi bF bN s cS cR fv fs es w) (fr:Gu bF bN cS cR n many a) {v8:AV} (h8:v8.aJ=v8∧RV (fun _ _=>True) cQ w v8 (a.tmps.getD 8 undef)) :
  ∀t,t<50->(iy s es fv n many v8 t).aJ=iy s es fv n many v8 t/\RV (λ_ _=>True) cQ w (iy s es fv n many v8 t) (a.tmps.getD t undef):=by
 intro t ht;unfold iy;split
 .rw[fr.t0];exact⟨rfl,.data _ _ (.int _ _)⟩
 .rw[fr.t1];exact⟨rfl,.data _ _ (.int _ _)⟩
 .rw[fr.t2];exact⟨rfl,st.s.mono (bf.same λ_ _ _ _=>trivial) λ_ _ h=>h⟩
 .rw[fr.t3];obtain⟨u,zY,xF,v,Dp,xN,f1,f2,f3,f4,n1,n2,n3,n4⟩:=st.st;refine⟨rfl,.data _ _ (.ref _ _ _ (λ_=>v) (λi hi=>?_) (λk hk=>⟨trivial,?_⟩) (λk hk=>?_))⟩
  .have:i=0:=by simpa using hi
   subst this;rfl
  .have:k=0:=by simpa using hk
   subst this;simp[World.cell?,n1]
  .have:k=0:=by simpa using hk
   subst this
   exact RD.ofRow (size:=1) (es:=ints es) (by rw[cZ];exact n2) (n3.mono (bf.same λ_ _ _ h=>h.elim)) λ_ _ _ _=>trivial
 .rw[fr.t5];exact⟨rfl,st.r.mono (bf.same λ_ _ _ _=>trivial) λ_ _ h=>h⟩
 .exact h8
 .exact⟨rfl,.bo _⟩
def Lv.dQ (st:Lv wB Mi bF bN s cS cR fv fs es w) {w':World} {es':List Int} {v v':Value} {Dp:TypeId} {UY:List Value} (hv:∃ ty,w.heap[bN]? = some (.cells #[v] ty (0,0))) (jH:l7 (fun b=>b=bN∨v.ownBlock=some b) w w')
  (hN:w'.heap[bN]?=some (.cells #[v'] Dp (0,0))) (cV:w'.ownsRow (bN+1) 3 1 v' es'.length UY) (oC:jn (λ_ _=>False) w' 1 (ints es') UY) (Pf:∀b,v'.ownBlock=some b->v.ownBlock=some b\/w.heap.size<=b):Lv wB Mi bF bN s cS cR fv fs es' w':=by
 obtain⟨u,zY,xF,v0,acT,xN,f1,f2,f3,f4,n1,n2,n3,n4⟩:=st.st;obtain⟨ty,hv⟩:=hv
 have EX:v0=v:=by
  rw[n1]at hv;simp only[adN,Obj.cells.injEq,Array.mk.injEq,ae7]at hv;exact hv.1.1
 subst EX;have lF:=(adj.1 f1).1
 have old:∀b,b<w.heap.size->b≠bN->v0.ownBlock≠some b->w'.heap[b]?=w.heap[b]?:=λb hb h1 h2=>jH.block b hb (by rintro(h|h);exact h1 h;exact h2 h)
 have Wo:∀b k,Mi b k->w'.heap[b]?=w.heap[b]?:=λb k hm=>old b (st.lt b k hm) (λe=>st.gN k (e▸hm)) λe=>(n4 b e).2.2 k hm
 have Tb:bf Mi Mi w w':=bf.of_eq λb k hm=>⟨hm,Wo b k hm⟩
 refine⟨st.below.trans (jH.below st.below.size λb hb=>?_),st.ge,λb k hm=>ad9 (st.lt b k hm) jH.size,st.gF,st.gN,⟨u,zY,xF,v',Dp,UY,(old bF lF st.ge.2.2 λe=>(n4 bF e).1 rfl).trans f1,iX f2 λb hb=>old b (f2.lt b hb).2 (f4 b hb).1 λe=>(n4 b e).2.1 hb,f3.mono (bf.of_eq λb k hm=>⟨hm,(Wo b k hm.1)⟩),f4,hN,cV,oC,λb hb=>?_⟩,st.s.mono Tb λ_ _ h=>h,st.r.mono Tb λ_ _ h=>h⟩
 .rcases hb with rfl|hb
  .exact st.ge.2.1
  .have:=(n2.lt b hb).1;have:=st.ge.2.1;omega
 .rcases Pf b hb with h|h
  .exact n4 b h
  .exact⟨λe=>zo,λe=>by have:=(f2.lt b e).2;omega,λk hm=>by have:=st.lt b k hm;omega⟩
end
def A9 {P:Program} {a:Act} {o:Oper} {cl:Call} {f x y:Operand} {k:Nat} {cap:Array Value} (w:World) (ho:o.op = .call cl) (hc:cl.callee = .value f) (ha:cl.args = #[x,y]) (hf:a.eval f = .func (.func k) #[] cap) (hk:eb P k=true) :
  (execOp a.eval o).run P w=.ok (.enter k (#[a.eval x,a.eval y]++cap)) w:=by
 unfold execOp;simp[ho,fe hc,hf,Deferred.ofValue,invoke,ha,f_ hk]
noncomputable def sN:ah:=ah.qb c72.qb.qb.qb
noncomputable def zI:ah:=ah.qb sN.qb.qa
noncomputable def Ea:ah:=ah.qa zI.qb
def Uz (hG:ar GI) {wB:World} (AA:GI wB) {bF bN:Nat} {s:az} (hs:fW s) (hI:dn s=true) {cS cR fv:Value} (lZ:fv = .func (.func 72) #[] #[cS,.pointer (some ⟨bN,0,none⟩),.pointer (some ⟨bF,0,none⟩),cR]) :
  ∀(d n:Nat)(es:List Int)(fs:List (List Int))(Mi:Nat->Nat->Prop)(w:World),ql es=n->n<=s.name.words.length->es.length+d<s.name.words.length->gX s.name es=true->(fs++kq s d es).length<=1000->Lv wB Mi bF bN s cS cR fv fs es w->
   Calls prog 72 #[.int .i64 n,.int .i64 d,cS,.pointer (some ⟨bN,0,none⟩),.pointer (some ⟨bF,0,none⟩),cR] w λe w'=>e=.returned (.tuple #[])/\∃tK,(∀b k,Mi b k->tK b k)/\Lv wB tK bF bN s cS cR fv (fs++kq s d es) es w':=by
 have nv:=(gE (gQ hI).name).words.2;intro d
 induction d with
 |zero=>?_
 |succ d ih=>?_
 all_goals intro n es fs Mi w oC hn hd ho hB st
 all_goals refine(iU (ro:=none) (m:=0)).1 (agC func72 rfl trivial ?_)
 .have gj:GI w:=hG wB w AA st.below
  have fr:Gu bF bN cS cR n ((0:Nat):Int) { tmps:=#[.int .i64 n,.int .i64 ((0:Nat):Int),cS,.pointer (some ⟨bN,0,none⟩),.pointer (some ⟨bF,0,none⟩),cR]++Array.replicate (f72.ntmps-6) undef,defers:=[] }:=
   ⟨by simp[ntmps72],rfl,cH _ _ 0 ahi,cH _ _ 1 ahi,cH _ _ 2 ahi,cH _ _ 3 ahi,cH _ _ 4 ahi,cH _ _ 5 ahi⟩
  rw[Lz]at hB⊢;refine adB (adB ?_);refine cJ hG db (n:=50) (ac:=ah.qa c72.qa) (W:=W6) zk zk zk gj (λ_ _=>True) (iy s es fv n ((0:Nat):Int) .bo) fr.size fr.defers (st.gw fr ⟨rfl,.bo _⟩) (K:=λS' _=>S' 10=.bool true) ?_ ?_
  .simp[c72,ah.qa,iy]
  rintro g S' H' a w1 hg R1 hb bn;have fr:=fr.step R1.size (by rw[R1.defers,hg]<;>rfl) bn;have st:=st.grow (by have:=R1.below;rwa [R1.base]at this);have ht:=R1.slot 10 zd (λh=>h);rw[hb]at ht;have uz:=ht.fL;clear ht bn hb hg R1 g S' H' gj;have gj:GI w1:=hG wB w1 AA st.below;show Code.wpIn _ _ _ _ _ a w1;refine aed (t:=true) uz ?_;simp only[adS];refine adB (adB ?_);have abn:=abJ hG s hs hI es ho;refine cJ hG db (n:=50) (ac:=ah.qa c72.qa.qb.qa.qa) (W:=W6) zk zk zk gj (λ_ _=>True) (iy s es fv n ((0:Nat):Int) .bo) fr.size fr.defers (st.gw fr ⟨rfl,.bo _⟩) (K:=λS' _=>S' 13=.bool (mD s es)) ?_ ?_
  .simp[c72,ah.qa,ah.qb,iy,av,ai];refine oc abn ?_;simp
  rintro g S' H' a w1 hg R1 hb bn;have fr:=fr.step R1.size (by rw[R1.defers,hg]<;>rfl) bn;have st:=st.grow (by have:=R1.below;rwa [R1.base]at this);have ht:=R1.slot 13 zd (λh=>h);rw[hb]at ht;have uz:=ht.fL;clear ht bn hb hg R1 g S' H' gj;have gj:GI w1:=hG wB w1 AA st.below;show Code.wpIn _ _ _ _ _ a w1;refine aed (t:=mD s es) uz ?_
  have Xu:es.length<1000:=zo
  have hf4:fs.length<100000:=by rw[adC]at hB;omega
  cases U6:mD s es with
  |true=>
   simp only[adS];refine IP hG st gj fr.size fr.defers fr.t3 fr.t4 Xu hf4 rfl rfl rfl rfl rfl rfl ⟨rfl,rfl,rfl⟩ ⟨rfl,rfl,rfl⟩ ⟨rfl,rfl,rfl⟩ ⟨rfl,rfl,rfl⟩ ⟨rfl,rfl,rfl⟩ ⟨rfl,rfl,rfl⟩ ⟨rfl,rfl⟩ ⟨rfl,rfl,rfl⟩ zk ?_;intro a' w' tK bj eI _ hM sx;show Code.wpIn _ _ _ _ _ a' w';exact afh ⟨eI,.tuple #[],by simp[results,results72],rfl,tK,hM,sx⟩
  |false=>
   simp only[ads,adH,ael];refine aeO ?_;show Code.wpIn _ _ _ _ _ a w1;exact afh ⟨fr.defers,.tuple #[],by simp[results,results72],rfl,Mi,λ_ _ h=>h,st⟩
 .have gj:GI w:=hG wB w AA st.below
  have fr:Gu bF bN cS cR n ((d+1:Nat):Int) { tmps:=#[.int .i64 n,.int .i64 ((d+1:Nat):Int),cS,.pointer (some ⟨bN,0,none⟩),.pointer (some ⟨bF,0,none⟩),cR]++Array.replicate (f72.ntmps-6) undef,defers:=[] }:=
   ⟨by simp[ntmps72],rfl,cH _ _ 0 ahi,cH _ _ 1 ahi,cH _ _ 2 ahi,cH _ _ 3 ahi,cH _ _ 4 ahi,cH _ _ 5 ahi⟩
  rw[LV,oC]at hB⊢
  have hd0:(((d+1:Nat):Int)==0)=false:=by rw[ad4];omega
  generalize hmn:((d+1:Nat):Int)=mn at*
  refine adB (adB ?_);refine cJ hG db (n:=50) (ac:=ah.qa c72.qa) (W:=W6) zk zk zk gj (λ_ _=>True) (iy s es fv n mn .bo) fr.size fr.defers (st.gw fr ⟨rfl,.bo _⟩) (K:=λS' _=>S' 10=.bool false) ?_ ?_
  .simp[c72,ah.qa,iy,hd0]
  rintro g S' H' a w1 hg R1 hb bn;have fr:=fr.step R1.size (by rw[R1.defers,hg]<;>rfl) bn;have st:=st.grow (by have:=R1.below;rwa [R1.base]at this);have ht:=R1.slot 10 zd (λh=>h);rw[hb]at ht;have uz:=ht.fL;clear ht bn hb hg R1 g S' H' gj;have gj:GI w1:=hG wB w1 AA st.below;show Code.wpIn _ _ _ _ _ a w1;refine aed (t:=false) uz ?_;simp only[ads,adH];refine aeO ?_;show Code.wpIn _ _ _ _ _ a w1;refine adB ?_;refine cJ hG db (n:=50) (ac:=ah.qa c72.qb) (W:=W6) zk zk zk gj (λ_ _=>True) (iy s es fv n mn .bo) fr.size fr.defers (st.gw fr ⟨rfl,.bo _⟩) (K:=λS' _=>S' 8=.int .i64 n) ?_ ?_
  .simp[c72,ah.qa,ah.qb,iy]
  rintro g S' H' a w2 hg R1 hb bn;have fr:=fr.step R1.size (by rw[R1.defers,hg]<;>rfl) bn;have st:=st.grow (by have:=R1.below;rwa [R1.base]at this);have ht:=R1.slot 8 zd (λh=>h);rw[hb]at ht;have ht8:=ht.int_eq;clear ht bn hb hg R1 g S' H' gj uz;show Code.wpIn _ _ _ _ _ a w2
  refine aeL (agX (λa w=>∃(i:Nat)(Lp:List (List Int))(tK:Nat->Nat->Prop),Gu bF bN cS cR n mn a/\a.tmps.getD 8 undef=.int .i64 (i:Nat)/\n<=i/\i<=s.name.words.length/\(∀b k,Mi b k->tK b k)/\Lv wB tK bF bN s cS cR fv Lp es w/\Lp++te s d es i=fs++te s d es n)
   (λa _=>match a.tmps.getD 8 undef with|.int _ i=>s.name.words.length-i.toNat|_=>0) ⟨n,fs,Mi,fr,ht8,adl _,hn,λ_ _ h=>h,st,rfl⟩ ?_)
  clear ht8;rintro a w3 ⟨i,Lp,tK,fr,h8,Co,di,Yw,st,fw⟩;have gj:GI w3:=hG wB w3 AA st.below
  have Tu:(AV.int .i64 (i:Int)).aJ=.int .i64 (i:Int)/\RV (λ_ _=>True) cQ w3 (.int .i64 (i:Int)) (a.tmps.getD 8 undef):=⟨rfl,by rw[h8];exact .data _ _ (.int _ _)⟩
  refine adB (adB ?_);refine cJ hG db (n:=50) (ac:=ah.qa sN.qa) (W:=W6) zk zk zk gj (λ_ _=>True) (iy s es fv n mn (.int .i64 (i:Int))) fr.size fr.defers (st.gw fr Tu) (K:=λS' _=>S' 8=.int .i64 i/\S' 25=.bool (decide (i<s.name.words.length))) ?_ ?_
  .simp[c72,sN,ah.qa,ah.qb,iy,av,ai]
  rintro g S' H' a4 w4 hg R1 ⟨q8,q25⟩ bn;have fr:=fr.step R1.size (by rw[R1.defers,hg]<;>rfl) bn;have st:=st.grow (by have:=R1.below;rwa [R1.base]at this);have ht:=R1.slot 25 zd (λh=>h);rw[q25]at ht;have Xc:=ht.fL;have hu:=R1.slot 8 zd (λh=>h);rw[q8]at hu;have Um:=hu.int_eq;clear ht hu bn q8 q25 hg R1 g S' H' gj Tu;have gj:GI w4:=hG wB w4 AA st.below;show Code.wpIn _ _ _ _ _ a4 w4;refine aed (t:=decide (i<s.name.words.length)) Xc ?_
  by_cases aq:i<s.name.words.length
  case neg=>
   simp only[aq,agp,ads,adH];refine afx ?_
   have IK:i=s.name.words.length:=zo
   rw[IK,MN,ael]at fw;simp only[Exit.then,Exit.inBlock,adS];rw[<-fw];exact⟨fr.defers,.tuple #[],by simp[results,results72],rfl,tK,Yw,st⟩
  simp only[aq,agy,adS];refine aeO ?_;show Code.wpIn _ _ _ _ _ a4 w4;rw[KN s d es aq]at fw
  have Tu:(AV.int .i64 (i:Int)).aJ=.int .i64 (i:Int)/\RV (λ_ _=>True) cQ w4 (.int .i64 (i:Int)) (a4.tmps.getD 8 undef):=⟨rfl,by rw[Um];exact .data _ _ (.int _ _)⟩
  have mR:pq s.name i=s.name.words[i].free:=by simp[pq,qq,aq]
  have fin:∀ {Q:Exit→Act→World→Prop} {a5:Act} {w5:World} {Yp:List (List Int)} {ZX:Nat→Nat→Prop},Gu bF bN cS cR n mn a5→a5.tmps.getD 8 undef = .int .i64 (i:Nat)→Lv wB ZX bF bN s cS cR fv Yp es w5 →
    (∀a6 w6,Gu bF bN cS cR n mn a6->a6.tmps.getD 8 undef=.int .i64 ((i+1:Nat):Int)->Lv wB ZX bF bN s cS cR fv Yp es w6->Q .normal a6 w6)->∀(id:Nat)(ops:Array Oper),kY (.region id ops false)=true->dw prog 50 (.region id ops false)=ah.qb sN.qb->jO ops W6=true->(Code.region id ops false).wpIn (FR none) 0 prog Q a5 w5:=λ{Q a5 w5 Yp ZX} Gr h85 Ks hQ id ops hc oI hW=>by
   have acp:(AV.int .i64 (i:Int)).aJ=.int .i64 (i:Int)/\RV (λ_ _=>True) cQ w5 (.int .i64 (i:Int)) (a5.tmps.getD 8 undef):=⟨rfl,by rw[h85];exact .data _ _ (.int _ _)⟩
   refine cJ hG db (n:=50) hc oI hW (hG wB w5 AA Ks.below) (λ_ _=>True) (iy s es fv n mn (.int .i64 (i:Int))) Gr.size Gr.defers (Ks.gw Gr acp) (K:=λS' _=>S' 8=.int .i64 ((i+1:Nat):Int)) ?_ ?_
   .have pW:IntKind.i64.wrap ((i:Int)+1)=i+1:=aT zo;simp[c72,sN,ah.qa,ah.qb,iy,pW]
   intro g S' H' a6 w6 hg R1 MJ vN;have e86:=R1.slot 8 zd (λh=>h);rw[MJ]at e86;exact hQ a6 w6 (Gr.step R1.size (by rw[R1.defers,hg]<;>rfl) vN) e86.int_eq (Ks.grow (by have:=R1.below;rwa [R1.base]at this))
  refine adB (aeL (adB ?_));refine cJ hG db (n:=50) (ac:=ah.qa zI) (W:=W6) zk zk zk gj (λ_ _=>True) (iy s es fv n mn (.int .i64 (i:Int))) fr.size fr.defers (st.gw fr Tu) (K:=λS' _=>S' 8=.int .i64 i/\S' 34=.bool (pq s.name i)) ?_ ?_
  .rw[mR];simp[c72,sN,zI,ah.qa,ah.qb,iy,av,ai,aq,cD]
  rintro g S' H' a5 w5 hg R1 ⟨q8,q34⟩ bn;have fr:=fr.step R1.size (by rw[R1.defers,hg]<;>rfl) bn;have st:=st.grow (by have:=R1.below;rwa [R1.base]at this);have ht:=R1.slot 34 zd (λh=>h);rw[q34]at ht;have aax:=ht.fL;have hu:=R1.slot 8 zd (λh=>h);rw[q8]at hu;have Um:=hu.int_eq;clear ht hu bn q8 q34 hg R1 g S' H' gj Tu Xc;have gj:GI w5:=hG wB w5 AA st.below;show Code.wpIn _ _ _ _ _ a5 w5;refine aed (t:=pq s.name i) aax ?_
  cases qi:pq s.name i with
  |false=>
   simp only[ads,adH];refine aeO ?_;simp only[Exit.then,Exit.inBlock];rw[qi]at fw;refine fin fr Um st (λa6 w6 Ky MJ Np=>?_) _ _ zk zk zk;refine⟨⟨i+1,Lp,tK,Ky,MJ,zo,zo,Yw,Np,by simpa using fw⟩,?_⟩;rw[MJ,h8];show s.name.words.length-((i+1:Nat):Int).toNat<s.name.words.length-(i:Int).toNat;rw[Int.toNat_natCast,Int.toNat_natCast];omega
  |true=>
   simp only[adS];rw[qi]at fw
   have SN:es.length+1<s.name.words.length:=zo
   obtain⟨u,zY,xF,v,Dp,xN,f1,f2,f3,f4,n1,n2,n3,n4⟩:=st.st;obtain⟨i3,D2,uu⟩:=iZ 3 1;obtain⟨i23,Ps,KT⟩:=iZ 23 1;have Z3:(ints es).length=es.length:=cZ es;refine adB ?_
   refine wF db (n:=50) (ac:=ah.qa Ea) zk zk zk (W:=IC) zk (λ_ _=>False)
    (λt=>match t with|3=>.box 3 0|8=>.int .i64 (i:Int)|_=>.bo) (nm:=3) (tp:=3) (es:=ints es) (es':=ints (es++[(i:Int)])) zd rfl fr.t3 fr.size fr.defers n1 D2 (by rw[uu,Z3];exact n2) (by rw[uu];exact n3.mono (bf.same λ_ _ _ h=>h.elim)) ?_ ?_ (by rw[uu];exact vK _) (xV _) ?_
   .intro t ht;split
    .exact⟨rfl,.inl ⟨rfl,fr.t3⟩⟩
    .exact⟨rfl,.inr (by rw[Um];exact .data _ _ (.int _ _))⟩
    .exact⟨rfl,.inr (.bo _)⟩
   .have nq:es.length+1<1048576:=zo
    have acv:ints (es++[(i:Int)])=ints es++[.int .i64 (i:Int)]:=by simp[ints]
    have bX:=qF es;have k1:aG 1 [AV.int .i64 (i:Int)]=true:=rfl;rw[acv]
    cases DL:v.ownBlock with
    |none=>
     have he:es=[]:=by
      rcases n2.2 with⟨_,h⟩|⟨gg,cap,cur,rfl,_⟩
      .exact ad1 h
      .cases DL
     subst he;simp[c72,sN,zI,Ea,ah.qa,ah.qb,nR,DL,k1,ints]
    |some bv=>
     simp[c72,sN,zI,Ea,ah.qa,ah.qb,nR,DL,k1,bX,nq]
   intro a6 w6 v' BX xs6 abZ Tx vN hN6 Nn Tf OU Ta;have Ky:=fr.step abZ Tx (eE.weaken vN λt ht=>by simp[W6]at ht;simp[IC];omega);have MJ:a6.tmps.getD 8 undef=.int .i64 (i:Int):=(vN 8 rfl).trans Um;have Np:Lv wB tK bF bN s cS cR fv Lp (es++[(i:Int)]) w6:=st.dQ ⟨_,n1⟩ OU hN6 (by rw[uu,cZ]at Nn;exact Nn) (by rw[uu]at Tf;exact Tf) Ta;clear Ta OU Tf Nn hN6 n1 n2 n3 n4 f1 f2 f3 f4;show Code.wpIn _ _ _ _ _ a6 w6
   have abX:(AV.int .i64 (i:Int)).aJ=.int .i64 (i:Int)/\RV (λ_ _=>True) cQ w6 (.int .i64 (i:Int)) (a6.tmps.getD 8 undef):=⟨rfl,by rw[MJ];exact .data _ _ (.int _ _)⟩
   refine adB ?_;refine lu hG (n:=50) (p:=5) (l2:=[5]) rfl zk zk (l:=(Ea.qb.qa.dl).take 5) zk zd (W:=IC) zk (hG wB w6 AA Np.below) (λ_ _=>True) (iy s (es++[(i:Int)]) fv n mn (.int .i64 (i:Int))) Ky.size Ky.defers (Np.gw Ky abX) (K:=λS' _=>S' 39=.val fv/\S' 41=.int .i64 ((i+1:Nat):Int)/\S' 43=.int .i64 (d:Nat)) ?_ ?_
   .have pW:IntKind.i64.wrap ((i:Int)+1)=i+1:=aT zo
    have uS:IntKind.i64.wrap (mn-1)=d:=by rw[aT zo];omega
    simp[c72,sN,zI,Ea,ah.qa,ah.qb,ah.dl,iy,pW,uS]
   rintro g S' H' a7 w7 hg R1 ⟨q39,q41,Tw⟩ HH;have Xt:=Ky.step R1.size (by rw[R1.defers,hg]<;>rfl) (eE.weaken HH λt ht=>by simp[W6]at ht;simp[IC];omega);have st7:=Np.grow (by have:=R1.below;rwa [R1.base]at this);have h87:a7.tmps.getD 8 undef=.int .i64 (i:Int):=(HH 8 rfl).trans MJ;have Vi:=R1.slot 39 zd (λh=>h);rw[q39]at Vi;have Vi:=Vi.jo;have V5:=R1.slot 41 zd (λh=>h);rw[q41]at V5;have V5:=V5.int_eq;have DO:=R1.slot 43 zd (λh=>h);rw[Tw]at DO;have DO:=DO.int_eq;clear R1 hg HH q39 q41 Tw
   have kl:gX s.name (es++[(i:Int)])=true:=by rw[QL ho (by rw[oC];exact Co) aq SN];exact qi
   have Nf:(Lp++kq s d (es++[(i:Int)])).length<=1000:=by
    rw[<-fw]at hB;simp only[adS,adC]at hB⊢;omega
   have mc:=ih (i+1) (es++[(i:Int)]) Lp tK w7 (by unfold ql;simp) zo (by simp;omega) kl Nf st7;refine gk rfl rfl zr (f:=72) (args:=#[.int .i64 ((i+1:Nat):Int),.int .i64 (d:Nat),cS,.pointer (some ⟨bN,0,none⟩),.pointer (some ⟨bF,0,none⟩),cR]) (w':=w7) ?_ mc ?_
   .have k39:a7.eval (.tmp 39)=fv:=Vi;have k41:a7.eval (.tmp 41)=.int .i64 ((i+1:Nat):Int):=V5;have k43:a7.eval (.tmp 43)=.int .i64 (d:Nat):=DO;refine(A9 (f:=.tmp 39) (x:=.tmp 41) (y:=.tmp 43) w7 rfl rfl rfl (k39.trans lZ) zk).trans ?_;rw[k41,k43]
    rfl
   rintro en w8 ⟨rfl,Mi8,hM8,st8⟩;refine⟨_,rfl,?_⟩;show wpOpsIn _ _ _ _ _ [] (a7.put (some 44) (.tuple #[])) w8
   obtain⟨a8,VF⟩:∃a8,a7.put (some 44) (.tuple #[])=a8:=⟨_,rfl⟩
   have VI:eE IC a7 a8:=by rw[<-VF];exact eE.put (λt ht=>by cases ht;rfl) _
   have acP:a8.tmps.size=50:=by rw[<-VF];simp[Act.put,Xt.size]
   have aal:a8.defers=[]:=by rw[<-VF];exact Xt.defers
   rw[VF];have VX:=Xt.step acP aal (eE.weaken VI λt ht=>by simp[W6]at ht;simp[IC];omega);have h88:a8.tmps.getD 8 undef=.int .i64 (i:Int):=(VI 8 rfl).trans h87;show Code.wpIn _ _ _ _ _ a8 w8;obtain⟨u,zY,xF,v8,ty8,U5,f1,f2,f3,f4,n1,n2,n3,n4⟩:=st8.st
   have hl8:U5.length=(es.length+1)*1:=by have:=n2.1;simpa using this
   refine adP ?_;show wpOpsIn _ _ _ _ _ [0,1,2,3,4,5] a8 w8
   refine KK (P:=prog) (n:=50) (T:=23) (el:=3) (p:=3) (t1:=45) (t2:=46) (t3:=47) (t4:=48) (t5:=49) (bN:=bN) (i:=i3) (iT:=i23) (v:=v8) (ty:=ty8) (k:=es.length) (xs:=U5.take (es.length*1)) (last:=U5.drop (es.length*1))
    rfl rfl rfl rfl rfl rfl ⟨rfl,rfl,rfl⟩ ⟨rfl,rfl,rfl⟩ ⟨rfl,rfl,rfl⟩ ⟨rfl,rfl,rfl⟩ ⟨rfl,rfl,rfl⟩ ⟨rfl,rfl,rfl⟩ rfl rfl rfl zk Ps KT D2 zd VX.size zd VX.t3 n1 (by rw[aeC,uu];simpa using n2) (by rw[uu,adA,hl8];omega) zo ?_
   intro a9 v9 acr ab' Rb U7 acz NH
   have l6:∀b,b≠bN->(w8.setRow bN #[v9]).heap[b]?=w8.heap[b]?:=λb hb=>aes w8 bN b #[v9] hb
   have st9:Lv wB Mi8 bF bN s cS cR fv (Lp++kq s d (es++[(i:Int)])) es (w8.setRow bN #[v9]):=by
    refine st8.dQ ⟨_,n1⟩ ⟨rfl,rfl,rfl,ahi,λb _ hm=>l6 b λe=>hm (.inl e)⟩ (ae3 w8 bN _ #[v9] ty8 (0,0) n1) (UY:=U5.take (es.length*1)) (iX (by rw[uu]at NH;exact NH) λb hb=>l6 b λe=>by rw[U7]at hb;have:=(n2.lt b hb).1;omega) ⟨vK es,λj hj k CN=>?_⟩ λb hb=>.inl (by rw[<-U7];exact hb)
    have Ib:k=0:=by
     have:=(vK es _ (adi hj)).1;omega
    subst Ib
    have OI:j<es.length:=by rw[cZ]at hj;exact hj
    have dU:j<(ints (es++[(i:Int)])).length:=by rw[cZ];simp;omega
    have ib:(ints (es++[(i:Int)]))[j]=(ints es)[j]:=by
     simp only[ints,adL,ady,adR];exact adZ (by simpa using OI)
    obtain⟨x,x1,x2⟩:=n3.2 j dU 0 (by rw[ib];exact CN);refine⟨x,by rw[afV zo];exact x1,?_⟩;simp only[ib]at x2;exact x2.mono (bf.of_eq λ_ _ h=>h.elim)
   have Wj:eE IC a8 a9:=λt ht=>by
    have:t<35:=by simp[IC]at ht;omega
    exact Rb t zo zo zo zo zo
   have fr9:=VX.step acr (ab'.trans VX.defers) (eE.weaken Wj λt ht=>by simp[W6]at ht;simp[IC];omega);have sO:a9.tmps.getD 8 undef=.int .i64 (i:Int):=(Wj 8 rfl).trans h88;clear NH l6;generalize w8.setRow bN #[v9]=w9 at st9⊢;simp only[Exit.then,Exit.inBlock];refine fin fr9 sO st9 (λa10 Pw aaV WE abx=>?_) _ _ zk zk zk;refine⟨⟨i+1,_,Mi8,aaV,WE,zo,zo,λb k h=>hM8 b k (Yw b k h),abx,by rw[<-fw];simp⟩,?_⟩;rw[WE,h8];show s.name.words.length-((i+1:Nat):Int).toNat<s.name.words.length-(i:Int).toNat;rw[Int.toNat_natCast,Int.toNat_natCast];omega
structure No(bF bN bR:Nat)(cS:Value)(a:Act):Prop where
 size:a.tmps.size=32
 defers:a.defers=[]
 t1:a.tmps.getD 1 undef=cS
 t4:a.tmps.getD 4 undef=.pointer (some ⟨bF,0,none⟩)
 t5:a.tmps.getD 5 undef=.pointer (some ⟨bN,0,none⟩)
 t6:a.tmps.getD 6 undef=.pointer (some ⟨bR,0,none⟩)
def G':Nat->Bool:=λt=>decide (7<=t)
def gG(s:az)(fs:List (List Int))(fv:Value)(KB K4 x7:AV):an:=λt=>match t with
 |1=>.ref (av s)
 |4=>.ref [.slice .view (fs.map vI)]
 |6=>.ref [.val fv]
 |7=>x7
 |15=>KB
 |16=>K4
 |_=>.bo
section
variable{wB:World}{Mi:Nat->Nat->Prop}{bF bN bR:Nat}{s:az}{cS fv:Value}{fs:List (List Int)}{es:List Int}{w:World}{a:Act}
def No.step{a':Act}(fr:No bF bN bR cS a)(bj:a'.tmps.size=32)(eI:a'.defers=[])(h:eE G' a a'):No bF bN bR cS a':=
 ⟨bj,eI,(h 1 rfl).trans fr.t1,(h 4 rfl).trans fr.t4,(h 5 rfl).trans fr.t5,(h 6 rfl).trans fr.t6⟩
def Lv.O7(st:Lv wB Mi bF bN s cS (.pointer (some ⟨bR,0,none⟩)) fv fs es w)(pr:Nat->Nat->Prop)(GL:∀b k,wB.heap.size<=b->pr b k):RV pr cQ w (.ref [.slice .view (fs.map vI)]) (.pointer (some ⟨bF,0,none⟩)):=by
 obtain⟨u,zY,xF,v,Dp,xN,f1,f2,f3,f4,n1,n2,n3,n4⟩:=st.st;refine .data _ _ (.ref _ _ _ (λ_=>u) (λi hi=>?_) (λk hk=>⟨GL _ _ st.ge.1,?_⟩) (λk hk=>?_))
 .have:i=0:=by simpa using hi
  subst this;rfl
 .have:k=0:=by simpa using hk
  subst this;simp[World.cell?,f1]
 .have:k=0:=by simpa using hk
  subst this
  exact RD.ofRow (size:=1) (es:=fs.map vI) (by rw[adn];exact f2) (f3.mono (bf.same λb k _ h=>GL b k h.2)) λb hb k _=>GL b k (by have:=(f2.lt b hb).1;have:=st.ge.1;omega)
def Lv.kC (st:Lv wB Mi bF bN s cS (.pointer (some ⟨bR,0,none⟩)) fv fs es w) (fr:No bF bN bR cS a) {KB K4 x7:AV} (yu:KB.aJ=KB∧RV (fun _ _=>True) cQ w KB (a.tmps.getD 15 undef)) (we:K4.aJ=K4∧RV (fun _ _=>True) cQ w K4 (a.tmps.getD 16 undef)) (h7:x7.aJ=x7∧RV (fun _ _=>True) cQ w x7 (a.tmps.getD 7 undef)) :
  ∀t,t<32->(gG s fs fv KB K4 x7 t).aJ=gG s fs fv KB K4 x7 t/\RV (λ_ _=>True) cQ w (gG s fs fv KB K4 x7 t) (a.tmps.getD t undef):=by
 intro t ht;unfold gG;split
 .rw[fr.t1];exact⟨rfl,st.s.mono (bf.same λ_ _ _ _=>trivial) λ_ _ h=>h⟩
 .rw[fr.t4];exact⟨rfl,st.O7 _ λ_ _ _=>trivial⟩
 .rw[fr.t6];exact⟨rfl,st.r.mono (bf.same λ_ _ _ _=>trivial) λ_ _ h=>h⟩
 .exact h7
 .exact yu
 .exact we
 .exact⟨rfl,.bo _⟩
end
def RD.bounded{A:Nat->Prop}{w:World}{es:List AV}{c:Value}(Da:∀x∈es,∀c∈x.cells,iG c=true)(h:RD (λb _=>A b) w (.slice .view es) c):∃hi:Nat->Nat,RD (λb k=>A b/\k<hi b) w (.slice .view es) c:=by
 cases h with
 |iB=>exact⟨λ_=>0,.iB _⟩
 |jx _ a=>exact⟨λ_=>0,.jx _ a⟩
 |slice _ _ b off cap size cs fh hn bj h1 hc hr=>
  exact⟨λ_=>off+es.length*size,.slice _ _ b off cap size cs fh hn bj h1 (λk hk=>⟨⟨(hc k hk).1,(by show off+k<off+es.length*size;omega)⟩,(hc k hk).2⟩) λi hi j hj=>(hr i hi j hj).iG (Da _ (adi hi) _ (adi hj))⟩
def abk(hG:ar GI)(s:az)(hs:fW s):AC prog GI 29 [bm s] (.ret (.dR (IB s))):=by
 have pv:=rk hG s hs
 refine AC.jF func29 rfl ntmps29 ahi λcc w=>?_
 refine dX hG c29.qa (λS' H'=>S' 1=.box 1 0/\H' 1=some (av s)) ?_ ?_
 .simp[c29,ah.qa,bm,av,ai]
 rintro S1 H1 ⟨s1,h1⟩;refine SW.scope ?_;show SW prog GI 32 none (.seq (.seq _ (.cond _ _ _)) _) _ _ _ _;refine SW.seq (dX hG (.ops [⟨some 8,none,.load .any true 15 (.t 1)⟩,⟨some 9,none,.call 32 [.t 8]⟩,⟨some 10,none,.not (.t 9)⟩]) (λS' H'=>S' 10=.bool (!dn s)/\S' 1=.box 1 0/\H' 1=some (av s)) ?_ ?_)
 .simp[s1,h1,av,ai];refine oc pv ?_;simp[s1,h1,av,ai]
 clear s1 h1;rintro S2 H2 ⟨bJ,s1,h1⟩;unfold IB
 cases hI:dn s with
 |false=>
  refine SW.cond rfl true (by show S2 10=_;rw[bJ,hI]<;>rfl) ?_;show SW prog GI 32 none (.seq _ .ret) _ _ _ _;refine dX hG (.ops [⟨some 2,none,.mv true (.c (.slice .nil []))⟩,⟨some 3,none,.mv true (.c (.int .i64 2))⟩]) (λS' H'=>S' 2=.slice .nil []/\S' 3=.int .i64 2) ahi ?_;rintro S3 H3 ⟨s2,s3⟩;refine SW.ret ⟨ep.plain rfl,rfl,_,?_,rfl⟩;show cM prog 32 [.tmp 2,.tmp 3] S3 H3=_;simp[cM,dc,de,s2,s3,AV.cg,AV.out,AV.vw,AV.cI,vI,ints]
 |true=>
 have nv:=(gE (gQ hI).name).words;refine SW.cond rfl false (by show S2 10=_;rw[bJ,hI]<;>rfl) (SW.skip ?_);show SW prog GI 32 none (.seq _ (.seq _ (.seq _ (.seq _ (.seq (.label 0) (.seq (.seq _ (.block _ _)) _)))))) _ _ _ _;simp only[adS];intro w0 g a wB m cq ho R
 obtain⟨out,kl⟩:∃out,iJ.ret (.dR (Ca s))=out:=⟨_,rfl⟩
 rw[kl]
 have V7:Below w0.heap.size w0 wB:=by have:=R.below;rwa [R.base]at this
 have AA:GI wB:=hG w0 wB cq V7;have rS:=sE R zd s1 h1 (D3 s)
 obtain⟨cS,hcS⟩:∃cS,a.tmps.getD 1 undef=cS:=⟨_,rfl⟩
 rw[hcS]at rS;have bj:=R.size
 have eI:a.defers=[]:=by rw[R.defers,ho]<;>rfl
 have finish:∀ (aE:Act) (wE:World) (o2:Ow) (QN:List AV) (e:Int) (dv:Nat→Nat),aE.tmps.size=32→aE.defers=[]→Below wB.heap.size wB wE→(AV.slice o2 QN).aJ = .slice o2 QN→RD (fun b k=>(wB.heap.size≤b∧b < wE.heap.size)∧k < dv b) wE (.slice o2 QN) (aE.tmps.getD 2 undef)→aE.tmps.getD 3 undef = .int .i64 e →
   iJ.ret (.dR [.slice .view QN,.int .i64 e])=out->QS prog w0 32 (oa prog 32 f29.results.toList out cc) .ret aE wE:=by
  intro aE wE o2 QN e dv abM aaO On acK dh h3 kl;have RG:=R.jU On
  have hle:g.base<=wB.heap.size:=by rw[R.base];exact V7.size
  have RC:=RG.kW (G:=λb=>wB.heap.size<=b/\b<wE.heap.size) dv (λb hb=>by
   refine⟨⟨aeo hle hb.1,(R.fresh b hb.1).1,(R.fresh b hb.1).2,λi hi=>?_⟩,hb.2,?_⟩
   .obtain⟨_,_,_,_,_,q3,_⟩:=R.box i b hi;have:=(adj.1 q3).1;omega
   .rw[ho]<;>rfl)
  have RE:=RC.Em (a2:=aE) (S2:=λt=>if t=2 then .slice o2 QN else if t=3 then .int .i64 e else .bo) g.old rfl abM (by rw[ho];exact aaO) (by rw[ho];exact λ_ h=>by cases h) RC.still RC.grown (by rw[ho];exact λ_ _ h=>by cases h) (λt ht=>by
   by_cases h2:t=2
   .subst h2;simp only[adS];refine⟨acK,.data _ _ (dh.mono (bf.same λb k _ hp=>.inr ⟨aeo hle hp.1.1,?_⟩))⟩;unfold Gh.kW;simp only[if_pos hp.1];exact hp.2
   .by_cases TN:t=3
    .subst TN;simp only[if_neg h2,adS];rw[h3];exact⟨rfl,.data _ _ (.int _ _)⟩
    .simp only[if_neg h2,if_neg TN]
     exact⟨rfl,.bo _⟩)
  refine⟨_,_,_,RE,?_⟩;refine⟨by rw[ho];exact ep.plain rfl,by rw[ho]<;>rfl,_,?_,kl.symm⟩;show cM prog 32 [.tmp 2,.tmp 3] _ _=_;simp[cM,dc,de,AV.cg,AV.out,AV.vw,AV.cI]
 have fm:∀(a:Act)(d t:Nat)(c:Value),t≠d->(a.put (some d) c).tmps.getD t undef=a.tmps.getD t undef:=λa d t c h=>by
  simp[Act.put,adt (ad6 h)]
 have jK:∀(a:Act)(d:Nat)(c:Value),a.tmps.size=32->d<32->(a.put (some d) c).tmps.getD d undef=c:=λa d c h hd=>by
  simp[Act.put,h,hd]
 have kh:∀(a:Act)(d:Option Nat)(c:Value),(a.put d c).tmps.size=a.tmps.size:=λa d c=>by cases d<;>simp[Act.put]
 have so:∀(a:Act)(d:Option Nat)(c:Value),(a.put d c).defers=a.defers:=λa d c=>by cases d<;>rfl
 obtain⟨bF,SZ⟩:∃bF,wB.heap.size=bF:=⟨_,rfl⟩
 refine adB (adP ?_);show wpOpsIn _ _ _ _ _ [0] a wB;refine bg rfl rfl zr (lE (t:=113) (z:=.slice none 0 0) rfl zk) ?_;show Code.wpIn _ _ _ _ _ (a.put (some 4) (.pointer (some ⟨wB.heap.size,0,none⟩))) (wB.alloc (.cells #[.slice none 0 0] 113))
 obtain⟨a2,jG⟩:∃a2,a.put (some 4) (.pointer (some ⟨wB.heap.size,0,none⟩))=a2:=⟨_,rfl⟩
 obtain⟨w2,ln⟩:∃w2,wB.alloc (.cells #[.slice none 0 0] 113)=w2:=⟨_,rfl⟩
 have O4:w2.heap.size=bF+1:=by rw[<-ln,<-SZ];simp
 have W5:w2.heap[bF]?=some (.cells #[.slice none 0 0] 113 (0,0)):=by rw[<-ln,<-SZ];exact aee wB _
 have WZ:Below bF wB w2:=by rw[<-ln,<-SZ];exact(aej _ _).alloc (adl _) _
 rw[jG,ln];refine adB (adP ?_);show wpOpsIn _ _ _ _ _ [0] a2 w2;refine bg rfl rfl zr (lE (t:=23) (z:=.slice none 0 0) rfl zk) ?_;show Code.wpIn _ _ _ _ _ (a2.put (some 5) (.pointer (some ⟨w2.heap.size,0,none⟩))) (w2.alloc (.cells #[.slice none 0 0] 23))
 obtain⟨a3,se⟩:∃a3,a2.put (some 5) (.pointer (some ⟨w2.heap.size,0,none⟩))=a3:=⟨_,rfl⟩
 obtain⟨w3,qI⟩:∃w3,w2.alloc (.cells #[.slice none 0 0] 23)=w3:=⟨_,rfl⟩
 have AZ:w3.heap.size=bF+2:=by rw[<-qI];simp[O4]
 have O0:w3.heap[bF+1]?=some (.cells #[.slice none 0 0] 23 (0,0)):=by rw[<-qI,<-O4];exact aee w2 _
 have LG:Below (bF+1) w2 w3:=by rw[<-qI,<-O4];exact(aej _ _).alloc (adl _) _
 rw[se,qI];refine adB (adP ?_);show wpOpsIn _ _ _ _ _ [0] a3 w3;refine bg rfl rfl zr (lE (t:=114) (z:=.nilFunc) rfl zk) ?_;show Code.wpIn _ _ _ _ _ (a3.put (some 6) (.pointer (some ⟨w3.heap.size,0,none⟩))) (w3.alloc (.cells #[.nilFunc] 114))
 obtain⟨a4,mg⟩:∃a4,a3.put (some 6) (.pointer (some ⟨w3.heap.size,0,none⟩))=a4:=⟨_,rfl⟩
 obtain⟨w4,nv⟩:∃w4,w3.alloc (.cells #[.nilFunc] 114)=w4:=⟨_,rfl⟩
 have OY:w4.heap.size=bF+3:=by rw[<-nv];simp[AZ]
 have FD:w4.heap[bF+2]?=some (.cells #[.nilFunc] 114 (0,0)):=by rw[<-nv,<-AZ];exact aee w3 _
 have Ct:Below (bF+2) w3 w4:=by rw[<-nv,<-AZ];exact(aej _ _).alloc (adl _) _
 rw[mg,nv]
 have z2:a2.tmps.size=32:=by rw[<-jG,kh];exact bj
 have z3:a3.tmps.size=32:=by rw[<-se,kh];exact z2
 have z4:a4.tmps.size=32:=by rw[<-mg,kh];exact z3
 have u1:a4.tmps.getD 1 undef=cS:=by rw[<-mg,fm _ _ _ _ zd,<-se,fm _ _ _ _ zd,<-jG,fm _ _ _ _ zd,hcS]
 have u4:a4.tmps.getD 4 undef=.pointer (some ⟨bF,0,none⟩):=by rw[<-mg,fm _ _ _ _ zd,<-se,fm _ _ _ _ zd,<-jG,jK _ _ _ bj zd,SZ]
 have u5:a4.tmps.getD 5 undef=.pointer (some ⟨bF+1,0,none⟩):=by rw[<-mg,fm _ _ _ _ zd,<-se,jK _ _ _ z2 zd,O4]
 have u6:a4.tmps.getD 6 undef=.pointer (some ⟨bF+2,0,none⟩):=by rw[<-mg,jK _ _ _ z3 zd,AZ]
 have d4:a4.defers=[]:=by rw[<-mg,so,<-se,so,<-jG,so];exact eI
 refine adB (adP ?_);show wpOpsIn _ _ _ _ _ [0,1] a4 w4;refine bg rfl rfl zr (mr (fn:=.func 72) (c:=#[.tmp 1,.tmp 5,.tmp 4,.tmp 6]) rfl) ?_
 have fh:(#[Operand.tmp 1,.tmp 5,.tmp 4,.tmp 6].map a4.eval)=#[cS,.pointer (some ⟨bF+1,0,none⟩),.pointer (some ⟨bF,0,none⟩),.pointer (some ⟨bF+2,0,none⟩)]:=by
  simp only[adV,ady,adR,Act.eval];rw[u1,u4,u5,u6]
 rw[fh]
 obtain⟨fv,lZ⟩:∃fv:Value,fv=.func (.func 72) #[] #[cS,.pointer (some ⟨bF+1,0,none⟩),.pointer (some ⟨bF,0,none⟩),.pointer (some ⟨bF+2,0,none⟩)]:=⟨_,rfl⟩
 rw[<-lZ]
 obtain⟨a5,qM⟩:∃a5,a4.put (some 11) fv=a5:=⟨_,rfl⟩
 show wpOpsIn _ _ _ _ _ [1] (a4.put (some 11) fv) w4;rw[qM]
 have z5:a5.tmps.size=32:=by rw[<-qM,kh];exact z4
 have UQ:a5.tmps.getD 11 undef=fv:=by rw[<-qM];exact jK _ _ _ z4 zd
 have v1:a5.tmps.getD 1 undef=cS:=by rw[<-qM,fm _ _ _ _ zd];exact u1
 have v4:a5.tmps.getD 4 undef=.pointer (some ⟨bF,0,none⟩):=by rw[<-qM,fm _ _ _ _ zd];exact u4
 have v5:a5.tmps.getD 5 undef=.pointer (some ⟨bF+1,0,none⟩):=by rw[<-qM,fm _ _ _ _ zd];exact u5
 have v6:a5.tmps.getD 6 undef=.pointer (some ⟨bF+2,0,none⟩):=by rw[<-qM,fm _ _ _ _ zd];exact u6
 have d5:a5.defers=[]:=by rw[<-qM,so];exact d4
 obtain⟨i142,YX,YN⟩:=iZ 114 1;refine eT rfl rfl zr (iV (x:=.tmp 6) (y:=.tmp 11) rfl v6 YX YN FD UQ (by rw[lZ]<;>rfl)) ?_;show Code.wpIn _ _ _ _ _ (a5.put none undef) (w4.setRow (bF+2) #[fv])
 have fr:No bF (bF+1) (bF+2) cS (a5.put none undef):=⟨z5,d5,v1,v4,v5,v6⟩
 have l6:∀b,b≠bF+2->(w4.setRow (bF+2) #[fv]).heap[b]?=w4.heap[b]?:=λb hb=>aes w4 (bF+2) b #[fv] hb
 have F0:(w4.setRow (bF+2) #[fv]).heap.size=bF+3:=by simp[OY]
 have hb4:Below bF wB w4:=WZ.trans ((LG.mono zo).trans (Ct.mono zo));have N5:Below bF wB (w4.setRow (bF+2) #[fv]):=hb4.trans ⟨rfl,rfl,rfl,by rw[F0,OY];exact adl _,λk hk=>l6 k zo⟩
 have st:Lv wB (λb k=>(b<bF/\fC g true b k)\/(b=bF+2/\k=0)) bF (bF+1) s cS (.pointer (some ⟨bF+2,0,none⟩)) fv [] [] (w4.setRow (bF+2) #[fv]):=by
  refine⟨by rw[SZ];exact N5,⟨zo,zo,zo⟩,?_,?_,?_,⟨.slice none 0 0,113,[],.slice none 0 0,23,[],?_,⟨rfl,.inl ⟨rfl,rfl⟩⟩,⟨λx hx=>by simp at hx,λj hj=>by simp at hj⟩,(λb hb=>by cases hb),?_,⟨rfl,.inl ⟨rfl,rfl⟩⟩,⟨λx hx=>by simp[ints]at hx,λj hj=>by simp[ints]at hj⟩,(λb hb=>by cases hb)⟩,?_,?_⟩
  .rintro b k (h|h)
   .rw[F0];omega
   .rw[F0];omega
  .rintro k (h|h)<;>omega
  .rintro k (h|h)<;>omega
  .rw[l6 _ zo,Ct.block _ zo,LG.block _ zo];exact W5
  .rw[l6 _ zo,Ct.block _ zo];exact O0
  .have rS':RV (λb k=>b<bF/\fC g true b k) cQ wB (.ref (av s)) cS:=rS.mono (bf.same λb k hb h=>⟨zo,h⟩) λ_ _ h=>h
   exact rS'.mono (bf.of_eq λb k h=>⟨.inl h,N5.block b h.1⟩) λ_ _ h=>h
  .refine .data _ _ (.ref _ _ _ (λ_=>fv) (λi hi=>?_) (λk hk=>⟨.inr ⟨rfl,(by have h0:k<1:=hk;omega)⟩,?_⟩) (λk hk=>?_))
   .have:i=0:=by simpa using hi
    subst this;rfl
   .have:k=0:=by simpa using hk
    subst this;have:=ae3 w4 (bF+2) _ #[fv] 114 (0,0) FD;simp[World.cell?,this]
   .have:k=0:=by simpa using hk
    subst this;exact .val _ (by rw[lZ]<;>rfl)
 clear l6 F0 N5 hb4 Ct FD LG O0 WZ W5;generalize w4.setRow (bF+2) #[fv]=w5 at st⊢;generalize a5.put none undef=a6 at fr⊢;generalize(λb k=>(b<bF/\fC g true b k)\/(b=bF+2/\k=0))=Mi at st;clear v1 v4 v5 v6 d5 z5 UQ qM fh u1 u4 u5 u6 d4 z4 z3 z2
 have gi:∀{w:World},Below wB.heap.size wB w->GI w:=λh=>hG wB _ AA h
 have jk:∀(a:Act)(w:World)(t:Nat),(AV.bo).aJ=AV.bo/\RV (λ_ _=>True) cQ w AV.bo (a.tmps.getD t undef):=λa w t=>⟨rfl,.bo _⟩
 have iv:∀(a:Act)(w:World)(t:Nat)(k:Int),a.tmps.getD t undef=.int .i64 k->(AV.int .i64 k).aJ=.int .i64 k/\RV (λ_ _=>True) cQ w (.int .i64 k) (a.tmps.getD t undef):=λa w t k h=>⟨rfl,by rw[h];exact .data _ _ (.int _ _)⟩
 have E1:∀{w w':World}{g:Gh}{S:an}{H:ao}{a':Act},Rel prog w 32 bL g S H a' w'->Below w.heap.size w w':=λR=>by have:=R.below;rwa [R.base]at this
 show Code.wpIn _ _ _ _ _ a6 w5;refine adB (wpIn_label ?_);show Code.wpIn _ _ _ _ _ a6 w5;refine adB (adB ?_);refine cJ hG db (n:=32) (ac:=.ops [⟨some 12,none,.fieldAddr 5 (.t 1)⟩,⟨some 13,none,.fieldAddr 7 (.t 12)⟩,⟨some 14,none,.load .any false 1 (.t 13)⟩,⟨some 15,none,.kM (.t 14)⟩,⟨some 16,none,.mv false (.c (.int .i64 0))⟩]) (W:=G') zk zk zk (gi st.below) (λ_ _=>True) (gG s [] fv .bo .bo .bo) fr.size fr.defers (st.kC fr (jk _ _ _) (jk _ _ _) (jk _ _ _)) (K:=λS' _=>S' 15=.int .i64 (s.name.words.length:Nat)/\S' 16=.int .i64 ((0:Nat):Int)) ?_ ?_
 .simp[gG,av,ai]
 rintro g1 S1 H1 a7 w7 nn R1 ⟨wm,wo⟩ bn;have fr:=fr.step R1.size (by rw[R1.defers,nn]<;>rfl) bn;have st:=st.grow (E1 R1);have HC:=R1.slot 15 zd id;rw[wm]at HC;have HC:=HC.int_eq;have E6:=R1.slot 16 zd id;rw[wo]at E6;have E6:=E6.int_eq;clear R1 nn bn wm wo;show Code.wpIn _ _ _ _ _ a7 w7
 refine aeL (agX (λa w=>∃(k:Nat)(tK:Nat->Nat->Prop),No bF (bF+1) (bF+2) cS a/\a.tmps.getD 15 undef=.int .i64 (s.name.words.length:Nat)/\a.tmps.getD 16 undef=.int .i64 (k:Nat)/\k<=s.name.words.length/\(∀j,j<k->kq s j []=[])/\Lv wB tK bF (bF+1) s cS (.pointer (some ⟨bF+2,0,none⟩)) fv [] [] w)
  (λa _=>match a.tmps.getD 16 undef with|.int _ i=>s.name.words.length-i.toNat|_=>0) ⟨0,Mi,fr,HC,E6,ad_ _,λj hj=>zo,st⟩ ?_)
 clear HC E6 fr st;rintro a8 w8 ⟨k,tK,fr,HC,E6,hk,iq,st⟩;refine adB ?_;refine cJ hG db (n:=32) (ac:=.ops [⟨some 17,none,.bin .lss (.t 16) (.t 15)⟩]) (W:=G') zk zk zk (gi st.below) (λ_ _=>True) (gG s [] fv (.int .i64 (s.name.words.length:Nat)) (.int .i64 (k:Nat)) .bo) fr.size fr.defers (st.kC fr (iv _ _ _ _ HC) (iv _ _ _ _ E6) (jk _ _ _)) (K:=λS' _=>S' 15=.int .i64 (s.name.words.length:Nat)/\S' 16=.int .i64 (k:Nat)/\S' 17=.bool (decide (k<s.name.words.length))) ?_ ?_
 .simp[gG]
 rintro g1 S1 H1 a9 w9 nn R1 ⟨wm,wo,q17⟩ bn;have fr:=fr.step R1.size (by rw[R1.defers,nn]<;>rfl) bn;have st:=st.grow (E1 R1);have L7:=R1.slot 15 zd id;rw[wm]at L7;have L7:=L7.int_eq;have Lr:=R1.slot 16 zd id;rw[wo]at Lr;have Lr:=Lr.int_eq;have Ri:=R1.slot 17 zd id;rw[q17]at Ri;have Ri:=Ri.fL;clear R1 nn bn wm wo q17;show Code.wpIn _ _ _ _ _ a9 w9;refine adB (aed (t:=decide (k<s.name.words.length)) Ri ?_)
 by_cases aq:k<s.name.words.length
 case neg=>
  simp only[aq,agp,ads,adH];refine afx ?_
  have hke:k=s.name.words.length:=zo
  subst hke;simp only[Exit.then,Exit.inBlock,adS]
  have D0:zq s=none:=by rw[Bv];exact MO _ iq
  show Code.wpIn _ _ _ _ _ a9 w9;refine adB (adB ?_);refine cJ hG db (n:=32) (ac:=.ops [⟨some 26,none,.load .any false 1 (.t 4)⟩,⟨some 27,none,.kM (.t 26)⟩,⟨some 28,none,.bin .eql (.t 27) (.c (.int .i64 0))⟩]) (W:=G') zk zk zk (gi st.below) (λ_ _=>True) (gG s [] fv .bo .bo .bo) fr.size fr.defers (st.kC fr (jk _ _ _) (jk _ _ _) (jk _ _ _)) (K:=λS' _=>S' 28=.bool true) ?_ ?_
  .simp[gG]
  rintro g1 S1 H1 aA wA nn R1 BY bn;have fr:=fr.step R1.size (by rw[R1.defers,nn]<;>rfl) bn;have st:=st.grow (E1 R1);have xx:=R1.slot 28 zd id;rw[BY]at xx;have xx:=xx.fL;show Code.wpIn _ _ _ _ _ aA wA;refine aed (t:=true) xx ?_;simp only[adS];refine adB ?_;refine cJ hG db (n:=32) (ac:=.ops [⟨some 2,none,.mv true (.c (.slice .nil []))⟩,⟨some 3,none,.mv true (.c (.int .i64 5))⟩]) (W:=λ_=>true) zk zk zk (gi st.below) (λ_ _=>True) (gG s [] fv .bo .bo .bo) fr.size fr.defers (st.kC fr (jk _ _ _) (jk _ _ _) (jk _ _ _)) (K:=λS' _=>S' 2=.slice .nil []/\S' 3=.int .i64 5) ?_ ?_
  .simp[gG]
  rintro g2 S2 H2 aB SA nH R2 ⟨q2,q3⟩ _;have e2:=R2.slot 2 zd id;rw[q2]at e2;have e3:=R2.slot 3 zd id;rw[q3]at e3;refine afh (finish aB SA .view [] 5 (λ_=>0) R2.size (by rw[R2.defers,nH]<;>rfl) (st.grow (E1 R2)).below rfl (e2.dW rfl).CF e3.int_eq ?_);rw[<-kl];unfold Ca
  rw[D0]<;>rfl
 simp only[aq,agy,adS];refine aeO ?_;show Code.wpIn _ _ _ _ _ a9 w9;refine adB (aeL ?_);refine adB ?_;refine cJ hG db (n:=32) (ac:=.ops [⟨some 18,none,.mv false (.t 16)⟩,⟨some 7,none,.mv true (.t 18)⟩]) (W:=G') zk zk zk (gi st.below) (λ_ _=>True) (gG s [] fv (.int .i64 (s.name.words.length:Nat)) (.int .i64 (k:Nat)) .bo) fr.size fr.defers (st.kC fr (iv _ _ _ _ L7) (iv _ _ _ _ Lr) (jk _ _ _)) (K:=λS' _=>S' 15=.int .i64 (s.name.words.length:Nat)/\S' 16=.int .i64 (k:Nat)/\S' 7=.int .i64 (k:Nat)) ?_ ?_
 .simp[gG]
 rintro g1 S1 H1 a10 Pw nn R1 ⟨wm,wo,q7⟩ bn;have fr:=fr.step R1.size (by rw[R1.defers,nn]<;>rfl) bn;have st:=st.grow (E1 R1);have Jj:=R1.slot 15 zd id;rw[wm]at Jj;have Jj:=Jj.int_eq;have Mf:=R1.slot 16 zd id;rw[wo]at Mf;have Mf:=Mf.int_eq;have f7:=R1.slot 7 zd id;rw[q7]at f7;have f7:=f7.int_eq;clear R1 nn bn wm wo q7 L7 Lr Ri;show Code.wpIn _ _ _ _ _ a10 Pw;refine adB ?_;refine lu hG (n:=32) (p:=2) (l2:=[2]) rfl zk zk (l:=[⟨some 19,none,.load .any false 1 (.t 6)⟩,⟨some 20,none,.mv false (.t 7)⟩]) zk zd (W:=G') zk (gi st.below) (λ_ _=>True) (gG s [] fv (.int .i64 (s.name.words.length:Nat)) (.int .i64 (k:Nat)) (.int .i64 (k:Nat))) fr.size fr.defers (st.kC fr (iv _ _ _ _ Jj) (iv _ _ _ _ Mf) (iv _ _ _ _ f7)) (K:=λS' _=>S' 15=.int .i64 (s.name.words.length:Nat)/\S' 16=.int .i64 (k:Nat)/\S' 19=.val fv/\S' 20=.int .i64 (k:Nat)) ?_ ?_
 .simp[gG]
 rintro g1 S1 H1 UZ Xi nn R1 ⟨wm,wo,q19,RI⟩ bn;have fr:=fr.step R1.size (by rw[R1.defers,nn]<;>rfl) bn;have st:=st.grow (E1 R1);have yu:=R1.slot 15 zd id;rw[wm]at yu;have yu:=yu.int_eq;have we:=R1.slot 16 zd id;rw[wo]at we;have we:=we.int_eq;have L8:=R1.slot 19 zd id;rw[q19]at L8;have L8:=L8.jo;have Ol:=R1.slot 20 zd id;rw[RI]at Ol;have Ol:=Ol.int_eq;clear R1 nn bn wm wo q19 RI Jj Mf f7;have wu:=Ov zo (d:=k) zo ([]:List Int) (s:=s);have mc:=Uz hG AA hs hI lZ k 0 [] [] tK Xi rfl (ad_ _) (by simpa using aq) (P1 zo) (by simp;omega) st;refine gk rfl rfl zr (f:=72) (args:=#[.int .i64 ((0:Nat):Int),.int .i64 (k:Nat),cS,.pointer (some ⟨bF+1,0,none⟩),.pointer (some ⟨bF,0,none⟩),.pointer (some ⟨bF+2,0,none⟩)]) (w':=Xi) ?_ mc ?_
 .have k19:UZ.eval (.tmp 19)=fv:=L8;have k20:UZ.eval (.tmp 20)=.int .i64 (k:Nat):=Ol;refine(A9 (f:=.tmp 19) (x:=.const (.int .i64 0)) (y:=.tmp 20) Xi rfl rfl rfl (k19.trans lZ) zk).trans ?_;rw[k20]
  rfl
 rintro en w12 ⟨rfl,Mi2,hM2,st⟩;rw[List.nil_append]at st;refine⟨_,rfl,?_⟩;show Code.wpIn _ _ _ _ _ (UZ.put (some 21) (.tuple #[])) w12
 obtain⟨a12,CL⟩:∃a12,UZ.put (some 21) (.tuple #[])=a12:=⟨_,rfl⟩
 have fr:No bF (bF+1) (bF+2) cS a12:=fr.step (by rw[<-CL,kh];exact fr.size) (by rw[<-CL,so];exact fr.defers) (by rw[<-CL];exact eE.put (λt ht=>by cases ht;rfl) _)
 have i15:a12.tmps.getD 15 undef=.int .i64 (s.name.words.length:Nat):=by rw[<-CL,fm _ _ _ _ zd];exact yu
 have i16:a12.tmps.getD 16 undef=.int .i64 (k:Nat):=by rw[<-CL,fm _ _ _ _ zd];exact we
 rw[CL];clear CL yu we L8 Ol;refine adB ?_;refine cJ hG db (n:=32) (ac:=.ops [⟨some 22,none,.load .any false 1 (.t 4)⟩,⟨some 23,none,.kM (.t 22)⟩,⟨some 24,none,.bin .gtr (.t 23) (.c (.int .i64 0))⟩]) (W:=G') zk zk zk (gi st.below) (λ_ _=>True) (gG s (kq s k []) fv (.int .i64 (s.name.words.length:Nat)) (.int .i64 (k:Nat)) .bo) fr.size fr.defers (st.kC fr (iv _ _ _ _ i15) (iv _ _ _ _ i16) (jk _ _ _)) (K:=λS' _=>S' 15=.int .i64 (s.name.words.length:Nat)/\S' 16=.int .i64 (k:Nat)/\S' 24=.bool (decide (0<(kq s k []).length))) ?_ ?_
 .simp[gG]
 rintro g1 S1 H1 Yk Yt nn R1 ⟨wm,wo,q24⟩ bn;have fr:=fr.step R1.size (by rw[R1.defers,nn]<;>rfl) bn;have st:=st.grow (E1 R1);have yu:=R1.slot 15 zd id;rw[wm]at yu;have yu:=yu.int_eq;have we:=R1.slot 16 zd id;rw[wo]at we;have we:=we.int_eq;have PB:=R1.slot 24 zd id;rw[q24]at PB;have PB:=PB.fL;clear R1 nn bn wm wo q24 i15 i16;show Code.wpIn _ _ _ _ _ Yk Yt;refine aed (t:=decide (0<(kq s k []).length)) PB ?_
 cases hL:kq s k []with
 |nil=>
  rw[hL]at st;simp only[List.length_nil,ahf,agp,ads,adH];refine aeO ?_;simp only[Exit.then,Exit.inBlock];show Code.wpIn _ _ _ _ _ Yk Yt;refine cJ hG db (n:=32) (ac:=.ops [⟨some 25,none,.bin .add (.t 16) (.c (.int .i64 1))⟩,⟨some 16,none,.mv false (.t 25)⟩]) (W:=G') zk zk zk (gi st.below) (λ_ _=>True) (gG s [] fv (.int .i64 (s.name.words.length:Nat)) (.int .i64 (k:Nat)) .bo) fr.size fr.defers (st.kC fr (iv _ _ _ _ yu) (iv _ _ _ _ we) (jk _ _ _)) (K:=λS' _=>S' 15=.int .i64 (s.name.words.length:Nat)/\S' 16=.int .i64 ((k+1:Nat):Int)) ?_ ?_
  .have pW:IntKind.i64.wrap ((k:Int)+1)=k+1:=aT zo;simp[gG,pW]
  rintro g1 S1 H1 a14 w14 nn R1 ⟨wm,wo⟩ bn;have fr:=fr.step R1.size (by rw[R1.defers,nn]<;>rfl) bn;have st:=st.grow (E1 R1);have Vx:=R1.slot 15 zd id;rw[wm]at Vx;have Vx:=Vx.int_eq;have RP:=R1.slot 16 zd id;rw[wo]at RP;have RP:=RP.int_eq;refine⟨⟨k+1,Mi2,fr,Vx,RP,zo,λj hj=>?_,st⟩,?_⟩
  .by_cases e:j=k
   .subst e;exact hL
   .exact iq j zo
  .rw[RP,E6];show s.name.words.length-((k+1:Nat):Int).toNat<s.name.words.length-(k:Int).toNat;rw[Int.toNat_natCast,Int.toNat_natCast];omega
 |cons x l=>
  have ZG:zq s=some x:=by rw[Bv];exact M5 _ aq iq hL
  rw[hL]at st;simp only[List.length_cons,Nat.zero_lt_succ,agy,adS];refine afx ?_;simp only[Exit.then,Exit.inBlock];show Code.wpIn _ _ _ _ _ Yk Yt;refine adB (adB ?_);refine cJ hG db (n:=32) (ac:=.ops [⟨some 26,none,.load .any false 1 (.t 4)⟩,⟨some 27,none,.kM (.t 26)⟩,⟨some 28,none,.bin .eql (.t 27) (.c (.int .i64 0))⟩]) (W:=G') zk zk zk (gi st.below) (λ_ _=>True) (gG s (x::l) fv .bo .bo .bo) fr.size fr.defers (st.kC fr (jk _ _ _) (jk _ _ _) (jk _ _ _)) (K:=λS' _=>S' 28=.bool false) ?_ ?_
  .have cP:((l.length:Int)+1==0)=false:=by rw[ad4];omega
   simp[gG,cP]
   try omega
  rintro g1 S1 H1 aA wA nn R1 BY bn;have fr:=fr.step R1.size (by rw[R1.defers,nn]<;>rfl) bn;have st:=st.grow (E1 R1);have xx:=R1.slot 28 zd id;rw[BY]at xx;have xx:=xx.fL;show Code.wpIn _ _ _ _ _ aA wA;refine aed (t:=false) xx ?_;simp only[ads,adH];refine aeO ?_;show Code.wpIn _ _ _ _ _ aA wA;refine adB ?_
  refine cJ hG db (n:=32) (ac:=.ops [⟨some 29,none,.load .any false 1 (.t 4)⟩,⟨some 30,none,.indexAddr 1 (.t 29) (.c (.int .i64 0))⟩,⟨some 31,none,.load .any false 1 (.t 30)⟩,⟨some 2,none,.mv true (.t 31)⟩,⟨some 3,none,.mv true (.c (.int .i64 0))⟩]) (W:=λ_=>true) zk zk zk (gi st.below) (λb _=>wB.heap.size<=b)
   (λt=>match t with|4=>.ref [.slice .view ((x::l).map vI)]|_=>.bo) fr.size fr.defers ?_ (K:=λS' _=>S' 2=.slice .view (ints x)/\S' 3=.int .i64 0) ?_ ?_
  .intro t ht;split
   .rw[fr.t4];exact⟨rfl,st.O7 _ λb k h=>h⟩
   .exact⟨rfl,.bo _⟩
  .simp
  rintro g2 S2 H2 aB SA nH R2 ⟨q2,q3⟩ _;have e2:=R2.slot 2 zd id;rw[q2]at e2;have e3:=R2.slot 3 zd id;rw[q3]at e3;have lS:=E1 R2
  have r2:RD (λb _=>wB.heap.size<=b/\b<SA.heap.size) SA (.slice .view (ints x)) (aB.tmps.getD 2 undef):=(e2.dW rfl).mono (bf.same λb k hb hp=>by
   rcases hp with⟨_,h⟩|⟨h,_⟩
   .rw[nH]at h;exact⟨h,hb⟩
   .rw[R2.base]at h;have:=st.below.size
    exact⟨zo,hb⟩)
  obtain⟨dv,r3⟩:=RD.bounded (xV x) r2;refine afh (finish aB SA .view (ints x) 0 dv R2.size (by rw[R2.defers,nH]<;>rfl) (st.grow lS).below rfl r3 e3.int_eq ?_);rw[<-kl];unfold Ca
  rw[ZG]<;>rfl
def Fc:List UInt8:=[116,114,97,109,32,49,32,49,32,49,32,48,10,99,101,108,108,32,49,32,50,32,110,111,10,101,110,100,32,49,55,56,10,102,114,111,110,116,32,49,32,49,10,115,112,97,99,101,115,32,48,32,48,32,48,32,48,32,49,10,115,105,103,110,32,49,10,119,111,114,100,32,110,111,32,48,32,45,10,101,110,100,32,48,57,56,10]
def uk:az:=⟨[⟨1,2,false⟩],1,1,1,0,⟨[1],[],0,0,0,0,1,[⟨[0],[],false⟩],1,1⟩⟩
def GM:IB l5=[vI [1],.int .i64 0]:=by kernel_rfl
def Kr:qw Fc=(uk,0):=by kernel_rfl
def yt:lj uk=Fc:=by kernel_rfl
def aab:fW uk:=⟨zd,zd,zd,zd,λw hw=>by
 simp[uk]at hw;subst hw;decide,λw hw=>by
 simp[uk]at hw;subst hw;decide⟩
def Yy(hG:ar GI)(hT:TB GI)(pD:ML GI):AC prog GI 10 [.str Fc] (.ret (.dR [bm uk,.int .i64 0])):=by
 have:=WR hG hT pD Fc;rwa [Kr]at this
def Yg(hG:ar GI):AC prog GI 12 [bm uk] (.ret (.str Fc)):=by
 have hI:dn uk=true:=zk
 have:=Wn (GI:=GI) hG uk (su hI) zd (pk (qf hI)) (GR aab.name (qf hI)) (by rw[yt];decide);rwa [yt]at this
def ac7(hG:ar GI)(hT:TB GI)(pD:ML GI):AC prog GI 7 [] (.ret (.bool true)):=by
 have d:=ab5 (GI:=GI) hG;have a:=Te (GI:=GI) hG;have b:=abp (GI:=GI) hG;have q1:=aa2 (GI:=GI) hG ze Sw;have q2:=abF (GI:=GI) hG l5 sJ;have q3:=abh (GI:=GI) hG l5 sJ [3,2,2,4,5,1] zd;have q4:=ab0 (GI:=GI) hG l5 sJ;have q5:=acB (GI:=GI) hG ze Sw;have q6:=acG (GI:=GI) hG l5 sJ 1;have q7:=abB (GI:=GI) hG l5 sJ;have q8:=abI (GI:=GI) hG CC Rf;have q9:=abd (GI:=GI) hG l5 sJ;have q10:=abC (GI:=GI) hG CC Rf;have q11:=abk (GI:=GI) hG l5 sJ;have q12:=Yy hG hT pD;have q13:=Yg (GI:=GI) hG;rw[IX]at q1;rw[Iq]at q2;rw[JJ]at q3;rw[JE]at q4;rw[K6]at q5;rw[JK]at q6;rw[KX]at q7;rw[Mu]at q8;rw[LK]at q9;rw[Mb]at q10;rw[GM]at q11;have p1:=RJ (GI:=GI) hG [9] [9] zd;have p2:=aaS (GI:=GI) hG [(1,1),(3,5)] [(1,1),(3,5)] zd;have p3:=RJ (GI:=GI) hG [1] [1] zd;refine cw hG func7 ntmps7 c7 ?_;refine aK (λS H=>S 0=.bool false) ahi ?_
 rintro S H -
 refine aK (λS H=>S 1=vI [9]/\S 2=.int .i64 0) ?_ ?_
 .simp;refine oc d ?_;simp[bm,av,ai];refine oc q1 ?_;simp
 clear S H;rintro S H ⟨s1,s2⟩;refine aK (λS H=>S 1=vI [9]/\S 2=.int .i64 0/\S 3=.slice .view (aY [(1,1),(3,5)])/\S 4=.int .i64 0) ?_ ?_
 .simp[s1,s2];refine oc a ?_;simp[bm,av,ai,s1,s2];refine oc q2 ?_;simp[s1,s2]
 clear s1 s2 S H;rintro S H ⟨s1,s2,s3,s4⟩;refine aK (λS H=>S 1=vI [9]/\S 2=.int .i64 0/\S 3=.slice .view (aY [(1,1),(3,5)])/\S 4=.int .i64 0/\S 5=.int .i64 2/\S 6=.int .i64 0) ?_ ?_
 .simp[s1,s2,s3,s4];refine oc a ?_;simp[bm,av,ai,s1,s2,s3,s4];refine oc q3 ?_;simp[s1,s2,s3,s4]
 clear s1 s2 s3 s4 S H;rintro S H ⟨s1,s2,s3,s4,s5,s6⟩;refine aK (λS H=>S 1=vI [9]/\S 2=.int .i64 0/\S 3=.slice .view (aY [(1,1),(3,5)])/\S 4=.int .i64 0/\S 5=.int .i64 2/\S 6=.int .i64 0/\S 7=.int .i64 1/\S 8=.int .i64 0) ?_ ?_
 .simp[s1,s2,s3,s4,s5,s6];refine oc a ?_;simp[bm,av,ai,s1,s2,s3,s4,s5,s6];refine oc q4 ?_;simp[s1,s2,s3,s4,s5,s6]
 clear s1 s2 s3 s4 s5 s6 S H;rintro S H ⟨s1,s2,s3,s4,s5,s6,s7,s8⟩;refine aK (λS H=>S 1=vI [9]/\S 2=.int .i64 0/\S 3=.slice .view (aY [(1,1),(3,5)])/\S 4=.int .i64 0/\S 5=.int .i64 2/\S 6=.int .i64 0/\S 7=.int .i64 1/\S 8=.int .i64 0/\S 9=.int .i64 1/\S 10=.int .i64 0) ?_ ?_
 .simp[s1,s2,s3,s4,s5,s6,s7,s8];refine oc d ?_;simp[bm,av,ai,s1,s2,s3,s4,s5,s6,s7,s8];refine oc q5 ?_;simp[s1,s2,s3,s4,s5,s6,s7,s8]
 clear s1 s2 s3 s4 s5 s6 s7 s8 S H;rintro S H ⟨s1,s2,s3,s4,s5,s6,s7,s8,s9,bJ⟩;refine aK (λS H=>S 1=vI [9]/\S 2=.int .i64 0/\S 3=.slice .view (aY [(1,1),(3,5)])/\S 4=.int .i64 0/\S 5=.int .i64 2/\S 6=.int .i64 0/\S 7=.int .i64 1/\S 8=.int .i64 0/\S 9=.int .i64 1/\S 10=.int .i64 0/\S 11=.int .i64 2/\S 12=.int .i64 0) ?_ ?_
 .simp[s1,s2,s3,s4,s5,s6,s7,s8,s9,bJ];refine oc a ?_;simp[bm,av,ai,s1,s2,s3,s4,s5,s6,s7,s8,s9,bJ];refine oc q6 ?_;simp[s1,s2,s3,s4,s5,s6,s7,s8,s9,bJ]
 clear s1 s2 s3 s4 s5 s6 s7 s8 s9 bJ S H;rintro S H ⟨s1,s2,s3,s4,s5,s6,s7,s8,s9,bJ,bC,cK⟩;refine aK (λS H=>S 1=vI [9]/\S 2=.int .i64 0/\S 3=.slice .view (aY [(1,1),(3,5)])/\S 4=.int .i64 0/\S 5=.int .i64 2/\S 6=.int .i64 0/\S 7=.int .i64 1/\S 8=.int .i64 0/\S 9=.int .i64 1/\S 10=.int .i64 0/\S 11=.int .i64 2/\S 12=.int .i64 0/\S 13=.int .i64 1/\S 14=.int .i64 4/\S 15=.int .i64 0) ?_ ?_
 .simp[s1,s2,s3,s4,s5,s6,s7,s8,s9,bJ,bC,cK];refine oc a ?_;simp[bm,av,ai,s1,s2,s3,s4,s5,s6,s7,s8,s9,bJ,bC,cK];refine oc q7 ?_;simp[s1,s2,s3,s4,s5,s6,s7,s8,s9,bJ,bC,cK]
 clear s1 s2 s3 s4 s5 s6 s7 s8 s9 bJ bC cK S H;rintro S H ⟨s1,s2,s3,s4,s5,s6,s7,s8,s9,bJ,bC,cK,dH,eg,ki⟩;refine aK (λS H=>S 1=vI [9]/\S 2=.int .i64 0/\S 3=.slice .view (aY [(1,1),(3,5)])/\S 4=.int .i64 0/\S 5=.int .i64 2/\S 6=.int .i64 0/\S 7=.int .i64 1/\S 8=.int .i64 0/\S 9=.int .i64 1/\S 10=.int .i64 0/\S 11=.int .i64 2/\S 12=.int .i64 0/\S 13=.int .i64 1/\S 14=.int .i64 4/\S 15=.int .i64 0/\S 16=.int .i64 3/\S 17=.int .i64 0) ?_ ?_
 .simp[s1,s2,s3,s4,s5,s6,s7,s8,s9,bJ,bC,cK,dH,eg,ki];refine oc b ?_;simp[bm,av,ai,s1,s2,s3,s4,s5,s6,s7,s8,s9,bJ,bC,cK,dH,eg,ki];refine oc q8 ?_;simp[s1,s2,s3,s4,s5,s6,s7,s8,s9,bJ,bC,cK,dH,eg,ki]
 clear s1 s2 s3 s4 s5 s6 s7 s8 s9 bJ bC cK dH eg ki S H;rintro S H ⟨s1,s2,s3,s4,s5,s6,s7,s8,s9,bJ,bC,cK,dH,eg,ki,fP,kT⟩;refine aK (λS H=>S 1=vI [9]/\S 2=.int .i64 0/\S 3=.slice .view (aY [(1,1),(3,5)])/\S 4=.int .i64 0/\S 5=.int .i64 2/\S 6=.int .i64 0/\S 7=.int .i64 1/\S 8=.int .i64 0/\S 9=.int .i64 1/\S 10=.int .i64 0/\S 11=.int .i64 2/\S 12=.int .i64 0/\S 13=.int .i64 1/\S 14=.int .i64 4/\S 15=.int .i64 0/\S 16=.int .i64 3/\S 17=.int .i64 0/\S 18=.int .i64 1/\S 19=.int .i64 0) ?_ ?_
 .simp[s1,s2,s3,s4,s5,s6,s7,s8,s9,bJ,bC,cK,dH,eg,ki,fP,kT];refine oc a ?_;simp[bm,av,ai,s1,s2,s3,s4,s5,s6,s7,s8,s9,bJ,bC,cK,dH,eg,ki,fP,kT];refine oc q9 ?_;simp[s1,s2,s3,s4,s5,s6,s7,s8,s9,bJ,bC,cK,dH,eg,ki,fP,kT]
 clear s1 s2 s3 s4 s5 s6 s7 s8 s9 bJ bC cK dH eg ki fP kT S H;rintro S H ⟨s1,s2,s3,s4,s5,s6,s7,s8,s9,bJ,bC,cK,dH,eg,ki,fP,kT,kV,rB⟩;refine aK (λS H=>S 1=vI [9]/\S 2=.int .i64 0/\S 3=.slice .view (aY [(1,1),(3,5)])/\S 4=.int .i64 0/\S 5=.int .i64 2/\S 6=.int .i64 0/\S 7=.int .i64 1/\S 8=.int .i64 0/\S 9=.int .i64 1/\S 10=.int .i64 0/\S 11=.int .i64 2/\S 12=.int .i64 0/\S 13=.int .i64 1/\S 14=.int .i64 4/\S 15=.int .i64 0/\S 16=.int .i64 3/\S 17=.int .i64 0/\S 18=.int .i64 1/\S 19=.int .i64 0/\S 20=.int .i64 4/\S 21=.int .i64 2/\S 22=.int .i64 0) ?_ ?_
 .simp[s1,s2,s3,s4,s5,s6,s7,s8,s9,bJ,bC,cK,dH,eg,ki,fP,kT,kV,rB];refine oc b ?_;simp[bm,av,ai,s1,s2,s3,s4,s5,s6,s7,s8,s9,bJ,bC,cK,dH,eg,ki,fP,kT,kV,rB];refine oc q10 ?_;simp[s1,s2,s3,s4,s5,s6,s7,s8,s9,bJ,bC,cK,dH,eg,ki,fP,kT,kV,rB]
 clear s1 s2 s3 s4 s5 s6 s7 s8 s9 bJ bC cK dH eg ki fP kT kV rB S H;rintro S H ⟨s1,s2,s3,s4,s5,s6,s7,s8,s9,bJ,bC,cK,dH,eg,ki,fP,kT,kV,rB,sW,ja,ky⟩;refine aK (λS H=>S 1=vI [9]/\S 2=.int .i64 0/\S 3=.slice .view (aY [(1,1),(3,5)])/\S 4=.int .i64 0/\S 5=.int .i64 2/\S 6=.int .i64 0/\S 7=.int .i64 1/\S 8=.int .i64 0/\S 9=.int .i64 1/\S 10=.int .i64 0/\S 11=.int .i64 2/\S 12=.int .i64 0/\S 13=.int .i64 1/\S 14=.int .i64 4/\S 15=.int .i64 0/\S 16=.int .i64 3/\S 17=.int .i64 0/\S 18=.int .i64 1/\S 19=.int .i64 0/\S 20=.int .i64 4/\S 21=.int .i64 2/\S 22=.int .i64 0/\S 23=vI [1]/\S 24=.int .i64 0) ?_ ?_
 .simp[s1,s2,s3,s4,s5,s6,s7,s8,s9,bJ,bC,cK,dH,eg,ki,fP,kT,kV,rB,sW,ja,ky];refine oc a ?_;simp[bm,av,ai,s1,s2,s3,s4,s5,s6,s7,s8,s9,bJ,bC,cK,dH,eg,ki,fP,kT,kV,rB,sW,ja,ky];refine oc q11 ?_;simp[s1,s2,s3,s4,s5,s6,s7,s8,s9,bJ,bC,cK,dH,eg,ki,fP,kT,kV,rB,sW,ja,ky]
 clear s1 s2 s3 s4 s5 s6 s7 s8 s9 bJ bC cK dH eg ki fP kT kV rB sW ja ky S H;rintro S H ⟨s1,s2,s3,s4,s5,s6,s7,s8,s9,bJ,bC,cK,dH,eg,ki,fP,kT,kV,rB,sW,ja,ky,jt,rG⟩;refine aK (λS H=>S 1=vI [9]/\S 2=.int .i64 0/\S 3=.slice .view (aY [(1,1),(3,5)])/\S 4=.int .i64 0/\S 5=.int .i64 2/\S 6=.int .i64 0/\S 7=.int .i64 1/\S 8=.int .i64 0/\S 9=.int .i64 1/\S 10=.int .i64 0/\S 11=.int .i64 2/\S 12=.int .i64 0/\S 13=.int .i64 1/\S 14=.int .i64 4/\S 15=.int .i64 0/\S 16=.int .i64 3/\S 17=.int .i64 0/\S 18=.int .i64 1/\S 19=.int .i64 0/\S 20=.int .i64 4/\S 21=.int .i64 2/\S 22=.int .i64 0/\S 23=vI [1]/\S 24=.int .i64 0/\S 25=.box 25 0/\H 25=some (av uk)/\S 26=.int .i64 0) ?_ ?_
 .simp[s1,s2,s3,s4,s5,s6,s7,s8,s9,bJ,bC,cK,dH,eg,ki,fP,kT,kV,rB,sW,ja,ky,jt,rG];refine oc q12 ?_;simp[bm,av,ai,s1,s2,s3,s4,s5,s6,s7,s8,s9,bJ,bC,cK,dH,eg,ki,fP,kT,kV,rB,sW,ja,ky,jt,rG]
 clear s1 s2 s3 s4 s5 s6 s7 s8 s9 bJ bC cK dH eg ki fP kT kV rB sW ja ky jt rG S H;rintro S H ⟨s1,s2,s3,s4,s5,s6,s7,s8,s9,bJ,bC,cK,dH,eg,ki,fP,kT,kV,rB,sW,ja,ky,jt,rG,ft,EW,gx⟩;refine aK (λS H=>S 1=vI [9]/\S 3=.slice .view (aY [(1,1),(3,5)])/\S 5=.int .i64 2/\S 7=.int .i64 1/\S 9=.int .i64 1/\S 11=.int .i64 2/\S 13=.int .i64 1/\S 14=.int .i64 4/\S 16=.int .i64 3/\S 18=.int .i64 1/\S 20=.int .i64 4/\S 21=.int .i64 2/\S 23=vI [1]/\S 25=.box 25 0/\H 25=some (av uk)) ?_ ?_
 .simp[s1,s3,s5,s7,s9,bC,dH,eg,fP,kV,sW,ja,jt,ft,EW,s2,s4,s6,s8,bJ,cK,ki,kT,rB,ky,rG,gx]
 clear s1 s3 s5 s7 s9 bC dH eg fP kV sW ja jt ft EW s2 s4 s6 s8 bJ cK ki kT rB ky rG gx S H;rintro S H ⟨s1,s3,s5,s7,s9,bC,dH,eg,fP,kV,sW,ja,jt,ft,EW⟩;refine aK (λS H=>S 16=.int .i64 3/\S 18=.int .i64 1/\S 20=.int .i64 4/\S 21=.int .i64 2/\S 23=vI [1]/\S 25=.box 25 0/\H 25=some (av uk)) ?_ ?_
 .simp[s1,s3,s5,s7,s9,bC,dH,eg,fP,kV,sW,ja,jt,ft,EW,aG];refine oc p1 ?_;simp[s1,s3,s5,s7,s9,bC,dH,eg,fP,kV,sW,ja,jt,ft,EW,aG,bI];refine oc p2 ?_;simp[s1,s3,s5,s7,s9,bC,dH,eg,fP,kV,sW,ja,jt,ft,EW,aG,bI]
 clear s1 s3 s5 s7 s9 bC dH eg fP kV sW ja jt ft EW S H;rintro S H ⟨fP,kV,sW,ja,jt,ft,EW⟩;simp[fP,kV,sW,ja,jt,ft,EW,aG];refine oc p3 ?_;simp[fP,kV,sW,ja,jt,ft,EW,aG,bI];refine oc q13 ?_;simp[Fc]
def ac3(hG:ar GI)(hT:TB GI)(pD:ML GI)(s:az):AC prog GI 3 [bm s] (.ret (.bool true)):=by
 have k:=ac7 hG hT pD;have BY:=ac6 (GI:=GI) hG s
 cases fE:zn s with
 |false=>
  rw[fE]at BY;refine cw hG func3 ntmps3 c3 ?_;simp[c3,bm,av,ai];refine oc BY ?_;simp;refine oc k ?_;simp
 |true=>
 rw[fE]at BY;obtain⟨hs,kJ,u_⟩:=HS fE;have VW:=ac9 (GI:=GI) hG s hs
 cases hI:dn s with
 |false=>
  have ZD:=Wf (GI:=GI) hG s hs hI;rw[hI]at VW;refine cw hG func3 ntmps3 c3 ?_;simp[c3,bm,av,ai];refine oc BY ?_;simp[av,ai];refine oc ZD ?_;simp[av,ai];refine oc VW ?_;simp;refine oc k ?_;simp
 |true=>
 have hl:=BN hI;have hn:=qf hI;have ZD:=VC (GI:=GI) hG hT s hs hI zo;have q63:=WR (GI:=GI) hG hT pD (lj s);have q64:=KE (GI:=GI) hG hT s.name hs.name hn;have q65:=Wn (GI:=GI) hG s (su hI) zo (pk hn) (GR hs.name hn) zo;have q66:=XB (GI:=GI) hG s hs;rw[Hx hI]at q63;rw[hI]at VW;have ht:lj s=ic s++iM s.name:=rfl
 generalize lj s=t at*
 generalize iM s.name=B at*
 generalize ic s=A at*
 have hlen:t.length=A.length+B.length:=by rw[ht,adC]
 have kg:¬(t.length:Int)<B.length:=zo
 have jB:IntKind.i64.wrap ((t.length:Int)-B.length)=(A.length:Nat):=by
  rw[aT zo];omega
 have hc4:A.length<=t.length:=zo
 have P4:t.drop A.length=B:=by rw[ht,List.drop_left]
 refine cw hG func3 ntmps3 c3 ?_;refine aK (λS H=>S 1=.box 1 0/\H 1=some (av s)) (by simp[bm,av,ai]) ?_;rintro S H ⟨s1,h1⟩;refine aK (λS H=>S 1=.box 1 0/\H 1=some (av s)) ?_ ?_
 .simp[s1,h1,av,ai];refine oc BY ?_;simp[s1,h1,av,ai]
 clear s1 h1 S H;rintro S H ⟨s1,h1⟩;refine aK (λS H=>S 1=.box 1 0/\H 1=some (av s)/\S 3=.str t/\S 4=.int .i64 0) ?_ ?_
 .simp[s1,h1,av,ai];refine oc ZD ?_;simp[s1,h1,av,ai]
 clear s1 h1 S H;rintro S H ⟨s1,h1,s3,s4⟩;refine aK (λS H=>S 1=.box 1 0/\H 1=some (av s)/\S 3=.str t/\S 4=.int .i64 0) ?_ ?_
 .simp[s1,h1,av,ai];refine oc VW ?_;simp[s1,h1,s3,s4,av,ai]
 clear s1 h1 s3 s4 S H;rintro S H ⟨s1,h1,s3,s4⟩;refine aK (λS H=>S 1=.box 1 0/\H 1=some (av s)/\S 3=.str t/\S 4=.int .i64 0/\S 5=.box 5 0/\H 5=some (av s)/\S 6=.int .i64 0) ?_ ?_
 .simp[s1,h1,s3,s4,av,ai];refine oc q63 ?_;simp[s1,h1,s3,s4,bm,av,ai]
 clear s1 h1 s3 s4 S H;rintro S H ⟨s1,h1,s3,s4,s5,h5,s6⟩;refine aK (λS H=>S 1=.box 1 0/\H 1=some (av s)/\S 3=.str t/\S 4=.int .i64 0/\S 5=.box 5 0/\H 5=some (av s)/\S 6=.int .i64 0/\S 7=.str B/\S 8=.int .i64 0) ?_ ?_
 .simp[s1,h1,s3,s4,s5,h5,s6,av,ai];refine oc q64 ?_;simp[s1,h1,s3,s4,s5,h5,s6,av,ai]
 clear s1 h1 s3 s4 s5 h5 s6 S H;rintro S H ⟨s1,h1,s3,s4,s5,h5,s6,s7,s8⟩;refine aK (λS H=>S 3=.str t/\S 7=.str B) ?_ ?_
 .simp[s1,h1,s3,s4,s5,h5,s6,s7,s8,av,ai];refine oc q65 ?_;simp[s1,h1,s3,s4,s5,h5,s6,s7,s8,av,ai];refine oc q66 ?_;simp[s1,h1,s3,s4,s5,h5,s6,s7,s8,kg,av,ai]
 clear s1 h1 s3 s4 s5 h5 s6 s7 s8 S H;rintro S H ⟨s3,s7⟩;simp[s3,s7,jB,P4,hc4,bound];refine oc k ?_;simp
end Go.Proofs.Tryz
namespace Go.Proofs.YtajdcjkalbbogaaGreatDoor
open Go Go.AL Go.ChangeShapes Go.WideShapes Go.ChangeAt Go.RowKit Go.Proofs.Tryz
namespace Prints
abbrev row:OpenClaim:=Rows.tramPrintsRow
abbrev spec:ChangeSpec:=Rows.tramPrintsSpec
def call (W:World) (base:Nat) (args:Array Value) {H:Type} {enc:TypeId×Value→H} (ds:List (DataW H)) (p:List MemPlace) (hG:GT W) (Gc:∀ (j:Nat) t v,Tryz.f3.params[j]? = some t→args[j]? = some v→Value.okWide Tryz.prog W .any base t v)
  (hA:DataW.TrodAll enc Tryz.prog W 0 (λ_=>true) true Tryz.f3.params.toList args.toList ds p):Calls Tryz.prog 3 args W λe W'=>e=.returned (.bool true)/\Below W.heap.size W W':=by
 rw[Tryz.params3]at hA Gc;obtain⟨v0,RN,d0,ds0,p0,q0,e0,rfl,rfl,h0,LF⟩:=trodAll_cons hA;obtain⟨rfl,rfl,rfl⟩:=trodAll_nil LF
 obtain rfl:args=#[v0]:=by
  apply Array.toList_inj.1;rw[e0]
 obtain⟨x0,g0,a0⟩:=GA (Gc 0 31 v0 rfl rfl) h0
 refine Q4 (ac3 Mo (λ_ h=>h.2) (λ_ h=>h.1) x0) hG rfl λi h h'=>?_
 match i,h with
 |0,_=>exact .data _ _ a0
def w1(os:Os):((World.laidAll Tryz.prog os row.laid).forCall (λ_ _=>0) ⟨#[],#[.agg #[.slice none 0 0,.int .i64 0,.int .i64 0,.int .i64 0,.int .i64 0,.slice none 0 0,.slice none 0 0,.int .i64 0,.int .i64 0,.int .i64 0,.int .i64 0,.int .i64 0,.slice none 0 0,.int .i64 0,.int .i64 0]],[]⟩).Shaped Tryz.checked.prog:=
 World.shaped_of_ZipB zk zk
def lifted (os:Os) (started:os.Started) (H:Type) (enc:TypeId×Value→H) :
  ReturnsInHanded {} Tryz.checked os 3 .any (λw args=>(spec.pre enc Tryz.prog Tryz.f3 row.domain false w args/\laidMetH Tryz.prog row.laid w)/\sizedMet enc Tryz.prog Tryz.f3 (OpenSpec.ofChange spec) false w args)
   (spec.post enc Tryz.prog Tryz.f3 false true false false):=by
 refine Kg 3 Tryz.f3 Tryz.func3 zk zk spec rfl ?_ ?_ os started _ 12 (w1 os) zk zk zk ?_ (λW base args ds p=>call W base args ds p)
 .intro ds hl;rw[show Tryz.f3.params.size=1 by kernel_rfl]at hl
  match ds,hl with
  |[d0],_=>rfl
 .rw[Tryz.params3];intro t ht
  have:t=31:=by simpa using ht
  rcases this with rfl
  all_goals exact⟨zk,afi zk⟩
 .rw[agJ _ _ _ zk];exact laidMet_laidAll _ zk zk
def JW:Tryz.prog.funcNamed "mahlstick/mahlsticklaw09.TramPrints" = some 3:=by kernel_rfl
def Oc:(row.inPlace==Tryz.prog.inPlace 3)=true:=by kernel_rfl
def EN:(row.unfollowed==Tryz.prog.unfollowed 3)=true:=by kernel_rfl
def K_:(row.recurses==Tryz.prog.recurses 3)=true:=by kernel_rfl
def U4:(row.named==Tryz.prog.varsNamed 3)=true:=by kernel_rfl
def Vl:joinedFacts Tryz.prog 3 Tryz.f3 spec row=true:=
 Oy ⟨rfl,rfl,rfl,rfl,rfl,rfl⟩ zk zk zk Oc EN K_ U4 zk zk zk zk
def Jl:Tryz.f3.isInstance Tryz.prog row.origin row.targs:=afi zk
def My:Tryz.f3.isWrapper Tryz.prog row.wrapper row.mainSum:=by
 unfold Func.isWrapper;rw[if_neg (by decide+kernel)];exact⟨rfl,rfl⟩
def holds:Rows.TramPrintsSaid:=
 OpenClaim.holds_of_wide 3 Tryz.f3 rfl rfl rfl rfl rfl rfl rfl ⟨rfl,rfl,rfl,rfl,rfl⟩ rfl rfl rfl rfl rfl JW Tryz.func3 Vl Jl My (λos started H enc _=>lifted os started H enc)
def abu:row.wfByText (OpenSpec.ofChange spec)=true:=by kernel_rfl
def Wa:false=row.goesBy Tryz.prog:=by kernel_rfl
def RW:([31].all λu=>!Tryz.prog.wantsStandIn u)=true:=by kernel_rfl
def VH:Tryz.prog.mainIs=some (true, "82171092be9143676f45a3056eb5c6b4af787ddf9532c329b36358d498a216de".toList):=by rw [PT,Xp]
def card:Rows.TramPrintsCardSaid:=
 Claim7.holds_tied_plain_at .later [] [.data,.data,.data,.data,.pinned] true (true, "82171092be9143676f45a3056eb5c6b4af787ddf9532c329b36358d498a216de") true holds (λ_ h=>by cases h) abu (λ_ h=>by cases h) tramPrints_row_tie rfl ⟨rfl,rfl⟩ VH rfl
  (λf fn hf UE=>by
   obtain rfl:f=3:=adM (JW.symm.trans hf)|>.symm
   obtain rfl:fn=Tryz.f3:=(adM (Tryz.func3.symm.trans UE)).symm;refine⟨Uc,λj t ht=>?_⟩;rw[Tryz.params3]at ht
   have hm:t∈[31]:=by
    simpa using aen ht
   exact(show Tryz.prog.wantsStandIn t=false by simpa using adw.1 RW t hm))
  Wa
end Prints
#print axioms Prints.card
end Go.Proofs.YtajdcjkalbbogaaGreatDoor
