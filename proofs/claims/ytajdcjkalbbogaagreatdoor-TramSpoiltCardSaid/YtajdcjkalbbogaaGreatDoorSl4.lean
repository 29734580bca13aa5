/-
  For all tram sheets, a byte and a digit the call of TramSpoilt returns true, and each argument reads behind the call as it read before. Conditions: none beyond those of the given card.
-/
import Derived.Test.YtajdcjkalbbogaaGreatDoorSl3
set_option maxRecDepth 100000
set_option maxHeartbeats 8000000
set_option linter.all false
namespace Go.Proofs.Tryz
open Go Go.AL Go.RowKit Go.Proofs Go.Proofs.Tram
attribute [local simp] ez fF qt oH eM ea eb dG dH eU dI da gZ g_ aF aD ev aP.S aP.H bt au aW AL.start AV.cells AV.storable AV.ct bC cb dU cd HR.okB post cH db c_ AV.out AV.b_ cU d_ fz ia AV.vw cW vI int cy aN di dQ iC jw eP dW bD tZ ue jn
variable{GI:World->Prop}
def fb:aw:=⟨[],0,0,0,0,cK⟩
def LK:List UInt8:=[121,101,115]
def pM(x:aw)(r:List UInt8):Except (List UInt8) aw:=match aZ 32 r with
 |[_,a,b,c,d]=>dv (eS a) λa=>dv (eS b) λb=>dv (eS c) λc=>dv (eS d) λd=>.ok { x with pos:=a,reach:=b,eZ:=c,dS:=d }
 |_=>.error r
def pH(x:aw)(r:List UInt8):Except (List UInt8) aw:=match aZ 32 r with
 |[_,a,b,c]=>dv (eS a) λa=>dv (eS b) λb=>.ok { x with cells:=x.cells++[⟨a,b,c==LK⟩] }
 |_=>.error r
def gh(x:Nat×aw)(r:List UInt8):Except (List UInt8) (Nat×aw):=
 if x.1=0 then dv (pM x.2 r) λy=>.ok (1,y)else dv (pH x.2 r) λy=>.ok (x.1+1,y)
def jN(t:List UInt8):Except (List UInt8) (aw×List UInt8):=
 if firstT eW (aZ 10 t)<=0 then .error t
 else dv (fu gh (0,fb) ((aZ 10 t).take (firstT eW (aZ 10 t)).toNat)) λx=>if pv t (ec x.2)then .ok (x.2,t.drop (ec x.2).length)else .error t
def Sj:Except (List UInt8) (aw×List UInt8)->iK
 |.ok x=>.ret (.dY [bm x.1,.str x.2])
 |.error e=>.panic (lT e)
def Oc{x:aw}{r:List UInt8}(h:(aZ 32 r).length≠5):pM x r=.error r:=by
 unfold pM;split
 .rename_i hh;rw[hh]at h;exact absurd rfl h
 .rfl
def Ns{x:aw}{r:List UInt8}(h:(aZ 32 r).length≠4):pH x r=.error r:=by
 unfold pH;split
 .rename_i hh;rw[hh]at h;exact absurd rfl h
 .rfl
def YN{α:Type}{l:List α}(h:l.length=5):∃a b c d e,l=[a,b,c,d,e]:=by
 match l,h with
 |[a,b,c,d,e],_=>exact⟨a,b,c,d,e,rfl⟩
def aah{α:Type}{l:List α}(h:l.length=4):∃a b c d,l=[a,b,c,d]:=by
 match l,h with
 |[a,b,c,d],_=>exact⟨a,b,c,d,rfl⟩
def fO{w:List UInt8}{n:Int}(h:eS w=.ok n):mH n:=by
 unfold eS at h;split at h
 .rename_i hw;cases h;obtain⟨_,h2,h3,_⟩:=v_.1 hw;exact zE w h3 h2
 .cases h
def tW(x:aw):List AV:=[grow 67 (x.cells.map fY),.int .i64 x.pos,.int .i64 x.reach,.int .i64 x.eZ,.int .i64 x.dS,.slice .nil [],.slice .nil [],.int .i64 0,.int .i64 0,.int .i64 0,.int .i64 0,.int .i64 0,.slice .nil [],.int .i64 0,.int .i64 0]
def Wk(l:List fZ):aG 3 (l.map fY)=true:=iE λa=>⟨rfl,rfl⟩
structure vE(t:List UInt8)(L:List (List UInt8))(j:Nat)(x:aw)(S:an)(H:ao):Prop where
 s0:S 0=.str t
 s2:S 2=.box 2 0
 e2:H 2=some (tW fb)
 s6:S 6=.box 6 0
 e6:H 6=some (tW x)
 iY:S 21=strs L
 kh:S 22=.int .i64 (L.length:Nat)
 jt:S 23=.int .i64 (j:Nat)
structure M7(j:Nat)(x:aw):Prop where
 num:kK x
 SE:x.cells.length<=j
 name:x.name=cK
noncomputable def rz:af:=af.qb c42.qb.qb.qb.qb.qb.qa.qb.qb
noncomputable def sq:af:=af.qb rz.qb.qb.qa
noncomputable def ur:af:=af.qb sq.qb
noncomputable def ug:af:=af.qa ur.qa.qb
noncomputable def yt:List bI:=ug.qb.qa.dl
noncomputable def CL:List bI:=ur.qb.qb.dl
def abW(hG:ar GI)(ot:ML GI)(t:List UInt8)(ht:t.length<=530):AC prog GI 42 [.str t] (Sj (jN t)):=by
 have D2:=lM 10 t
 have SC:∀p∈aZ 10 t,p.length<=530:=λp hp=>by have:=kJ hp;omega
 have a164:=J0 ot t 10 zo;have Gt:=aaF (GI:=GI) hG (aZ 10 t) zo
 have qR:firstT eW (aZ 10 t)<=(aZ 10 t).length:=by
  unfold firstT;split
  .have:=List.findIdx_le_length (p:=eW) (xs:=aZ 10 t);omega
  .omega
 have UT: -1<=firstT eW (aZ 10 t):=by unfold firstT;split<;>omega
 refine AC.ji func42 rfl ntmps42 ahB λcc w=>?_
 refine dT hG c42.qa (λS' H'=>S' 0=.str t/\S' 2=.box 2 0/\H' 2=some (tW fb)) ?_ ?_
 .simp[c42,af.qa,ah,ae,tW,fb,grow]
 rintro S H ⟨s0,s2,e2⟩;refine dT hG c42.qb.qa (λS' H'=>S' 0=.str t/\S' 2=.box 2 0/\H' 2=some (tW fb)/\S' 4=strs (aZ 10 t)) ?_ ?_
 .simp[c42,af.qa,af.qb,ah,ae,s0,s2,e2];refine oc a164 ?_;simp[ah,ae,s0,s2,e2,strs]
 clear s0 s2 e2 S H;rintro S H ⟨s0,s2,e2,s4⟩
 have G8:jN t=if firstT eW (aZ 10 t)<=0 then .error t
 else dv (fu gh (0,fb) ((aZ 10 t).take (firstT eW (aZ 10 t)).toNat)) λx=>if pv t (ec x.2)then .ok (x.2,t.drop (ec x.2).length)else .error t:=rfl
 rw[G8]
 generalize aZ 10 t=R at*
 generalize firstT eW R=f at*
 refine dT hG c42.qb.qb.qa (λS' H'=>S' 0=.str t/\S' 2=.box 2 0/\H' 2=some (tW fb)/\S' 4=strs R/\S' 5=.int .i64 f) ?_ ?_
 .simp[c42,af.qa,af.qb,ah,ae,s0,s2,e2,s4,strs];refine oc Gt ?_;simp[ah,ae,s0,s2,e2,s4,strs]
 clear s0 s2 e2 s4 S H;rintro S H ⟨s0,s2,e2,s4,s5⟩
 by_cases h0:f<=0
 .rw[if_pos h0]
  have aq:¬0<f:=zo
  refine SW.seq (SW.fP hG de zk (λ_ _ h=>h) (ac:=af.qa c42.qb.qb.qb) zk ?_);unfold fa.bB;simp[c42,af.qa,af.qb,ah,ae,s0,s5,aq];refine oc (Ea hG t) ?_;simp[eY,thenS,oz,Sj,lT]
  first|exact⟨rfl,rfl⟩|exact⟨rfl,rfl,rfl⟩
 rw[if_neg h0]
 have aq:0<f:=zo
 refine dT hG c42.qb.qb.qb.qa (λS' H'=>S' 0=.str t/\S' 2=.box 2 0/\H' 2=some (tW fb)/\S' 4=strs R/\S' 5=.int .i64 f) ?_ ?_
 .simp[c42,af.qa,af.qb,ah,ae,s0,s5,aq];refine oc (KG hG t) ?_;simp[ah,ae,s0,s2,e2,s4,s5,strs]
 clear s0 s2 e2 s4 s5 S H;rintro S H ⟨s0,s2,e2,s4,s5⟩;refine dT hG c42.qb.qb.qb.qb.qa (λS' H'=>S' 0=.str t/\S' 2=.box 2 0/\H' 2=some (tW fb)/\S' 4=strs R/\S' 5=.int .i64 f/\S' 6=.box 6 0/\H' 6=some (tW fb)) ?_ ?_
 .simp[c42,af.qa,af.qb,ah,ae,s0,s2,e2,s4,s5,strs,tW,fb,grow]
 clear s0 s2 e2 s4 s5 S H;rintro S H ⟨s0,s2,e2,s4,s5,s6,e6⟩
 obtain⟨n,rfl⟩:∃n:Nat,f=n:=⟨f.toNat,zo⟩
 obtain⟨L,hL⟩:∃L,R.take n=L:=⟨_,rfl⟩
 have Qe:L.length=n:=by rw[<-hL,adS];omega
 have VW:∀p∈L,p.length<=530:=λp hp=>SC p (by rw[<-hL]at hp;exact aef hp)
 rw[Int.toNat_natCast,hL];show SW prog GI 94 none (.seq (.seq _ (.block 0 (.loop _))) (.seq _ (.seq _ (.seq _ .ret)))) _ _ _ _;refine SW.seq (dT hG c42.qb.qb.qb.qb.qb.qa.qa (vE t L 0 fb) ?_ ?_)
 .have Pa:(R.map AV.str).take n=L.map AV.str:=by rw[<-afv,hL]
  have hnR:(n:Int)<=R.length:=zo
  have abw:n<=R.length:=zo
  simp[c42,af.qa,af.qb,ah,ae,s0,s2,e2,s4,s5,s6,e6,strs,hnR,abw,Pa,bound,gr];exact⟨by simp[ah,ae,s0],by simp[ah,ae,s2],by simp[ah,ae,e2],by simp[ah,ae,s6],by simp[ah,ae,e6],by simp[ah,ae,strs,Pa],by simp[ah,ae,Qe],by simp[ah,ae]⟩
 clear s0 s2 e2 s4 s5 s6 e6 S H;intro S H hI
 have bK:∀d,¬(Old.plain cc w).bx d:=λ_ h=>h
 refine SW.block (SW.loop (λo S' H'=>o=Old.plain cc w/\∃j x,j<=L.length/\fu gh (0,fb) (L.take j)=.ok (j,x)/\M7 j x/\vE t L j x S' H') (λS' _=>match S' 23 with|.int _ j=>L.length-j.toNat|_=>0) ⟨rfl,0,fb,aeu _,rfl,⟨⟨λn hn=>by simp[ep,fb]at hn;rcases hn with rfl|rfl|rfl|rfl<;>exact⟨zd,zd⟩,by simp[fb]⟩,aeu _,rfl⟩,hI⟩ ?_);clear hI S H;rintro o S H ⟨rfl,j,x,hj,hf,bV,hI⟩;have m23:=hI.jt;show SW prog GI 94 none (.seq _ (.seq (.cond _ _ _) (.seq (.block 1 _) _))) _ _ _ _;refine pz hG rz.qa (λd _=>bK d) (λS' H'=>S' 24=.bool (decide (j<L.length))/\vE t L j x S' H') ?_ ?_
 .obtain⟨s0,s2,e2,s6,e6,iY,kh,jt⟩:=hI;simp[c42,rz,af.qa,af.qb,ah,ae,kh,jt];exact⟨by simp[ah,ae,s0],by simp[ah,ae,s2],e2,by simp[ah,ae,s6],e6,by simp[ah,ae,iY],by simp[ah,ae,kh],by simp[ah,ae,jt]⟩
 clear hI;rintro S H ⟨rM,hI⟩
 by_cases aq:j<L.length
 case neg=>
  have qP:j=L.length:=zo
  rw[qP,adI (adF _)]at hf;rw[hf];refine SW.seq (SW.cond rfl false (by show S 24=_;rw[rM];simp[aq]) (SW.exit ?_));show SW prog GI 94 none (.seq _ (.seq _ (.seq _ .ret))) _ _ _ _;have WK:=Xl (GI:=GI) hG x bV.num (by have:=bV.SE;omega);have Cm:=bV.name;obtain⟨s0,s2,e2,s6,e6,iY,kh,jt⟩:=hI
  obtain⟨u,hu⟩:∃u,ec x=u:=⟨_,rfl⟩
  have Hr:pv t u=true->u.length<=t.length:=λh=>by unfold pv at h;rw[adE,adL]at h;exact h.1
  simp only[dv,hu];rw[hu]at WK;refine pz hG c42.qb.qb.qb.qb.qb.qb.qa (λd _=>bK d) (λS' H'=>S' 0=.str t/\S' 2=.box 2 0/\H' 2=some (tW fb)/\S' 6=.box 6 0/\H' 6=some (tW x)/\S' 10=.str u) ?_ ?_
  .simp[c42,af.qa,af.qb,ah,ae,s6,e6,tW];refine oc (by simpa[bm,az,ai,Cm,cK,vI,ints]using WK) ?_;simp[ah,ae,s0,s2,e2,s6,e6,tW]
  clear s0 s2 e2 s6 e6 iY kh jt rM m23 S H;rintro S H ⟨s0,s2,e2,s6,e6,bJ⟩;have a167:=Xy (GI:=GI) hG t u;cases hp:pv t u
  .rw[hp]at a167;refine SW.seq (SW.fP hG de zk (λd _=>bK d) (ac:=af.qa c42.qb.qb.qb.qb.qb.qb.qb) zk ?_);unfold fa.bB;simp[c42,af.qa,af.qb,ah,ae,s0,bJ];refine oc a167 ?_;simp[ah,ae,s0];refine oc (Ea hG t) ?_;simp[eY,thenS,oz,Sj,lT]
   first|exact⟨rfl,rfl⟩|exact⟨rfl,rfl,rfl⟩
  rw[hp]at a167;have Hr:=Hr hp;refine pz hG c42.qb.qb.qb.qb.qb.qb.qb.qa (λd _=>bK d) (λS' H'=>S' 0=.str t/\S' 2=.box 2 0/\H' 2=some (tW fb)/\S' 6=.box 6 0/\H' 6=some (tW x)/\S' 10=.str u) ?_ ?_
  .simp[c42,af.qa,af.qb,ah,ae,s0,bJ];refine oc a167 ?_;simp[ah,ae,s0];refine oc (KG hG t) ?_;simp[ah,ae,s0,s2,e2,s6,e6,bJ]
  clear s0 s2 e2 s6 e6 bJ S H;rintro S H ⟨s0,s2,e2,s6,e6,bJ⟩;refine pz hG c42.qb.qb.qb.qb.qb.qb.qb.qb.qa (λd _=>bK d) (λS' H'=>S' 2=.box 2 0/\H' 2=some ((tW x).map AV.aI)/\S' 3=.str (t.drop u.length)) ?_ ?_
  .simp[c42,af.qa,af.qb,ah,ae,s0,s2,e2,s6,e6,bJ,tW,bound,Hr]
  clear s0 s2 e2 s6 e6 bJ S H;rintro S H ⟨s2,e2,s3⟩;obtain⟨i31,oa,nC⟩:=iZ 31 15;obtain⟨fs,fH⟩:=uZ 31;refine SW.ret ⟨eo.plain rfl,rfl,.dY [bm x,.str (t.drop u.length)],?_,rfl⟩;show cH prog 94 [.cell 2 31,_] S H=_;simp[cH,db,c_,s2,e2,s3,oa,fH,nC,cd,eh,tW,AV.out,jn,AV.b_,AV.vw,ue,tZ,bm,az,Cm,cK,ai,vI,ints]
 case pos=>
  obtain⟨r,hr⟩:∃r,L[j]=r:=⟨_,rfl⟩
  have xA:r.length<=530:=by rw[<-hr];exact VW _ (adC aq)
  have TW:=J0 ot r 32 zo;refine SW.seq (SW.cond rfl true (by show S 24=_;rw[rM];simp[aq]) (SW.skip ?_));clear rM;show SW prog GI 94 none (.seq (.block 1 (.seq _ (.seq _ (.seq (.seq _ (.cond _ (.seq _ (.seq _ (.exit 1))) .skip)) (.seq _ _))))) _) _ _ _ _;refine SW.seq (SW.block (pz hG sq.qa (λd _=>bK d) (λS' H'=>S' 7=.int .i64 (j:Nat)/\S' 8=.str r/\vE t L j x S' H') ?_ ?_))
  .obtain⟨s0,s2,e2,s6,e6,iY,kh,jt⟩:=hI;simp[c42,rz,sq,af.qa,af.qb,ah,ae,iY,jt,strs,aq,hr];exact⟨by simp[ah,ae,s0],by simp[ah,ae,s2],e2,by simp[ah,ae,s6],e6,by simp[ah,ae,iY,strs],by simp[ah,ae,kh],by simp[ah,ae,jt]⟩
  clear hI;rintro S H ⟨s7,s8,hI⟩
  obtain⟨ws,DS⟩:∃ws,aZ 32 r=ws:=⟨_,rfl⟩
  have DP:∀p∈ws,p.length<1000000:=λp hp=>by have:=kJ (c:=32) (l:=r) (p:=p) (by rw[DS];exact hp);omega
  rw[DS]at TW;refine pz hG sq.qb.qa (λd _=>bK d) (λS' H'=>S' 7=.int .i64 (j:Nat)/\S' 8=.str r/\S' 9=strs ws/\vE t L j x S' H') ?_ ?_
  .obtain⟨s0,s2,e2,s6,e6,iY,kh,jt⟩:=hI;simp[c42,rz,sq,af.qa,af.qb,ah,ae,s8];refine oc TW ?_;simp[ah,ae,s7,s8,strs];exact⟨by simp[ah,ae,s0],by simp[ah,ae,s2],e2,by simp[ah,ae,s6],e6,by simp[ah,ae,iY,strs],by simp[ah,ae,kh],by simp[ah,ae,jt]⟩
  clear hI s7 s8 S H;rintro S H ⟨s7,s8,s9,hI⟩;refine SW.mono (Q:=λe o S' H'=>o=Old.plain cc w/\match e with|.normal=>∃y,gh (j,x) r=.ok (j+1,y)/\M7 (j+1) y/\vE t L j y S' H'|.exit i=>i=1/\∃y,gh (j,x) r=.ok (j+1,y)/\M7 (j+1) y/\vE t L j y S' H'|.panic v=>∃er,gh (j,x) r=.error er/\v=lT er|_=>False) ?_ ?_
  .rintro e o S' H' ⟨rfl,h⟩;cases e
   case panic v=>
    obtain⟨er,he,rfl⟩:=h;have eJ:=vh aq hf (by rw[hr];exact he);rw[eJ];exact⟨rfl,rfl,rfl⟩
   case ret=>exact h.elim
   case' exit id=>obtain⟨rfl,h⟩:=h
   all_goals
    obtain⟨y,hy,hk,hI⟩:=h;have uJ:=BA aq hf;rw[hr,hy]at uJ;show SW prog GI 94 none _ _ _ _ _;refine SW.fP hG de zk (λd _=>bK d) (ac:=af.qb rz.qb.qb) zk ?_;unfold fa.bB;obtain⟨s0,s2,e2,s6,e6,iY,kh,jt⟩:=hI;have pZ:IntKind.i64.wrap ((j:Int)+1)=j+1:=aQ zo;simp[c42,rz,sq,af.qa,af.qb,ah,ae,jt,pZ,thenS];refine⟨⟨j+1,zo,y,uJ,hk,by simp[ah,ae,s0],by simp[ah,ae,s2],e2,by simp[ah,ae,s6],e6,by simp[ah,ae,iY],by simp[ah,ae,kh],by simp[ah,ae]⟩,?_⟩;rw[m23];show L.length-((j:Int)+1).toNat<L.length-(j:Int).toNat;omega
  show SW prog GI 94 none (.seq (.seq _ (.cond _ (.seq _ (.seq _ (.exit 1))) .skip)) (.seq _ _)) _ _ _ _;refine SW.seq (pz hG ur.qa.qa (λd _=>bK d) (λS' H'=>S' 31=.bool (decide (j=0))/\S' 8=.str r/\S' 9=strs ws/\vE t L j x S' H') ?_ ?_)
  .obtain⟨s0,s2,e2,s6,e6,iY,kh,jt⟩:=hI
   have hjz:((j:Int)==0)=decide (j=0):=by rw[aep];simp
   simp[c42,rz,sq,ur,af.qa,af.qb,ah,ae,s7,s8,s9,hjz,strs];exact⟨by simp[ah,ae,s0],by simp[ah,ae,s2],e2,by simp[ah,ae,s6],e6,by simp[ah,ae,iY,strs],by simp[ah,ae,kh],by simp[ah,ae,jt]⟩
  clear hI s7 s8 s9 S H;rintro S H ⟨jI,s8,s9,hI⟩
  by_cases hz:j=0
  case pos=>
   have eJ:gh (j,x) r=dv (pM x r) λy=>.ok (j+1,y):=by unfold gh;rw[if_pos hz,hz]
   rw[eJ];refine SW.cond rfl true (by show S 31=_;rw[jI];simp[hz]) ?_;show SW prog GI 94 none (.seq _ (.seq _ (.exit 1))) _ _ _ _
   by_cases h5:ws.length=5
   case neg=>
    rw[Oc (by rw[DS];exact h5)]
    have h5b:((ws.length:Int)==5)=false:=by simp;omega
    refine SW.seq (SW.fP hG de zk (λd _=>bK d) (ac:=af.qa ug) zk ?_);unfold fa.bB;simp[c42,rz,sq,ur,ug,af.qa,af.qb,ah,ae,s8,s9,strs,h5b];refine oc (Ea hG r) ?_;simp[eY,thenS,dv,lT]
    try first|exact⟨rfl,rfl⟩|rfl|exact⟨rfl,rfl,rfl⟩
   obtain⟨w0,wa,wb,wc,wd,rfl⟩:=YN h5
   have X0:pM x r=dv (eS wa) λa=>dv (eS wb) λb=>dv (eS wc) λc=>dv (eS wd) λd=>.ok { x with pos:=a,reach:=b,eZ:=c,dS:=d }:=by unfold pM;rw[DS]
   rw[X0];refine pz hG ug.qa (λd _=>bK d) (λS' H'=>S' 9=strs [w0,wa,wb,wc,wd]/\vE t L j x S' H') ?_ ?_
   .obtain⟨s0,s2,e2,s6,e6,iY,kh,jt⟩:=hI;simp[c42,rz,sq,ur,ug,af.qa,af.qb,ah,ae,s8,s9,strs];refine oc (KG hG r) ?_;simp[ah,ae,s9,strs];exact⟨by simp[ah,ae,s0],by simp[ah,ae,s2],e2,by simp[ah,ae,s6],e6,by simp[ah,ae,iY,strs],by simp[ah,ae,kh],by simp[ah,ae,jt]⟩
   clear hI jI s8 s9 S H;rintro S H ⟨s9,hI⟩;have n1:=Gf (GI:=GI) hG wa (DP _ ahB);have n2:=Gf (GI:=GI) hG wb (DP _ ahB);have n3:=Gf (GI:=GI) hG wc (DP _ ahB);have n4:=Gf (GI:=GI) hG wd (DP _ ahB);refine SW.seq (SW.Hl hG de [3,7,11,15] [0,1,2,4,5,6,8,9,10,12,13,14,3,16,7,11,15,17,18,19,20,21,22,23] zk zk (l:=yt) zk ((yt.take 3++(yt.drop 4).take 3++(yt.drop 8).take 3++(yt.drop 12).take 3).map (λo=>(false,o))++((true,⟨some 40,none,.call 91 [.t 39]⟩)::(false,⟨some 53,none,.fieldAddr 1 (.t 6)⟩)::(true,⟨some 44,none,.call 91 [.t 43]⟩)::(true,⟨some 48,none,.call 91 [.t 47]⟩)::(true,⟨some 52,none,.call 91 [.t 51]⟩)::(yt.drop 17).map λo=>(false,o))) zk ?_);refine lP _ (qz (K:=λS' H'=>S' 39=.str wa/\S' 43=.str wb/\S' 47=.str wc/\S' 51=.str wd/\vE t L j x S' H') ?_ _ _ _ ?_)
   case refine_2=>
    obtain⟨s0,s2,e2,s6,e6,iY,kh,jt⟩:=hI;simp[c42,rz,sq,ur,ug,yt,af.qa,af.qb,af.dl,ah,ae,s6,s9,strs,gr];exact⟨by simp[ah,ae,s0],by simp[ah,ae,s2],e2,by simp[ah,ae,s6],e6,by simp[ah,ae,iY,strs],by simp[ah,ae,kh],by simp[ah,ae,jt]⟩
   clear hI s9;rintro S2 H2 ⟨E9,s43,AM,s51,hI⟩;refine jM (by simp[ah,ae,E9]) zk (by simpa[ah,ae,E9]using n1) ?_
   cases e1:eS wa with
   |error er=>exact⟨rfl,er,rfl,rfl⟩
   |ok v1=>
   simp only[uj];refine lP [⟨some 53,none,.fieldAddr 1 (.t 6)⟩] ?_;simp[ah,ae,hI.s6];refine jM (by simp[ah,ae,s43]) zk (by simpa[ah,ae,s43]using n2) ?_
   cases e2:eS wb with
   |error er=>exact⟨rfl,er,rfl,rfl⟩
   |ok v2=>
   simp only[uj];refine jM (by simp[ah,ae,AM]) zk (by simpa[ah,ae,AM]using n3) ?_
   cases e3:eS wc with
   |error er=>exact⟨rfl,er,rfl,rfl⟩
   |ok v3=>
   simp only[uj];refine jM (by simp[ah,ae,s51]) zk (by simpa[ah,ae,s51]using n4) ?_
   cases e4:eS wd with
   |error er=>exact⟨rfl,er,rfl,rfl⟩
   |ok v4=>
   simp only[uj];obtain⟨s0,s2,e2,s6,e6,iY,kh,jt⟩:=hI;refine tJ [⟨none,none,.store (.box 6) 1 (.t 53) (.t 40)⟩,⟨some 54,none,.fieldAddr 2 (.t 6)⟩,⟨none,none,.store (.box 6) 1 (.t 54) (.t 44)⟩,⟨some 55,none,.fieldAddr 3 (.t 6)⟩,⟨none,none,.store (.box 6) 1 (.t 55) (.t 48)⟩,⟨some 56,none,.fieldAddr 4 (.t 6)⟩,⟨none,none,.store (.box 6) 1 (.t 56) (.t 52)⟩] ?_;simp[ah,ae,s6,e6,tW];show SW prog GI 94 none (.exit 1) _ _ _ _;refine SW.exit ⟨rfl,rfl,_,rfl,⟨⟨?_,bV.num.cells⟩,by have:=bV.SE;show x.cells.length<=_;omega,bV.name⟩,⟨by simp[ah,ae,s0],by simp[ah,ae,s2],by simp[ah,ae,e2],by simp[ah,ae,s6],by simp[ah,ae,e6,tW],by simp[ah,ae,iY,strs],by simp[ah,ae,kh],by simp[ah,ae,jt]⟩⟩;intro n hn;simp only[ep,ad_,aey,agz]at hn;rcases hn with rfl|rfl|rfl|rfl
   .exact fO e1
   .exact fO (by assumption)
   .exact fO (by assumption)
   .exact fO (by assumption)
  case neg=>
   have eJ:gh (j,x) r=dv (pH x r) λy=>.ok (j+1,y):=by unfold gh;rw[if_neg hz]
   rw[eJ];refine SW.cond rfl false (by show S 31=_;rw[jI];simp[hz]) (SW.skip ?_);show SW prog GI 94 none (.seq _ _) _ _ _ _
   by_cases h4:ws.length=4
   case neg=>
    rw[Ns (by rw[DS];exact h4)]
    have h4b:((ws.length:Int)==4)=false:=by simp;omega
    refine SW.seq (SW.fP hG de zk (λd _=>bK d) (ac:=af.qa ur.qb) zk ?_);unfold fa.bB;simp[c42,rz,sq,ur,ug,af.qa,af.qb,ah,ae,s8,s9,strs,h4b];refine oc (Ea hG r) ?_;simp[eY,thenS,dv,lT]
    try first|exact⟨rfl,rfl⟩|rfl|exact⟨rfl,rfl,rfl⟩
   obtain⟨w0,wa,wb,wc,rfl⟩:=aah h4
   have X0:pH x r=dv (eS wa) λa=>dv (eS wb) λb=>.ok { x with cells:=x.cells++[⟨a,b,wc==LK⟩] }:=by unfold pH;rw[DS]
   rw[X0];refine pz hG ur.qb.qa (λd _=>bK d) (λS' H'=>S' 9=strs [w0,wa,wb,wc]/\vE t L j x S' H') ?_ ?_
   .obtain⟨s0,s2,e2,s6,e6,iY,kh,jt⟩:=hI;simp[c42,rz,sq,ur,ug,af.qa,af.qb,ah,ae,s8,s9,strs];refine oc (KG hG r) ?_;simp[ah,ae,s9,strs];exact⟨by simp[ah,ae,s0],by simp[ah,ae,s2],e2,by simp[ah,ae,s6],e6,by simp[ah,ae,iY,strs],by simp[ah,ae,kh],by simp[ah,ae,jt]⟩
   clear hI jI s8 s9 S H;rintro S H ⟨s9,hI⟩;have n1:=Gf (GI:=GI) hG wa (DP _ ahB);have n2:=Gf (GI:=GI) hG wb (DP _ ahB)
   obtain⟨bb,lX⟩:∃bb,(wc==LK)=bb:=⟨_,rfl⟩
   have aby:(wc==[121,101,115])=bb:=lX;refine SW.Hl hG de [5,9] [0,1,2,3,4,6,7,8,11,12,13,14,5,9,10,15,16,17,18,19] zk zk (l:=CL) zk ((CL.take 5++(CL.drop 6).take 3++(CL.drop 11).take 4).map (λo=>(false,o))++((true,⟨some 67,none,.call 91 [.t 66]⟩)::(true,⟨some 71,none,.call 91 [.t 70]⟩)::((CL.drop 10).take 1++CL.drop 15).map λo=>(false,o))) zk ?_;refine lP _ (qz (K:=λS' H'=>S' 63=grow 67 (x.cells.map fY)/\S' 66=.str wa/\S' 70=.str wb/\S' 76=.bool bb/\S' 0=.str t/\S' 2=.box 2 0/\H' 2=some (tW fb)/\S' 6=.box 6 0/\H' 6=some ((grow 67 (x.cells.map fY)).aI::(tW x).drop 1)/\S' 21=strs L/\S' 22=.int .i64 (L.length:Nat)/\S' 23=.int .i64 (j:Nat)) ?_ _ _ _ ?_)
   case refine_2=>
    obtain⟨s0,s2,e2,s6,e6,iY,kh,jt⟩:=hI;simp[c42,rz,sq,ur,CL,af.qa,af.qb,af.dl,ah,ae,s6,e6,s0,s2,e2,s9,iY,kh,jt,strs,gr,aby,tW]
   clear hI s9;rintro S2 H2 ⟨Yd,nY,Vi,VN,s0,s2,e2,s6,e6,iY,kh,jt⟩;refine jM (by simp[ah,ae,nY]) zk (by simpa[ah,ae,nY]using n1) ?_
   cases e1:eS wa with
   |error er=>first|exact⟨rfl,er,rfl,rfl⟩|exact⟨trivial,er,rfl,rfl⟩
   |ok v1=>
   simp only[uj];refine jM (by simp[ah,ae,Vi]) zk (by simpa[ah,ae,Vi]using n2) ?_
   cases Nd:eS wb with
   |error er=>first|exact⟨rfl,er,rfl,rfl⟩|exact⟨trivial,er,rfl,rfl⟩
   |ok v2=>
   simp only[uj];have fD:=fO e1;have fh:=fO Nd;refine tJ [⟨some 72,none,.build [.int .i64 0,.int .i64 0] [(0,1,.t 67),(1,1,.t 71)]⟩,⟨some 77,none,.build [.int .i64 0,.int .i64 0,.bool false] [(0,2,.t 72),(2,1,.t 76)]⟩,⟨some 78,none,.buildSlice 22 67 3 [.t 77]⟩,⟨some 79,none,.append 22 67 3 24 (.t 63) (.t 78)⟩,⟨some 80,none,.fieldAddr 0 (.t 6)⟩,⟨none,none,.store (.box 6) 1 (.t 80) (.t 79)⟩] ?_;have cN:aG 3 [AV.agg [.int .i64 v1,.int .i64 v2,.bool bb]]=true:=rfl;simp[bH,cN,VN];refine kT (x.cells.map fY) (fY ⟨v1,v2,bb⟩) (.own 67) (by simp[Yd]) (by simp[fY]) rfl (Wk x.cells) (by rw[adH];have:=bV.SE;omega) ?_;intro S' sd cz;simp[sd,cz,s6,e6,tW];refine⟨_,rfl,⟨⟨bV.num.head,?_⟩,by have:=bV.SE;simp;omega,bV.name⟩,by simp[ah,ae,cz,s0],by simp[ah,ae,cz,s2],by simp[ah,ae,e2],by simp[ah,ae,cz,s6],by simp[ah,ae,e6,tW,fY,grow,lX],by simp[ah,ae,cz,iY,strs],by simp[ah,ae,cz,kh],by simp[ah,ae,cz,jt]⟩;intro c hc;rcases adG.1 hc with hc|hc
   .exact bV.num.cells c hc
   .rw[ad2]at hc;subst hc;exact⟨fD,fh⟩
end Go.Proofs.Tryz
namespace Go.Proofs.Tryz
open Go Go.AL Go.RowKit Go.Proofs Go.Proofs.Tram
def qi{n:Int}(h:mH n):fg n:=⟨h.1,by have:=h.2;omega⟩
def tu{n:Int}(h:mH n):eS (aY n)=.ok n:=by
 have h3:=qi h
 have hw:wW (aY n)=true:=by
  unfold wW;rw[LM h3,ag3,adL];exact(eB h3).2.1 h.2
 unfold eS;rw[if_pos hw,(sP h3).2.2.2]
def J1{s:aw}(h:kK s):aZ 32 (jK s)=[DK,aY s.pos,aY s.reach,aY s.eZ,aY s.dS]:=by
 have hd:=λn hn=>AF (qi (h.head n hn))
 exact B0 (dp zd (dp (hd _ (by simp[ep])) (dp (hd _ (by simp[ep])) (dp (hd _ (by simp[ep])) (dp (hd _ (by simp[ep])) qf)))))
def Lu{c:fZ}(h:mH c.lo/\mH c.hi):aZ 32 (eD c)=[yw,aY c.lo,aY c.hi,jb c.hid]:=
 B0 (dp zd (dp (AF (qi h.1)) (dp (AF (qi h.2)) (dp (MQ _) qf))))
def LV{s x:aw}(h:kK s):pM x (jK s)=.ok { x with pos:=s.pos,reach:=s.reach,eZ:=s.eZ,dS:=s.dS }:=by
 have hd:=λn hn=>tu (h.head n hn)
 unfold pM;rw[J1 h];simp only;rw[hd _ (by simp[ep]),hd s.reach (by simp[ep]),hd s.eZ (by simp[ep]),hd s.dS (by simp[ep])]
 rfl
def K4{x:aw}{c:fZ}(h:mH c.lo/\mH c.hi):pH x (eD c)=.ok { x with cells:=x.cells++[c] }:=by
 unfold pH;rw[Lu h];simp only;rw[tu h.1,tu h.2];show Except.ok ({ x with cells:=x.cells++[(⟨c.lo,c.hi,jb c.hid==LK⟩:fZ)] }:aw)=_;rw[show(jb c.hid==LK)=c.hid from NU _]
def Ms{l:List fZ}(h:∀c∈l,mH c.lo/\mH c.hi):∀{k:Nat}{x:aw},k≠0->fu gh (k,x) (l.map eD)=.ok (k+l.length,{ x with cells:=x.cells++l }):=by
 induction l with
 |nil=>intro k x hk;simp[fu]
 |cons c l ih=>
  intro k x hk
  have e:gh (k,x) (eD c)=.ok (k+1,{ x with cells:=x.cells++[c] }):=by
   unfold gh;rw[if_neg hk,K4 (h c ahB)]
   rfl
  show dv (gh (k,x) (eD c)) (λa=>fu gh a (l.map eD))=_;rw[e];show fu gh (k+1,_) (l.map eD)=_;rw[ih (λc hc=>h c (by simp[hc])) zo];simp only[List.length_cons,aek,List.singleton_append]
  congr 2
  omega
def Hz{s:aw}(h:kK s):fu gh (0,fb) (bO s)=.ok (1+s.cells.length,{ s with name:=cK }):=by
 have e:gh (0,fb) (jK s)=.ok (1,{ fb with pos:=s.pos,reach:=s.reach,eZ:=s.eZ,dS:=s.dS }):=by
  unfold gh;rw[if_pos rfl,LV h]
  rfl
 show dv (gh (0,fb) (jK s)) (λa=>fu gh a (s.cells.map eD))=_;rw[e];show fu gh (1,_) (s.cells.map eD)=_;rw[Ms h.cells zd]
 rfl
def p_{s:aw}(h:kK s):∀p∈bO s,¬(10:UInt8)∈p:=by
 have hd:=λn hn=>gK (qi (h.head n hn))
 intro p hp;rcases ad_.1 hp with rfl|hp
 .exact lz zd (dp zd (dp (hd _ (by simp[ep])) (dp (hd _ (by simp[ep])) (dp (hd _ (by simp[ep])) (dp (hd _ (by simp[ep])) qf)))))
 .obtain⟨c,hc,rfl⟩:=adZ.1 hp;have hn:=h.cells c hc;exact lz zd (dp zd (dp (gK (qi hn.1)) (dp (gK (qi hn.2)) (dp (by cases c.hid<;>decide) qf))))
def CQ{c:Int}(h:0<=c)(h':c<1000):¬(10:UInt8)∈eC c:=by
 have d:∀n:Int,0<=n->n<10->¬(10:UInt8)∈aY n:=λn a b=>gK ⟨a,zo⟩
 intro hm;unfold eC at hm;simp only[adG]at hm;rcases hm with((hm|hm)|hm)|hm
 .revert hm;decide
 .exact d _ zo zo hm
 .exact d _ zo zo hm
 .exact d _ zo zo hm
def vS{r:List UInt8}:∀{l:List (List UInt8)},(∀p∈l,¬(10:UInt8)∈p)->aZ 10 (dF l++r)=l++aZ 10 r
 |[],_=>rfl
 |p::l,h=>by
  have e:dF (p::l)++r=p++10::(dF l++r):=by simp[dF]
  rw[e,pq (h p ahB),vS λq hq=>h q (by simp[hq])]
  rfl
def B3{s:aw}(h:kK s)(r:List UInt8):aZ 10 (ec s++r)=bO s++eC (bo 0 (bO s) % 223)::aZ 10 r:=by
 unfold ec;rw[q_,aek,aek,vS (p_ h),List.singleton_append,pq (CQ zo zo)]
def Ee{s:aw}(e:List UInt8)(r:List (List UInt8))(he:eW e=true):firstT eW (bO s++e::r)=((bO s).length:Nat):=by
 refine lQ ahB ?_ λj hj aq=>?_
 .rw[aec (adF _)];simpa using he
 .rw[ad5 aq];have hm:(bO s)[j]∈bO s:=adC aq;generalize(bO s)[j]=p at hm
  have hb:∀{b:UInt8}{l:List UInt8},b≠101->eW (b::l)=false:=by
   intro b l hb;unfold eW pv PC;simp[List.take,hb]
  rcases ad_.1 hm with rfl|hm
  .exact hb (b:=116) (l:=_) zd
  .obtain⟨c,_,rfl⟩:=adZ.1 hm;exact hb (b:=99) (l:=_) zd
def Fb{s:aw}(h:kK s)(r:List UInt8):jN (ec s++r)=.ok ({ s with name:=cK },r):=by
 have he:eW (eC (bo 0 (bO s) % 223))=true:=sF.2 ⟨_,by unfold eC;simp only[aek];rfl⟩;unfold jN;rw[B3 h,Ee _ _ he]
 have hl:0<(bO s).length:=by simp[bO]
 rw[if_neg zo,Int.toNat_natCast,agm,Hz h];have hx:ec { s with name:=cK }=ec s:=rfl;show(if pv (ec s++r) (ec { s with name:=cK })then _ else _)=_;rw[hx,if_pos (sF.2 ⟨r,rfl⟩),List.drop_left]
def OG{s:aw}(hI:dj s=true):(ec s).length<=205:=by
 have hN:=se hI;have hg:=gM hI
 have d:∀{n:Int},mH n->(aY n).length<=2:=λh=>(eB (qi h)).2.1 h.2
 have h0:(jK s).length<=16:=by
  unfold jK;rw[ni];have e1:=d (hN.head s.pos (by simp[ep]));have e2:=d (hN.head s.reach (by simp[ep]));have e3:=d (hN.head s.eZ (by simp[ep]));have e4:=d (hN.head s.dS (by simp[ep]));simp only[ep,DK,adU,aee,List.sum_cons,List.sum_nil,List.length_cons,List.length_nil];omega
 have h1:∀c∈s.cells,(eD c).length+1<=15:=λc hc=>by
  have hn:=hN.cells c hc;unfold eD;rw[ni];have e1:=d hn.1;have e2:=d hn.2
  have e3:(jb c.hid).length<=3:=by cases c.hid<;>decide
  simp only[lk,yw,adU,aee,List.sum_cons,List.sum_nil,List.length_cons,List.length_nil];omega
 have h2:=tF h1
 have h3:(eC (bo 0 (bO s) % 223)).length=7:=by
  have e:∀n:Int,0<=n->n<10->(aY n).length=1:=λn a b=>(eB (n:=n) ⟨a,zo⟩).2.2 b
  unfold eC;simp only[adV];rw[e _ zo zo,e _ zo zo,e _ zo zo]
  rfl
 have h4:∀l:List (List UInt8),(dF l).length=(l.map λp=>p.length+1).sum:=by
  intro l
  induction l with
  |nil=>rfl
  |cons p l ih=>
   have:dF (p::l)=p++[10]++dF l:=by simp[dF]
   rw[this];simp only[adV,ih,adU,List.sum_cons,List.length_cons,List.length_nil]
 have hc:=hg.cells.2;unfold ec;rw[q_,adV,adV,h3,h4]
 unfold bO at*
 simp only[adU,List.sum_cons,List.length_cons,List.length_nil];omega
def vb{s:aw}(hI:dj s=true):(eF s).length<=525:=by
 have h1:=OG hI;have h2:=GR (sy hI);unfold eF;rw[adV];omega
end Go.Proofs.Tryz
namespace Go.Proofs.Tryz
open Go Go.AL Go.RowKit Go.Proofs Go.Proofs.Tram
attribute [local simp] ez fF fo eN eM ea eb dG dH eU dI da gZ g_ aF aD ev aP.S aP.H bt au aW AL.start AV.cells AV.storable AV.ct bC cb dU cd HR.okB post cH db c_ AV.out AV.b_ cU d_ fz ia AV.vw cW vI int cy aN di dQ iC jw eP dW bD AV.aI AV.cI
variable{GI:World->Prop}
def DW(c:fZ):Array Value:=#[.int .i64 c.lo,.int .i64 c.hi,.bool c.hid]
def SP{α β:Type}{f:α->β}{l:List α}{x y:β}(h:l.map f=[x,y]):∃a b,l=[a,b]/\f a=x/\f b=y:=by
 have hl:l.length=2:=by simpa using congrArg List.length h
 match l,hl with
 |[a,b],_=>exact⟨a,b,rfl,by simpa using h⟩
def L4:∃ f0 f1:Field,(prog.fieldsOf 67).toList=[f0,f1]/\(f0.name == "_")=false/\f0.type=26/\f0.offset=0/\(f1.name == "_")=false/\f1.type=4/\f1.offset=2:=by
 have h:(prog.fieldsOf 67).toList.map (λf=>(f.name == "_",f.type,f.offset))=[(false,26,0),(false,4,2)]:=by kernel_rfl
 obtain⟨f0,f1,hf,h0,h1⟩:=SP h;simp only[af8]at h0 h1;exact⟨f0,f1,hf,h0.1,h0.2.1,h0.2.2,h1.1,h1.2.1,h1.2.2⟩
def Ke{a:Act}{w:World}{o:Oper}{x1 x2:Operand}{t':TypeId}{c:fZ}(ho:o.op=.binOp .neq 67 x1 x2 t')(h1:a.eval x1=.agg (DW c))(h2:a.eval x2=.agg (DW c)):(execOp a.eval o).run prog w=.ok (.value (.bool false)) w:=by
 obtain⟨f0,f1,hf,n0,t0,o0,n1,t1,o1⟩:=L4
 have u52:prog.underlying 67=some (.struct (prog.fieldsOf 67)):=zk
 have u4:prog.underlying 4=some .bool:=zk
 have k26:mm prog 9999 26=some 2:=zk
 have p0:(part 26 (DW c) 0).run prog w=.ok (oA prog 26 [c.lo,c.hi]) w:=by
  have kR:(isAgg 26).run prog w=.ok true w:=by
   obtain⟨fs,fH⟩:=uZ 26;unfold isAgg;rw[adK,adW fH w];simp
  obtain⟨i,hi,hs⟩:=iZ 26 2;obtain⟨fs,fH⟩:=uZ 26;simp only[part,adK,kR,Result.andThen_ok,aed,oA,fH];simp only[sizeOf,typeInfo,adK];simp[hi,hs,DW,gu]
 have p1:(part 4 (DW c) 2).run prog w=.ok (.bool c.hid) w:=by
  have kR:(isAgg 4).run prog w=.ok false w:=by
   unfold isAgg;rw[adK,adW u4 w];simp
  simp only[part,adK,kR,Result.andThen_ok,adM,ad1];simp[DW]
 have q0:=rB (P:=prog) (w:=w) 9999 26 2 k26 [c.lo,c.hi] [c.lo,c.hi] rfl rfl;have q1:(Op.equalIn 9999 4 (.bool c.hid) (.bool c.hid)).run prog w=.ok (c.hid==c.hid) w:=run_equalIn_bool w 9998 4 _ _ u4
 have hE:(Op.equalIn 10000 67 (.agg (DW c)) (.agg (DW c))).run prog w=.ok true w:=by
  rw[run_equalIn_struct w 9999 67 _ _ u52 zk,hf]
  have e0:f0.name ≠ "_" := by simpa using n0
  have e1:f1.name ≠ "_" := by simpa using n1
  simp[Op.eqFields,e0,e1,t0,o0,t1,o1,adK,p0,p1,q0,q1]
 have hg:=run_eqGuard_agg (P:=prog) w .neq 67 x1 x2 (DW c) (DW c) zk;simp[execOp,ho,h1,h2,hg,run_neq_struct,hE,adK]
def PL{Pr:Nat->Nat->Prop}{w:World}{c:fZ}{v:Value}(h:RD Pr w (fY c) v):v=.agg (DW c):=by
 unfold fY at h;cases h;rename_i vs hl h1 hr
 congr 1
 have hl:vs.size=3:=by simpa using hl.symm
 have h0:=(hr 0 ahB zo).zF rfl;have h1:=(hr 1 ahB zo).zF rfl;have h2:=(hr 2 ahB zo).zF rfl
 refine afc (by rw[hl]<;>rfl) λi hi du=>?_
 have:i=0\/i=1\/i=2:=zo
 rcases this with rfl|rfl|rfl
 .exact h0
 .exact h1
 .exact h2
def CE(s:aw)(i:Nat)(S:an)(H:ao):Prop:=S 2=.box 2 0/\S 3=.box 3 0/\H 2=some (az s)/\H 3=some (az s)/\S 5=.int .i64 (i:Nat)
noncomputable def Rs:af:=af.qb c13.qb.qb.qa.qb.qb
noncomputable def Xq:List bI:=(Rs.qb.qa.qb.qa.dl).take 10
def Y6(hG:ar GI)(s:aw)(hs:f_ s):AC prog GI 13 [bm s,bm s] (.ret (.bool true)):=by
 have acN:=ZA (GI:=GI) hG s.name hs.name;have kH:=hs.cells
 refine AC.ji func13 rfl ntmps13 ahB λcc w=>?_
 refine dT hG c13.qa (λS H=>S 2=.box 2 0/\S 3=.box 3 0/\H 2=some (az s)/\H 3=some (az s)) ?_ ?_
 .simp[c13,af.qa,bm,az,ai]
 rintro S H ⟨s2,s3,e2,e3⟩;refine dT hG c13.qb.qa (λS H=>S 2=.box 2 0/\S 3=.box 3 0/\H 2=some (az s)/\H 3=some (az s)) ?_ ?_
 .simp[c13,af.qa,af.qb,s2,s3,e2,e3,az,ai]
 clear s2 s3 e2 e3 S H;rintro S H ⟨s2,s3,e2,e3⟩;refine SW.seq (dT hG (.ops [⟨some 5,none,.mv true (.c (.int .i64 0))⟩]) (λS H=>CE s 0 S H) ?_ ?_)
 .simp[CE,s2,s3,e2,e3]
 clear s2 s3 e2 e3 S H;rintro S H hF;refine SW.block (SW.loop (λo S H=>o=Old.plain cc w/\∃k,k<=s.cells.length/\CE s k S H) (λS _=>match S 5 with|.int _ j=>s.cells.length-j.toNat|_=>0) ⟨rfl,0,zo,hF⟩ ?_);clear hF S H;rintro o S H ⟨rfl,k,hk,s2,s3,e2,e3,s5⟩
 have hdk:decide ((k:Int)<(s.cells.length:Int))=decide (k<s.cells.length):=ahB
 refine SW.seq (dT hG Rs.qa.qa (λS H=>CE s k S H/\S 45=.bool (decide (k<s.cells.length))) ?_ ?_)
 .simp[Rs,c13,af.qa,af.qb,CE,s2,s3,e2,e3,s5,hdk,az,ai]
 have qc:=s5;clear s2 s3 e2 e3;rintro S1 H1 ⟨⟨s2,s3,e2,e3,s5⟩,Mr⟩;refine SW.cond (c':=.t 45) zk (decide (k<s.cells.length)) Mr ?_
 by_cases aq:k<s.cells.length
 case neg=>
  rw[agQ aq];refine SW.exit ?_;show SW prog GI 64 none (.seq _ .ret) _ _ _ _;refine dT hG c13.qb.qb.qb.qa (λS H=>S 4=.bool true) ?_ ?_
  .simp[c13,af.qa,af.qb,s2,s3,e2,e3,az,ai];refine oc acN ?_;simp
  intro S H s4;refine SW.ret ⟨eo.plain rfl,rfl,_,?_,rfl⟩;show cH prog 64 [.tmp 4] S H=_;simp[cH,db,c_,s4,AV.b_,AV.out]
 rw[agq aq];refine SW.skip ?_;refine SW.seq (SW.block (SW.mono (Q:=λx o S H=>x=.normal/\o=Old.plain cc w/\CE s k S H) ?_ ?_))
 .rintro x o S2 H2 ⟨rfl,rfl,s2,s3,e2,e3,s5⟩;have hw:IntKind.i64.wrap ((k:Int)+1)=k+1:=aQ zo;refine SW.last hG de zk (ac:=af.qb Rs.qb) zk (λ_ _ h=>h) (λS H=>CE s (k+1) S H) ?_ ?_
  .simp[Rs,c13,af.qa,af.qb,CE,s2,s3,e2,e3,s5,hw]
  rintro S' H' hF;refine⟨⟨rfl,k+1,zo,hF⟩,?_⟩;have:=hF.2.2.2.2;rw[qc,this];simp;omega
 refine SW.seq (SW.Qf (p:=10) hG de zk zk zk (λ_ h=>h) (l:=Xq) zk zk (K:=λS H=>CE s k S H/\S 52=fY s.cells[k]/\S 57=fY s.cells[k]) ?_ ?_)
 .simp[Xq,Rs,c13,af.qa,af.qb,af.dl,CE,s2,s3,e2,e3,s5,aq,fY,az,ai]
 clear s2 s3 e2 e3 s5 Mr S1 H1;rintro w0 g S H a w' m cm ho R ⟨⟨s2,s3,e2,e3,s5⟩,Ej,QD⟩;show wpOpsIn _ _ _ _ _ [10] a w';have t52:=R.slot 52 zd id;rw[Ej]at t52;have t57:=R.slot 57 zd id;rw[QD]at t57;refine bf rfl rfl zr (Ke (c:=s.cells[k]) rfl (PL (t52.dX rfl)) (PL (t57.dX rfl))) ?_;have R1:=R.put 58 (.bool false) (.bool false) zd (.data _ _ (.bool _)) trivial;refine⟨g,_,_,R1,?_⟩;rw[ho];refine SW.cond (c':=.t 58) zk false (by show au S 58 _ 58=_;simp[au]) (SW.skip ⟨rfl,rfl,?_⟩);simp[CE,au,s2,s3,e2,e3,s5]
end Go.Proofs.Tryz
namespace Go.Proofs.YtajdcjkalbbogaaGreatDoor
open Go Go.AL Go.ChangeShapes Go.WideShapes Go.ChangeAt Go.RowKit Go.Proofs.Tryz
def Hy:mapsRowed Tryz.prog=true:=by kernel_rfl
def R8:(Tryz.prog.stops==[])=true:=by kernel_rfl
def Ia:(Tryz.prog.stopKnobs==[])=true:=by kernel_rfl
def I_:Tryz.prog.plainKeys=false:=by kernel_rfl
def Fg:Tryz.prog.stopsHeard=true:=by kernel_rfl
def TA:true=Tryz.prog.looks []:=by kernel_rfl
def O6 {f:FuncId} {fn:Func} {s:ChangeSpec} {c:OpenClaim}
  (h0:c.stops=[]/\c.knobs=[]/\c.plainKeys=false/\c.shortTexts=none/\c.lifted=false/\c.make=.cut)
  (h1:c.wf (OpenSpec.ofChange s)=true) (h2:fn.params.all (Tryz.prog.readableRec ·)=true) (h3:namedTie Tryz.prog c.named s.vars=true)
  (h4:(c.inPlace==Tryz.prog.inPlace f)=true) (h5:(c.unfollowed==Tryz.prog.unfollowed f)=true) (h6:(c.recurses==Tryz.prog.recurses f)=true) (h7:(c.named==Tryz.prog.varsNamed f)=true)
  (h8:((c.maps==(fn.params.toList++s.plain.varTypes Tryz.prog).any (Tryz.prog.mapsRec ·))&&(c.ifaces==(fn.params.toList++s.plain.varTypes Tryz.prog).any (Tryz.prog.ifacesRec ·))&&(c.mapsOut==Tryz.prog.mapsAmong fn.resultTypes.toList)&&
   (c.loops==(fn.params.toList++s.plain.varTypes Tryz.prog).any (Tryz.prog.loopsFrom ·))&&(c.wideKeys==(fn.params.toList++s.plain.varTypes Tryz.prog++fn.resultTypes.toList).any (Tryz.prog.wideKeysFrom ·))&&
   s.vars.all (Tryz.prog.varReadable ·)&&fn.resultTypes.all (λt=>Tryz.prog.readableRec t&&decide (t<Tryz.prog.types.size))&&(c.ifacesOut==fn.resultTypes.toList.any (Tryz.prog.ifacesRec ·))&&(c.loopsOut==fn.resultTypes.toList.any (Tryz.prog.loopsFrom ·)))=true)
  (h9:(c.kinds==(if c.domain.isEmpty then[]else fn.params.toList.map λt=>match Tryz.prog.underlying t with|some (.int k)=>some k|_=>none))=true) (pJ:(c.pinned==c.pinnedBy)=true)
  (Ue:((c.veiled==(fn.params.toList++s.plain.varTypes Tryz.prog++fn.resultTypes.toList).any (Tryz.prog.veiledRec ·))&&c.veiledFits Tryz.prog fn.params.toList (fn.params.toList++s.plain.varTypes Tryz.prog++fn.resultTypes.toList))=true):
  joinedFacts Tryz.prog f fn s c=true:=by
 obtain⟨a1,a2,a3,a4,a5,a6⟩:=h0;unfold joinedFacts;simp only[adE]at h8 Ue⊢;obtain⟨⟨⟨⟨⟨⟨⟨⟨b1,b2⟩,b3⟩,b4⟩,b5⟩,b6⟩,b7⟩,b8⟩,b9⟩:=h8;refine⟨⟨⟨⟨⟨⟨⟨⟨⟨⟨⟨⟨⟨⟨⟨⟨⟨⟨⟨⟨⟨⟨⟨⟨⟨⟨⟨⟨⟨⟨⟨h1,F8⟩,Hy⟩,h2⟩,h3⟩,?_⟩,R8⟩,?_⟩,Ia⟩,h4⟩,h5⟩,h6⟩,h7⟩,b1⟩,b2⟩,b3⟩,b4⟩,b5⟩,b6⟩,b7⟩,b8⟩,b9⟩,?_⟩,?_⟩,Fg⟩,Lx⟩,?_⟩,?_⟩,h9⟩,pJ⟩,Ue.1⟩,Ue.2⟩
 .rw[a1];rfl
 .rw[a2];rfl
 .rw[a3,I_];rfl
 .rw[a4];rfl
 .rw[a5,FA];rfl
 .rw[VA,a6];rfl
def PY {G:World→Prop} {f:Nat} {Vy:List AV} {W:World} {args:Array Value} (h:AC Tryz.prog G f Vy (.ret (.bool true))) (hG:G W) (hl:Vy.length=args.size) (hr:∀ i (h:i < Vy.length) (h':i < args.size),RV T0 (fun _=>none) W Vy[i] args[i]) :
  Calls Tryz.prog f args W λe W'=>e=.returned (.bool true)/\Below W.heap.size W W':=by
 refine(h W T0 args hG hl hr).mono ?_;rintro e W' ⟨hb,hi,_,c,rfl,hv,_⟩
 cases hv with
 |data _ _ h=>cases h with
  |bool b=>exact⟨rfl,hb⟩
end Go.Proofs.YtajdcjkalbbogaaGreatDoor
namespace Go.Proofs.Tryz
open Go Go.AL Go.RowKit Go.Proofs Go.Proofs.Tram
variable{GI:World->Prop}
def upT{Pr:Nat->Nat->Prop}{w:World}{e:List UInt8}{c:Value}(h:RD Pr w (lT e) c):c=.iface 133 (.agg #[.string ⟨e.toArray⟩]):=by
 unfold lT at h
 cases h with
 |iface t v c h=>
  cases h with
  |agg cs vs hl h1 hr=>
   have hs:vs.size=1:=by rw[<-hl]<;>rfl
   have h0:=hr 0 ahB zo;simp only[List.getElem_cons_zero]at h0
   have:vs=#[vs[0]]:=by
    apply afc
    .simpa using hs
    .intro i h1 h2
     have:i=0:=by simp at h2;omega
     subst this;rfl
   rw[this];generalize vs[0]=x at h0;cases h0;rfl
section
variable{w0:World}{n:Nat}{g:Gh}{S:an}{H:ao}{a:Act}{w:World}{d i1 i4 i5:Nat}{t u e:List UInt8}{z x:List AV}{y:AV}
def P2 (hG:ar GI) (cm:GI w0) (R:Rel prog w0 n bP g S H a w) (EH:i1 < n) (C_:S i1 = .box i1 0) (Df:H i1=some [.str t]) (ug:AC prog GI 42 [.str t] (.panic (lT e))) (v4 v5:Value) :
  Calls prog 41 #[a.tmps.getD i1 undef,v4,v5] w λen w2=>Below w.heap.size w w2/\en=.panicked [{ v:=.iface 133 (.agg #[.string ⟨e.toArray⟩]),recovered:=false }]:=by
 have gD:GI w:=hG w0 w cm (by have:=R.below;rwa [R.base]at this);obtain⟨b1,e1,eO⟩:=KF R EH C_ Df;refine afJ func41 rfl ?_;refine(fy (m:=0)).1 ?_;refine ik (λa=>a.tmps.size=8/\a.defers=[]/\a.tmps.getD 0 undef=.pointer (some ⟨b1,0,none⟩)) ⟨by simp[ntmps41],rfl,(cJ _ _ 0 ahB).trans e1⟩ ?_;rintro aC ⟨zC,dC,t0⟩;refine aea ?_;show wpOpsIn _ _ _ _ _ [0,1,2,3,4,5,6] aC w;refine bf rfl rfl zr (jT (t:=9) (d:=.string) (b:=b1) (off:=0) rfl t0 zk rfl eO) ?_;show wpOpsIn _ _ _ _ _ [1,2,3,4,5,6] (aC.put (some 4) (.string ⟨t.toArray⟩)) w
 refine pd rfl rfl zr (gq (k:=42) (args:=#[.string ⟨t.toArray⟩]) w rfl rfl ?_ zk) (ug w (fI g false) #[.string ⟨t.toArray⟩] gD rfl (λi h h'=>by
  match i,h with
  |0,_=>exact .data _ _ (.str t))) ?_
 .simp only[aeg,adU,aee];show #[(aC.put (some 4) _).eval (.tmp 4)]=_;rw[cg _ _ _ _ zo,if_pos rfl]
 rintro en w2 ⟨iL,hi,qR,c,rfl,dh⟩;have hc:=upT dh;subst hc;exact⟨dC,iL,rfl⟩
end
end Go.Proofs.Tryz
namespace Go.Proofs.Tryz
open Go Go.AL Go.RowKit Go.Proofs Go.Proofs.Tram
attribute [local simp] ez fF fo eN eM ea eb dG dH eU dI da gZ g_ aF aD ev aP.S aP.H bt au aW AL.start AV.cells AV.storable AV.ct bC cb dU cd HR.okB post cH db c_ AV.out AV.b_ cU d_ fz ia AV.vw cW vI int cy aN di dQ iC jw eP dW bD AV.aI AV.cI
def bS:aJ:=⟨[6,4,8],[⟨0,1,1,3⟩,⟨2,0,0,2⟩],2,4,5,8,3,[⟨[2,0,1],[],false⟩,⟨[0,2],[1],true⟩],18,2⟩
variable{GI:World->Prop}
def GV(hG:ar GI)(a b:Int):AC prog GI 114 [.int .i64 a,.int .i64 b] (.ret (bX (a,b))):=by
 obtain⟨i33,RJ,Uq⟩:=iZ 26 2;obtain⟨fs,fH⟩:=uZ 26;refine cw hG func114 ntmps114 c114 ?_;simp[c114,RJ,Uq,fH,eh,bX,bH]
def abB(hG:ar GI):AC prog GI 57 [] (.ret (cE { bS with wide:=21 })):=by
 obtain⟨i36,ss,sH⟩:=iZ 29 10;obtain⟨fs,fH⟩:=uZ 29;refine cw hG func57 ntmps57 c57 ?_;simp[c57,aG];refine oc (GV hG 1 3) ?_;simp[bX,bH,aG];refine oc (GV hG 0 2) ?_;simp[bX,bH,aG];refine oc (GV hG 2 4) ?_;simp[bX,bH,aG];refine oc (GV hG 5 8) ?_;simp[bX,bH,aG,ss,sH,fH,eh,cE,ai,bS,cG,dP,ints]
end Go.Proofs.Tryz
namespace Go.Proofs.Tryz
open Go Go.AL Go.RowKit Go.Proofs Go.Proofs.Tram
attribute [local simp] ez fF fo eN eM ea eb dG dH eU dI da gZ g_ aF aD ev aP.S aP.H bt au aW AL.start AV.cells AV.storable AV.ct bC cb dU cd HR.okB post cH db c_ AV.out AV.b_ cU d_ fz ia AV.vw cW vI int cy aN di dQ iC jw eP dW bD AV.aI AV.cI
variable{GI:World->Prop}
def mb:aw:=⟨[⟨2,3,false⟩,⟨2,2,false⟩,⟨1,2,true⟩,⟨3,4,false⟩,⟨2,5,false⟩,⟨1,1,false⟩],6,5,2,1,{ bS with wide:=21 }⟩
def Dc:aw:={ mb with eZ:=1 }
def zf:aw:={ mb with name:=⟨[5],[],0,0,0,0,1,[⟨[0,0,0,0],[1,3],false⟩],16,2⟩ }
def HG:wj zf=[vI [9],.int .i64 0]:=by kernel_rfl
def I2:Iy mb=[.slice .view (aX [(1,1),(3,5)]),.int .i64 0]:=by kernel_rfl
def Kb:ym mb [3,2,2,4,5,1]=[.int .i64 2,.int .i64 0]:=by kernel_rfl
def JQ:pD 0 mb=[.int .i64 1,.int .i64 0]:=by kernel_rfl
def Jy:pD 1 zf=[.int .i64 1,.int .i64 0]:=by kernel_rfl
def Kx:tY mb 1=[.int .i64 2,.int .i64 0]:=by kernel_rfl
def JP:xJ mb=[.int .i64 1,.int .i64 4,.int .i64 0]:=by kernel_rfl
def No:FW Dc=[.int .i64 3,.int .i64 0]:=by kernel_rfl
def JC:xL mb=[.int .i64 1,.int .i64 0]:=by kernel_rfl
def L9:yy Dc=[.int .i64 4,.int .i64 2,.int .i64 0]:=by kernel_rfl
def sZ:f_ mb:=⟨zd,zd,zd,zd,λw hw=>by
 simp[mb,bS]at hw;rcases hw with rfl|rfl<;>decide,λw hw=>by
 simp[mb,bS]at hw;rcases hw with rfl|rfl<;>decide⟩
def T3:f_ Dc:=⟨sZ.cells,sZ.name⟩
def TK:f_ zf:=⟨zd,zd,zd,zd,λw hw=>by
 simp[zf]at hw;subst hw;decide,λw hw=>by
 simp[zf]at hw;subst hw;decide⟩
def Gv(hG:ar GI)(lo hi:Int)(hid:Bool):AC prog GI 56 [.int .i64 lo,.int .i64 hi,.bool hid] (.ret (fY ⟨lo,hi,hid⟩)):=by
 obtain⟨i52,aaO,aaY⟩:=iZ 67 3;obtain⟨fs,fH⟩:=uZ 67;refine cw hG func56 ntmps56 c56 ?_;simp[c56,aaO,aaY,fH,eh,fY,bH]
def y_:∃it,prog.info? 31=some it/\it.size=15:=Eb zk
def SD(hG:ar GI):AC prog GI 19 [] (.ret (bm mb)):=by
 obtain⟨i31,oa,nC⟩:=y_;obtain⟨fs,fH⟩:=uZ 31;refine cw hG func19 ntmps19 c19 ?_;simp[c19];refine oc (Gv hG 2 3 false) ?_;simp[fY];refine oc (Gv hG 2 2 false) ?_;simp[fY];refine oc (Gv hG 1 2 true) ?_;simp[fY];refine oc (Gv hG 3 4 false) ?_;simp[fY];refine oc (Gv hG 2 5 false) ?_;simp[fY];refine oc (Gv hG 1 1 false) ?_;simp[fY,aG];refine oc (abB hG) ?_;simp[fY,aG,bH,oa,nC,fH,eh,bm,az,cE,ai,mb]
def ac_(hG:ar GI)(s:aw)(p:Int):AC prog GI 68 [bm s,.int .i64 p] (.ret (bm { s with eZ:=p })):=by
 obtain⟨i31,oa,nC⟩:=y_;obtain⟨fs,fH⟩:=uZ 31;refine cw hG func68 ntmps68 c68 ?_;simp[c68,bm,az,ai,oa,nC,fH,eh,bH]
def abM(hG:ar GI):AC prog GI 26 [] (.ret (bm Dc)):=by
 obtain⟨i31,oa,nC⟩:=y_;obtain⟨fs,fH⟩:=uZ 31;have h:=ac_ hG mb 1;refine cw hG func26 ntmps26 c26 ?_;simp[c26];refine oc (SD hG) ?_;simp[bm,az,ai];refine oc h ?_;simp[oa,nC,fH,eh,bH,bm,az,ai,Dc]
def abc(hG:ar GI):AC prog GI 17 [] (.ret (bm zf)):=by
 obtain⟨i31,oa,nC⟩:=y_;obtain⟨fs,fH⟩:=uZ 31;refine cw hG func17 ntmps17 c17 ?_;simp[c17];refine oc (SD hG) ?_;simp[oa,nC,fH,eh,bH,aG,bm,az,ai,zf,cG,ints]
end Go.Proofs.Tryz
namespace Go.Proofs.Tryz
open Go Go.AL Go.RowKit Go.Proofs Go.Proofs.Tram
attribute [local simp] ez fF fo eN eM ea eb dG dH eU dI da gZ g_ aF aD ev aP.S aP.H bt au aW AL.start AV.cells AV.storable AV.ct bC cb dU cd HR.okB post cH db c_ AV.out AV.b_ cU d_ fz ia AV.vw cW vI int cy aN di dQ iC jw eP dW bD
variable{GI:World->Prop}
def mD(s:aw)(out:List Int):aw:={ s with name:=Gg s.name out }
def Q5{s:aw}(hs:dj s=true){l:List Int}(ho:ig s.name l=true):dj (mD s l)=true:=by
 unfold dj at hs⊢;rw[adE]at hs⊢;exact⟨hs.1,LN hs.2 ho⟩
def Bv(s:aw)(l:List Word):List AV:=[.slice .view (s.cells.map fY),.int .i64 s.pos,.int .i64 s.reach,.int .i64 s.eZ,.int .i64 s.dS,vI s.name.aM,.slice .view (s.name.aL.map dP),.int .i64 s.name.gk,.int .i64 s.name.gl,.int .i64 s.name.js,.int .i64 s.name.jr,.int .i64 s.name.ck,grow 48 (l.map cG),.int .i64 s.name.wide,.int .i64 s.name.rows]
def MC(l:List Word):aG 3 (l.map cG)=true:=iE λa=>⟨rfl,rfl⟩
def Y4(hG:ar GI)(s:aw)(hl:s.name.words.length<1000)(out:List Int)(ho:out.length<1000000):AC prog GI 119 [bm s,vI out] (.ret (bm (mD s out))):=by
 obtain⟨it,oa,nC⟩:=y_;obtain⟨fs,fH⟩:=uZ 31
 have ab':=λi:Nat=>MR (GI:=GI) hG out ho (i:Int)
 refine cw hG func119 ntmps119 c119 ?_;refine aK (λS H=>S 1=vI out/\S 2=.box 2 0/\H 2=some (az s)/\S 4=.box 4 0/\∃z,H 4=some z/\z.length=15) (by simp[bm,az,ai,AV.aI,AV.cI]) ?_;rintro S H ⟨s1,s2,h2,s4,z,h4,hz⟩;refine aK (λS H=>S 1=vI out/\S 2=.box 2 0/\H 2=some (az s)/\S 4=.box 4 0/\H 4=some z/\S 5=.box 5 0/\H 5=some (az s)) (by simp[s1,s2,h2,s4,h4,az,ai,AV.aI,AV.cI]) ?_;clear s1 s2 h2 s4 h4 S H;rintro S H ⟨s1,s2,h2,s4,h4,s5,h5⟩;refine aK (λS H=>S 1=vI out/\S 2=.box 2 0/\H 2=some (az s)/\S 4=.box 4 0/\H 4=some z/\S 5=.box 5 0/\H 5=some (Bv s [])) (by simp[s1,s2,h2,s4,h4,s5,h5,az,ai,Bv,grow,AV.aI,AV.cI]) ?_;clear s1 s2 h2 s4 h4 s5 h5 S H;rintro S H ⟨s1,s2,h2,s4,h4,s5,h5⟩;refine aK (λS H=>S 4=.box 4 0/\H 4=some z/\S 5=.box 5 0/\H 5=some (Bv s (kL out 0 s.name.words))) ?_ ?_
 .simp[s1,s2,h2,s4,h4,s5,h5,az,ai,AV.aI,AV.cI];refine bz 15 s.name.words.length (λi S H=>S 1=vI out/\S 13=.slice .view (s.name.words.map cG)/\S 14=.int .i64 s.name.words.length/\S 4=.box 4 0/\H 4=some z/\S 5=.box 5 0/\H 5=some (Bv s (kL out 0 (s.name.words.take i)))/\S 15=.int .i64 (i:Nat)) (λi S H h=>h.2.2.2.2.2.2.2) ⟨by simp[s1,AV.aI,AV.cI],by simp[s1,h2,az,ai,AV.aI,AV.cI],by simp[s1,h2,az,ai,AV.aI,AV.cI],by simp[s4,AV.aI,AV.cI],by simp[h4,AV.aI,AV.cI],by simp[s5,AV.aI,AV.cI],by simp[h5,kL,AV.aI,AV.cI],by simp[AV.aI,AV.cI]⟩ ?_;clear s1 s2 h2 s4 h4 s5 h5 S H;rintro i hi S H ⟨s1,dM,eg,s4,h4,s5,h5,km⟩
  by_cases aq:i<s.name.words.length
  case neg=>
   have dk:i=s.name.words.length:=zo
   subst dk;rw[adI (adF _)]at h5;simp[s1,dM,eg,s4,h4,s5,h5,km,AV.aI,AV.cI]
  have hw:IntKind.i64.wrap ((i:Int)+1)=i+1:=aQ zo;have eJ:=MK out aq;have hle:=vW out (s.name.words.take i) 0
  have Pl:(kL out 0 (s.name.words.take i)).length<1000:=by rw[adS]at hle;omega
  obtain⟨wd,vt⟩:∃wd,s.name.words[i]=wd:=⟨_,rfl⟩
  have a198:=ab' i;rw[eJ]
  generalize kL out 0 (s.name.words.take i)=L at*
  refine aK (λS H=>S 1=vI out/\S 13=.slice .view (s.name.words.map cG)/\S 14=.int .i64 s.name.words.length/\S 4=.box 4 0/\H 4=some z/\S 5=.box 5 0/\H 5=some (Bv s L)/\S 15=.int .i64 (i:Nat)/\S 16=.bool true) (by simp[s1,dM,eg,s4,h4,s5,h5,km,aq,AV.aI,AV.cI]) ?_;clear s1 dM eg s4 h4 s5 h5 km S H;rintro S H ⟨s1,dM,eg,s4,h4,s5,h5,km,fR⟩
  cases hc:out.contains (i:Int)with
  |true=>
   rw[hc]at a198;simp[s1,dM,eg,s4,h4,s5,h5,km,fR,aq,vt,cG,AV.aI,AV.cI];refine oc a198 ?_;simp[s1,dM,eg,s4,h4,s5,h5,km,fR,aq,vt,cG,hw,AV.aI,AV.cI]
  |false=>
   rw[hc]at a198;simp[s1,dM,eg,s4,h4,s5,h5,km,fR,aq,vt,cG,AV.aI,AV.cI];refine oc a198 ?_;have bV:=MC L
   have hL:(L.map cG).length<1000:=by simpa using Pl
   have e1:(L++[s.name.words[i]]).map cG=L.map cG++[cG wd]:=by rw[ad6,vt]<;>rfl
   have k3:aG 3 [AV.agg [.slice .view (ints wd.aV),.slice .view (ints wd.bZ),.bool wd.free]]=true:=rfl;simp only[vt]at e1;simp[Bv,e1];unfold Bv at h5
   generalize L.map cG=M at*
   cases M with
   |nil=>
    have wJ:grow 48 []=.slice .nil []:=rfl;simp[s1,dM,eg,s4,h4,s5,h5,km,fR,aq,vt,wJ,hw,k3,cG,AV.aI,AV.cI]
    try rfl
   |cons y M=>
    have wJ:grow 48 (y::M)=.slice (.own 48) (y::M):=rfl
    have T6:∀z,grow 48 (y::(M++[z]))=.slice (.own 48) (y::(M++[z])):=λ_=>rfl
    have nt:M.length+1+1<1048576:=by simp at hL;omega
    simp[s1,dM,eg,s4,h4,s5,h5,km,fR,aq,vt,wJ,T6,hw,k3,bV,nt,cG,AV.aI,AV.cI]
 .clear s1 s2 h2 s4 h4 s5 h5 S H;rintro S H ⟨s4,h4,s5,h5⟩;have aa4:List.drop 15 z=[]:=aeU zo;unfold Bv at h5;simp[s4,h4,s5,h5,hz,aa4,oa,nC,fH,eh,tZ,ue,jn];simp[bm,az,ai,mD,Gg,vI,ints]
end Go.Proofs.Tryz
namespace Go.Proofs.Tryz
open Go Go.AL Go.RowKit Go.Proofs Go.Proofs.Tram
attribute [local simp] ez fF fo eN eM ea eb dG dH eU dI da gZ g_ aF aD ev aP.S aP.H bt au aW AL.start AV.cells AV.storable AV.ct bC cb dU cd HR.okB post cH db c_ AV.out AV.b_ cU d_ fz ia AV.vw cW vI int cy aN di dQ iC jw eP dW bD AV.aI AV.cI
variable{GI:World->Prop}
section
variable{w0:World}{n:Nat}{g:Gh}{S:an}{H:ao}{a:Act}{w:World}{d:Nat}
def QE{k:Nat->Option Obj}{b:Nat}(o:Option Obj)(h:k b=none):au (au k b o) b none=k:=by
 funext c
 by_cases hc:c=b
 .subst hc;simp[au,h]
 .simp[au,hc]
def yz {k:Nat} {us:Array Value} (jJ:ee prog k=true) (R:Rel prog w0 n bP g S H a w) {X:an→ao→Prop}
  (hc:∀g1 w1,Rel prog w0 n bP g1 S H a w1->g1.old={ g.old with aU:=au g.old.aU w.heap.size (some (.cells #[.int .i64 0] 34)) }->Below w.heap.size w w1->w1=w.alloc (.cells #[.int .i64 0] 34)->
   Calls prog k us w1 λe w2=>e=.returned (.tuple #[])/\∃(c:Value)(g':Gh)(S':an)(H':ao),g'.old=g1.old/\Rel prog w0 n bP g' S' H' (a.put (some d) c) w2/\X S' H'):
  Calls prog 40 #[.func (.func k) #[] us] w λe w2=>e=.returned (.int .i64 0)/\∃(c:Value)(g':Gh)(S':an)(H':ao),g'.old=g.old/\Rel prog w0 n bP g' S' H' (a.put (some d) c) w2/\X S' H':=by
 have R1:=R.nF (.cells #[.int .i64 0] 34);have yA:=tc R;refine mL jJ (hc _ _ R1 rfl ((aeC _ _).alloc (adF _) _) rfl) ?_;rintro e w2 ⟨rfl,c,g',S',H',ho,R2,hX⟩
 have hk:g'.old.aU w.heap.size=some (.cells #[.int .i64 0] 34):=by rw[ho];exact aO _ _ _
 have ky:=(R2.kept _ _ hk).2.1;have aq:=(adD.1 ky).1;refine⟨aq,⟨_,_,ky⟩,.inl ⟨_,rfl,rfl,c,_,S',H',?_,(R2.tv w.heap.size).jV ?_,hX⟩⟩
 .show({ g'.old with aU:=au g'.old.aU w.heap.size none }:Old)=_;rw[ho];show({ g.old with aU:=au (au g.old.aU w.heap.size (some (.cells #[.int .i64 0] 34))) w.heap.size none }:Old)=_;rw[QE _ yA]
 .refine⟨rfl,rfl,rfl,ahB,λk cz=>?_⟩
  by_cases hb:k=w.heap.size
  .subst hb;rw[afq w2 _ _ _ _ _ ky,ky]
  .exact aeO w2 _ k _ hb
def A6 {k:Nat} {us:Array Value} (jJ:ee prog k=true) (R:Rel prog w0 n bP g S H a w) {r:Int}
  (hc:∀g1 w1,Rel prog w0 n bP g1 S H a w1->Below w.heap.size w w1->w1=w.alloc (.cells #[.int .i64 0] 34)->
   Calls prog k us w1 λe w2=>Below w1.heap.size w1 w2/\((r=7/\∃n,e=.panicked [{ v:=.iface 131 (.agg #[.int .i64 n]),recovered:=false }])\/(r=4/\∃s:List UInt8,e=.panicked [{ v:=.iface 133 (.agg #[.string ⟨s.toArray⟩]),recovered:=false }]))):
  Calls prog 40 #[.func (.func k) #[] us] w λe w2=>e=.returned (.int .i64 r)/\∃g',g'.old=g.old/\Rel prog w0 n bP g' S H a w2:=by
 have R1:=R.nF (.cells #[.int .i64 0] 34);have yA:=tc R;refine mL jJ (hc _ _ R1 ((aeC _ _).alloc (adF _) _) rfl) ?_;rintro en w2 ⟨iL,Vm⟩;have R2:=R1.jV iL;have hk:au g.old.aU w.heap.size (some (.cells #[.int .i64 0] 34)) w.heap.size=some (.cells #[.int .i64 0] 34):=aO _ _ _;have ky:=(R2.kept _ _ hk).2.1;have aq:=(adD.1 ky).1
 have fin:∀w3,Below w2.heap.size w2 w3->∃g',g'.old=g.old/\Rel prog w0 n bP g' S H a (w3.setRow w.heap.size #[.int .i64 r]):=λw3 oF=>by
  have R3:=R2.jV oF;have Du:=(R3.kept _ _ hk).2.1;have R4:=R3.mQ hk (.cells #[.int .i64 r] 34);rw[nI w3 Du];refine⟨_,?_,R4.tv w.heap.size⟩;show({ g.old with aU:=au (au (au g.old.aU w.heap.size (some (.cells #[.int .i64 0] 34))) w.heap.size (some (.cells #[.int .i64 r] 34))) w.heap.size none }:Old)=_
  have:au (au (au g.old.aU w.heap.size (some (.cells #[.int .i64 0] 34))) w.heap.size (some (.cells #[.int .i64 r] 34))) w.heap.size none=g.old.aU:=by
   funext c
   by_cases hc:c=w.heap.size
   .subst hc;simp[au,yA]
   .simp[au,hc]
  rw[this]
 rcases Vm with⟨rfl,k,rfl⟩|⟨rfl,k,rfl⟩
 .exact⟨aq,⟨_,_,ky⟩,.inr (.inl ⟨k,rfl,λw3 oF=>⟨rfl,fin w3 oF⟩⟩)⟩
 .exact⟨aq,⟨_,_,ky⟩,.inr (.inr ⟨k,rfl,λw3 oF=>⟨rfl,fin w3 oF⟩⟩)⟩
variable{i2 i3 i5:Nat}{s x:aw}{out ns:List Int}{b:Bool}{z:AV}
def CN(s:aw):(az s).map AV.cI=az s:=by simp[az,ai,AV.cI,vI]
def sN(R:Rel prog w0 n bP g S H a w){i:Nat}{cs:List AV}(hi:i<n)(hS:S i=.box i 0)(hH:H i=some cs)(hv:cs.map AV.cI=cs):RV (fI g true) cQ w (.ref cs) (a.tmps.getD i undef):=by
 have h:=R.slot i hi id;rw[hS]at h;have:=R.ia h true (λ_=>rfl);simp only[Go.AL.ia,hH,List.drop_zero,hv]at this;exact this
def Oa (hG:ar GI) (cm:GI w0) (R:Rel prog w0 n bP g S H a w) (y8:i2 < n) (h3n:i3 < n) (ND:i5 < n)
  (wz:S i2=.box i2 0) (yc:H i2=some (az s)) (O3:S i3=.box i3 0) (hH3:H i3=some [vI out]) (B_:S i5=.box i5 0) (I1:H i5=some [.bool false])
  (D6:AC prog GI 119 [bm s,vI out] (.ret (bm x))) {k:Int} (FQ:AC prog GI 69 [bm x] (.panic (rk k))):
  Calls prog 118 #[a.tmps.getD i2 undef,a.tmps.getD i3 undef,a.tmps.getD i5 undef] w λe w2=>Below w.heap.size w w2/\e=.panicked [{ v:=.iface 131 (.agg #[.int .i64 k]),recovered:=false }]:=by
 have gD:GI w:=hG w0 w cm (by have:=R.below;rwa [R.base]at this)
 have hA:AC prog GI 118 [.ref (az s),.ref [vI out],.ref [.bool false]] (.panic (rk k)):=by
  refine cw hG func118 ntmps118 c118 ?_;simp[c118,az,ai];refine oc D6 ?_;simp[bm,az,ai];refine oc FQ ?_;simp[eY]
 refine(hA w (fI g true) #[a.tmps.getD i2 undef,a.tmps.getD i3 undef,a.tmps.getD i5 undef] gD rfl (λi h h'=>?_)).mono ?_
 .match i,h with
  |0,_=>exact sN R y8 wz yc (CN s)
  |1,_=>exact sN R h3n O3 hH3 rfl
  |2,_=>exact sN R ND B_ I1 rfl
 .rintro en w2 ⟨iL,hi,qR,c,rfl,dh⟩;have hc:=Kd dh;subst hc;exact⟨iL,rfl⟩
def Qd (hG:ar GI) (cm:GI w0) (R:Rel prog w0 n bP g S H a w) (hd:d < n) (y8:i2 < n) (h3n:i3 < n) (ND:i5 < n) (Rg:d≠i5)
  (wz:S i2=.box i2 0) (yc:H i2=some (az s)) (O3:S i3=.box i3 0) (hH3:H i3=some [vI out]) (B_:S i5=.box i5 0) (I1:H i5=some [z])
  (D6:AC prog GI 119 [bm s,vI out] (.ret (bm x))) (FQ:AC prog GI 69 [bm x] (.ret (dR x ns))) (GK:AC prog GI 67 [dR x ns] (.ret (.bool b))):
  Calls prog 118 #[a.tmps.getD i2 undef,a.tmps.getD i3 undef,a.tmps.getD i5 undef] w λe w2=>e=.returned (.tuple #[])/\∃(c:Value)(g':Gh)(S':an)(H':ao),g'.old=g.old/\Rel prog w0 n bP g' S' H' (a.put (some d) c) w2/\(∀t,t≠d->S' t=S t)/\H'=au H i5 (some [.bool b]):=by
 have gD:GI w:=hG w0 w cm (by have:=R.below;rwa [R.base]at this);have r2:=sN R y8 wz yc (CN s);have r3:=sN R h3n O3 hH3 rfl;obtain⟨b5,Y1,e5⟩:=np R ND B_;have bl:=R.size;refine afJ func118 rfl ?_;refine(fy (m:=0)).1 ?_;refine ik (λc=>c.tmps.size=8/\c.defers=[]/\c.tmps.getD 0 undef=a.tmps.getD i2 undef/\c.tmps.getD 1 undef=a.tmps.getD i3 undef/\c.tmps.getD 2 undef=a.tmps.getD i5 undef) ⟨by simp[ntmps118],rfl,cJ _ _ 0 ahB,cJ _ _ 1 ahB,cJ _ _ 2 ahB⟩ ?_;rintro aC ⟨zC,dC,t0,t1,t2⟩
 refine lI hG (n:=8) (p:=5) (l2:=[5]) rfl zk zk (l:=(af.dl c118).take 5) zk zd (W:=λt=>decide (3<=t)) zk gD (fI g true)
  (λt=>match t with|0=>.ref (az s)|1=>.ref [vI out]|2=>.val (.pointer (some ⟨b5,0,none⟩))|_=>.bp) zC dC ?_ (K:=λS' _=>S' 7=.bool b/\S' 2=.val (.pointer (some ⟨b5,0,none⟩))) ?_ ?_
 .intro t ht;split
  .exact⟨rfl,by rw[t0];exact r2⟩
  .exact⟨rfl,by rw[t1];exact r3⟩
  .exact⟨rfl,by rw[t2,e5];exact .data _ _ (.val _ rfl)⟩
  .exact⟨rfl,.bp _⟩
 .simp[c118,af.dl,az,ai];refine oc D6 ?_;simp[bm,az,ai];refine oc FQ ?_;simp[dR,bw,az,ai];refine oc GK ?_;simp
 .rintro g1 S1 H1 a1 w1 nw R1 ⟨q7,q2⟩ _
  have nN:Below w.heap.size w w1:=by have:=R1.below;rwa [R1.base]at this
  have u7:=R1.slot 7 zd id;rw[q7]at u7;have u7:=u7.fN;have u2:=R1.slot 2 zd id;rw[q2]at u2;have u2:=u2.iA;have R2:=(R.jV nN).put d (.bool b) (.bool b) hd (.data _ _ (.bool _)) trivial;obtain⟨i4,Zg,Ra⟩:=iZ 4 1;have Lm:au S d (.bool b) i5=.box i5 0:=(aT _ _ (aeq Rg)).trans B_
  have j3:aD (au S d (.bool b)) H (.store .any i4.size (.t i5) (.t d))=some { v:=cy,dm:=some d,hw:=some (i5,[.bool b]) }:=by
   simp[aD,ev,Lm,B_,aeq Rg,I1,HR.okB,Ra,AV.cells,AV.storable,AV.ct,bC,bt,aO]
  obtain ⟨c2,w3,g3,dE,Uw,Dq,R3⟩:=nn R2 (o:={ dst:=none,op := .store 4 (.tmp i5) (.tmp d),type:=0,pos := "",after := #[],guard:=none }) (x1 := .tmp i5) (x2 := .tmp d) (y1 := .t i5) (y2 := .t d) (hr := .any) rfl rfl Zg (by simp [dz,ND]) (by simp [dz,hd]) (λ_ _=>id) (λ_ _=>id) j3
  have f5:(a.put (some d) (.bool b)).eval (.tmp i5)=.pointer (some ⟨b5,0,none⟩):=by
   show(a.put (some d) (.bool b)).tmps.getD i5 undef=_;rw[i_ _ _ _ _ zo,if_neg (aeq Rg),e5]
  have fd:(a.put (some d) (.bool b)).eval (.tmp d)=.bool b:=by
   show(a.put (some d) (.bool b)).tmps.getD d undef=_;rw[i_ _ _ _ _ zo,if_pos rfl]
  have bn:∀ o:Oper,o.op = .store 4 (.tmp 2) (.tmp 7)->(execOp a1.eval o).run prog w1=(execOp (a.put (some d) (.bool b)).eval { dst:=none,op := .store 4 (.tmp i5) (.tmp d),type:=0,pos := "",after := #[],guard:=none }).run prog w1:=by
   intro o ho;have k2:a1.eval (.tmp 2)=.pointer (some ⟨b5,0,none⟩):=u2;have k7:a1.eval (.tmp 7)=.bool b:=u7;unfold execOp;simp only[ho,k2,k7,f5,fd]
  have fin:∀u:Value,(a1.put none u).defers=[]/\∃v',(results f118 (a1.put none u).tmps).run prog w3=.ok v' w3/\(v'=.tuple #[]/\∃(c:Value)(g':Gh)(S':an)(H':ao),g'.old=g.old/\Rel prog w0 n bP g' S' H' (a.put (some d) c) w3/\(∀t,t≠d->S' t=S t)/\H'=au H i5 (some [.bool b])):=λu=>
   ⟨R1.defers.trans (by rw[nw]<;>rfl),.tuple #[],by simp[results,results118],rfl,.bool b,g3,_,_,Dq,R3,λt ht=>by simp[aP.S,AL.aW,au,ht],rfl⟩
  have Ks:∀u:Value,(a1.put none u).defers=[]/\∃v',(results f118 (a1.put none u).tmps).run prog w3=.ok v' w3/\(Ending.returned v'=.returned (.tuple #[])/\∃(c:Value)(g':Gh)(S':an)(H':ao),g'.old=g.old/\Rel prog w0 n bP g' S' H' (a.put (some d) c) w3/\(∀t,t≠d->S' t=S t)/\H'=au H i5 (some [.bool b])):=λu=>by
   obtain⟨q1,v',q2,rfl,q3⟩:=fin u;exact⟨q1,_,q2,rfl,q3⟩
  rcases dE with hr|⟨hr,_⟩
  .exact bf rfl rfl zr ((bn _ rfl).trans hr) (Ks _)
  .exact eT rfl rfl zr ((bn _ rfl).trans hr) (Ks undef)
end
def mE(s:aw)(out:List Int):Bool:=match kl (mD s out).name with
 |some es=>decide (m_ 0 (mD s out) (bW (mD s out) es)=(bW (mD s out) es).length)
 |none=>false
def RB{s:aw}(h:f_ s)(out:List Int):f_ (mD s out):=by
 have hl:=vW out s.name.words 0;exact⟨h.cells,⟨h.name.aM,h.name.aL,Nat.lt_of_le_of_lt hl h.name.words,λw hw=>h.name.aV w (sx hw),λw hw=>h.name.bZ w (sx hw)⟩⟩
def abf(hG:ar GI)(s:aw)(hs:f_ s)(hI:dj s=true)(out:List Int)(ho:ig s.name out=true):AC prog GI 73 [bm s,vI out] (.ret (.bool (mE s out))):=by
 have hI2:=Q5 hI ho;have hg:=gM hI;have nQ:=gM hI2;have nz:=(gx hg.name).words;have hol:=K5 ho;have a160:=Y4 hG s zo out zo;have yH:f_ (mD s out):=RB hs out;unfold mE
 obtain ⟨b,e,hO,og⟩:∃ (b:Bool) (e:Int),(match kl (mD s out).name with
   |some es=>decide (m_ 0 (mD s out) (bW (mD s out) es)=(bW (mD s out) es).length)
   |none=>false)=(e==0&&b)/\
   ∀(w0:World)(g:Gh)(S:an)(H:ao)(a:Act)(w:World),GI w0->Rel prog w0 14 bP g S H a w->S 2=.box 2 0->H 2=some (az s)->S 3=.box 3 0->H 3=some [vI out]->S 5=.box 5 0->H 5=some [.bool false]->
    Calls prog 40 #[.func (.func 118) #[] #[a.tmps.getD 2 undef,a.tmps.getD 3 undef,a.tmps.getD 5 undef]] w λen w2=>en=.returned (.int .i64 e)/\∃(c:Value)(g':Gh)(S':an)(H':ao),g'.old=g.old/\Rel prog w0 14 bP g' S' H' (a.put (some 8) c) w2/\S' 5=.box 5 0/\H' 5=some [.bool b]:=by
  cases gw:kl (mD s out).name with
  |some es=>
   have hn:=lU nQ (j8 nQ.name gw);refine⟨_,0,(ag3 _).symm,λw0 g S H a w cm R q2 Nt q3 qh3 q5 Vv=>?_⟩
   refine yz (d:=8) zk R λg1 w1 R1 nw _ _=>?_
   refine(Qd hG cm R1 (d:=8) zd zd zd zd zd q2 Nt q3 qh3 q5 Vv a160 (TC hG (mD s out) yH nQ gw) (Tg hG (mD s out) nQ (bW (mD s out) es) hn)).mono ?_;rintro en w2 ⟨rfl,c,g',S',H',nM,R',qZ,uM⟩;exact⟨rfl,c,g',S',H',nM,R',by rw[qZ 5 zd];exact q5,by rw[uM];exact aO _ _ _⟩
  |none=>
   refine⟨false,7,rfl,λw0 g S H a w cm R q2 Nt q3 qh3 q5 Vv=>?_⟩;refine(A6 zk R (r:=7) λg1 w1 R1 _ _=>?_).mono ?_
   .refine(Oa hG cm R1 zd zd zd q2 Nt q3 qh3 q5 Vv a160 (Kz hG (mD s out) yH nQ gw)).mono ?_;rintro en w2 ⟨hb,rfl⟩;exact⟨hb,.inl ⟨rfl,_,rfl⟩⟩
   .rintro en w2 ⟨rfl,g',Aw,R'⟩;exact⟨rfl,undef,g',au S 8 .bp,H,Aw,R'.put 8 .bp undef zd (.bp _) trivial,(aT _ _ zd).trans q5,Vv⟩
 rw[hO]
 refine AC.ji func73 rfl ntmps73 ahB λcc w=>?_
 refine dT hG c73.qa (λS' H'=>S' 2=.box 2 0/\H' 2=some (az s)/\S' 3=.box 3 0/\H' 3=some [vI out]) ?_ ?_
 .simp[c73,af.qa,bm,az,ai]
 rintro S1 H1 ⟨s2,h2,s3,h3⟩;show SW prog GI 14 none (.seq _ (.seq _ (.seq _ .ret))) _ _ _ _;refine dT hG c73.qb.qa (λS' H'=>S' 2=.box 2 0/\H' 2=some (az s)/\S' 3=.box 3 0/\H' 3=some [vI out]/\S' 5=.box 5 0/\H' 5=some [.bool false]) ?_ ?_
 .simp[c73,af.qa,af.qb,s2,h2,s3,h3]
 clear s2 h2 s3 h3;rintro S3 H3 ⟨s2,h2,s3,h3,s5,h5⟩
 refine SW.seq (SW.hand hG (p:=0) (lm:=[0,1]) (l2:=[2]) (jX:=[]) (oh:=[_,_]) (mw:=[_]) rfl rfl rfl rfl zk (λ_ h=>h) (mS:=[]) (mf:=(c73.qb.qb.qa.dl).drop 2) rfl zk rfl zk
  (K1:=λS' H'=>S' 2=.box 2 0/\H' 2=some (az s)/\S' 3=.box 3 0/\H' 3=some [vI out]/\S' 5=.box 5 0/\H' 5=some [.bool false])
  (K2:=λo S' H'=>o=Old.plain cc w/\S' 5=.box 5 0/\H' 5=some [.bool b]/\S' 8=.int .i64 e)
  (K3:=λo S' H'=>o=Old.plain cc w/\S' 5=.box 5 0/\H' 5=some [.bool b]/\S' 6=.int .i64 e) ⟨s2,h2,s3,h3,s5,h5⟩ ?_ ?_ ?_)
 .rintro w0 g S5 H5 a w5 m cm ho R ⟨s2,h2,s3,h3,s5,h5⟩;have bl:=R.size;refine bf rfl rfl zr (mB (fn:=.func 118) (c:=#[.tmp 2,.tmp 3,.tmp 5]) rfl) ?_
  obtain⟨fv,lV⟩:∃fv:Value,fv=.func (.func 118) #[] (#[Operand.tmp 2,.tmp 3,.tmp 5].map a.eval):=⟨_,rfl⟩
  show wpOpsIn _ _ _ _ _ [1] (a.put (some 7) (.func (.func 118) #[] (#[Operand.tmp 2,.tmp 3,.tmp 5].map a.eval))) w5;rw[<-lV];have R1:=R.put 7 .bp fv zd (.bp _) trivial
  obtain⟨a1,ny⟩:∃a1,a.put (some 7) fv=a1:=⟨_,rfl⟩
  rw[ny]at R1⊢
  have vv:fv=.func (.func 118) #[] #[a1.tmps.getD 2 undef,a1.tmps.getD 3 undef,a1.tmps.getD 5 undef]:=by
   have e1:=cg a 7 2 fv zo;have e2:=cg a 7 3 fv zo;have e4:=cg a 7 5 fv zo;rw[if_neg zd,ny]at e1 e2 e4;have wO:a1.tmps.getD 2 undef=a.eval (.tmp 2):=e1;have Nd:a1.tmps.getD 3 undef=a.eval (.tmp 3):=e2;have EG:a1.tmps.getD 5 undef=a.eval (.tmp 5):=e4;rw[wO,Nd,EG,lV];simp only[aeg,adU,aee]
  have iP:a1.eval (.tmp 7)=fv:=by rw[<-ny,cg _ _ _ _ zo,if_pos rfl]
  refine gC rfl rfl zr (gq (k:=40) (args:=#[.func (.func 118) #[] #[a1.tmps.getD 2 undef,a1.tmps.getD 3 undef,a1.tmps.getD 5 undef]]) w5 rfl rfl ?_ zk) (og w0 g _ _ a1 w5 cm R1 (by simp[au,s2]) h2 (by simp[au,s3]) h3 (by simp[au,s5]) h5) ?_
  .simp only[aeg,adU,aee,iP,<-vv]
  .rintro en w6 ⟨rfl,c,g',S',H',nM,R2,B_,I1⟩;refine⟨_,rfl,?_⟩;have R3:=R2.put 8 (.int .i64 e) (.int .i64 e) zd (.data _ _ (.int _ _)) trivial;rw[tm]at R3;exact⟨g',_,H',R3,nM.trans ho,by rw[aT _ _ zd];exact B_,I1,aO _ _ _⟩
 .rintro o S5 H5 ⟨rfl,s5,h5,s8⟩;refine⟨λ_ h=>h,?_⟩;simp[c73,af.qa,af.qb,af.dl,s5,h5,s8]
 .rintro o S5 H5 ⟨rfl,s5,h5,s6⟩;show SW prog GI 14 none (.seq _ .ret) _ _ _ _;refine dT hG c73.qb.qb.qb.qa (λS' H'=>S' 4=.bool (e==0&&b)) ?_ ?_
  .by_cases he:e=0
   .subst he;simp[c73,af.qa,af.qb,s5,h5,s6]
   .have nL:(e==0)=false:=by simpa using he
    simp[c73,af.qa,af.qb,s5,h5,s6,nL]
  rintro S6 H6 s4;refine SW.ret ⟨eo.plain rfl,rfl,_,?_,rfl⟩;show cH prog 14 [.tmp 4] S6 H6=_;simp[cH,db,c_,s4,AV.b_,AV.out]
end Go.Proofs.Tryz
namespace Go.Proofs.Tryz
open Go Go.AL Go.RowKit Go.Proofs Go.Proofs.Tram
attribute [local simp] ez fF fo eN eM ea eb dG dH eU dI da gZ g_ aF aD ev aP.S aP.H bt au aW AL.start AV.cells AV.storable AV.ct bC cb dU cd HR.okB post cH db c_ AV.out AV.b_ cU d_ fz ia AV.vw cW vI int cy aN di dQ iC jw eP dW bD
variable{GI:World->Prop}
def fq(t:List UInt8):aJ×Int:=if 320<t.length then(cK,3)else match j_ t with
 |.error _=>(cK,4)
 |.ok x=>if bj x then(x,0)else(cK,2)
def P7(t:List UInt8):G3 t=.dY [cE (fq t).1,.int .i64 (fq t).2]:=by
 unfold G3 fq;split
 .rfl
 .cases j_ t with
  |error e=>rfl
  |ok x=>cases h:bj x<;>simp[h]
def Yo(hG:ar GI)(hT:TB GI)(ot:ML GI)(t:List UInt8):AC prog GI 43 [.str t] (.ret (.dY [cE (fq t).1,.int .i64 (fq t).2])):=by
 by_cases h:t.length<=420
 .rw[<-P7];exact YJ hG hT ot t h
 .have hl:320<t.length:=zo
  have MW:(320:Int)<t.length:=zo
  obtain⟨i28,sg,sj⟩:=iZ 29 10;obtain⟨fs,fH⟩:=uZ 29;unfold fq;rw[if_pos hl];refine cw hG func43 ntmps43 c43 ?_;simp[c43,AV.aI,AV.cI,MW,bH,sg,fH,sj,eh,cE,ai,cK,ints]
def KZ(t:List UInt8):qI (fq t).1:=by
 have h0:qI cK:=⟨by simp[cK],by simp[cK],by simp[cK],by simp[cK],by simp[cK]⟩
 unfold fq;split
 .exact h0
 .cases h:j_ t with
  |error e=>exact h0
  |ok x=>
   have:=xh (t:=t) zo h;cases hs:bj x
   .simpa[hs]using h0
   .simpa[hs]using this
def eV{α β:Type}{x:Except (List UInt8) α}{f:α->Except (List UInt8) β}{b:β}(h:dv x f=.ok b):∃a,x=.ok a/\f a=.ok b:=by
 cases x with
 |error e=>cases h
 |ok a=>exact⟨a,rfl,h⟩
def KM{x y:aw}{r:List UInt8}(h:pM x r=.ok y):y.cells=x.cells/\y.name=x.name:=by
 unfold pM at h;split at h
 .obtain⟨a,_,h⟩:=eV h;obtain⟨b,_,h⟩:=eV h;obtain⟨c,_,h⟩:=eV h;obtain⟨d,_,h⟩:=eV h;cases h;exact⟨rfl,rfl⟩
 .cases h
def J3{x y:aw}{r:List UInt8}(h:pH x r=.ok y):(∃c,y.cells=x.cells++[c])/\y.name=x.name:=by
 unfold pH at h;split at h
 .obtain⟨a,_,h⟩:=eV h;obtain⟨b,_,h⟩:=eV h;cases h;exact⟨⟨_,rfl⟩,rfl⟩
 .cases h
def Jz{x y:Nat×aw}{r:List UInt8}(h:gh x r=.ok y):y.2.cells.length<=x.2.cells.length+1/\y.2.name=x.2.name:=by
 unfold gh at h;split at h
 .obtain⟨a,ha,h⟩:=eV h;cases h;obtain⟨h1,h2⟩:=KM ha;exact⟨by simp[h1],h2⟩
 .obtain⟨a,ha,h⟩:=eV h;cases h;obtain⟨⟨c,h1⟩,h2⟩:=J3 ha;exact⟨by simp[h1],h2⟩
def By:∀{L:List (List UInt8)}{x y:Nat×aw},fu gh x L=.ok y->y.2.cells.length<=x.2.cells.length+L.length/\y.2.name=x.2.name
 |[],x,y,h=>by cases h;exact⟨ahB,rfl⟩
 |r::L,x,y,h=>by
  obtain⟨a,ha,h⟩:=eV h;obtain⟨h1,h2⟩:=By h;obtain⟨h3,h4⟩:=Jz ha;exact⟨by simp;omega,h2.trans h4⟩
def rQ{t u:List UInt8}{x:aw}(h:jN t=.ok (x,u)):x.cells.length<=t.length+1/\x.name=cK:=by
 have G8:jN t=if firstT eW (aZ 10 t)<=0 then .error t
 else dv (fu gh (0,fb) ((aZ 10 t).take (firstT eW (aZ 10 t)).toNat)) λx=>if pv t (ec x.2)then .ok (x.2,t.drop (ec x.2).length)else .error t:=rfl
 rw[G8]at h;split at h
 .cases h
 obtain⟨a,ha,h⟩:=eV h;split at h
 case isFalse=>cases h
 cases h;obtain⟨h1,h2⟩:=By ha;have hl:=lM 10 t;refine⟨?_,h2⟩
 have:((aZ 10 t).take (firstT eW (aZ 10 t)).toNat).length<=(aZ 10 t).length:=by rw[adS];omega
 simp only[fb,List.length_nil]at h1;omega
def pK(t:List UInt8):aw×Int:=if 530<t.length then(fb,3)else match jN t with
 |.error _=>(fb,4)
 |.ok x=>if(fq x.2).2=3\/(fq x.2).2=4 then(fb,4)
  else if(fq x.2).2≠0\/dj { x.1 with name:=(fq x.2).1 }=false then(fb,2)
  else({ x.1 with name:=(fq x.2).1 },0)
noncomputable def uL:af:=af.qb c10.qb.qb.qb
def Qq(x:aw):(az x).map AV.aI=az x:=by simp[az,ai,AV.aI,vI]
def W9(hG:ar GI)(hT:TB GI)(ot:ML GI)(t:List UInt8):AC prog GI 10 [.str t] (.ret (.dY [bm (pK t).1,.int .i64 (pK t).2])):=by
 obtain⟨i31,oa,nC⟩:=iZ 31 15;obtain⟨fs,fH⟩:=uZ 31
 by_cases hl:530<t.length
 .have MW:(530:Int)<t.length:=zo
  unfold pK;rw[if_pos hl];refine cw hG func10 ntmps10 c10 ?_;simp[c10,AV.aI,AV.cI,MW,bH,oa,fH,nC,eh,bm,az,fb,ai,cK,ints]
 have MW:¬(530:Int)<t.length:=zo
 have Ss:pK t=match jN t with
 |.error _=>(fb,4)
 |.ok x=>if(fq x.2).2=3\/(fq x.2).2=4 then(fb,4)
  else if(fq x.2).2≠0\/dj { x.1 with name:=(fq x.2).1 }=false then(fb,2)
  else({ x.1 with name:=(fq x.2).1 },0):=by unfold pK;rw[if_neg hl]
 have J7:=abW hG ot t zo
 obtain ⟨e,z4,y5,LH,og⟩:∃ (e:Int) (z4:List AV) (y5:AV),((e=4∧pK t=(fb,4))∨(e=0∧∃ x u,x.cells.length≤t.length+1∧x.name=cK∧z4=az x∧y5 = .str u∧pK t=if (fq u).2=3∨(fq u).2=4 then (fb,4) else if (fq u).2≠0∨dj { x with name:=(fq u).1 }=false then (fb,2) else ({ x with name:=(fq u).1 },0))) ∧
   ∀(w0:World)(g:Gh)(S:an)(H:ao)(a:Act)(w:World),GI w0->Rel prog w0 42 bP g S H a w->S 1=.box 1 0->H 1=some [.str t]->S 4=.box 4 0->H 4=some (tW fb)->S 5=.box 5 0->H 5=some [.str []]->
    Calls prog 40 #[.func (.func 41) #[] #[a.tmps.getD 1 undef,a.tmps.getD 4 undef,a.tmps.getD 5 undef]] w λen w2=>en=.returned (.int .i64 e)/\∃(c:Value)(g':Gh)(S':an)(H':ao),g'.old=g.old/\Rel prog w0 42 bP g' S' H' (a.put (some 14) c) w2/\S' 2=S 2/\H' 2=H 2/\S' 4=.box 4 0/\H' 4=some z4/\S' 5=.box 5 0/\H' 5=some [y5]:=by
  cases hp:jN t with
  |ok p=>
   obtain⟨x,u⟩:=p;rw[hp]at J7;refine⟨0,az x,.str u,.inr ⟨rfl,x,u,(rQ hp).1,(rQ hp).2,rfl,rfl,by rw[Ss,hp]⟩,λw0 g S H a w cm R q1 h1 q4 h4 q5 h5=>?_⟩
   refine yz (d:=14) zk R λg1 w1 R1 nw _ _=>?_
   refine(Uo hG cm R1 (d:=14) (i1:=1) (i4:=4) (i5:=5) zd zd zd zd zd zd zd q1 h1 q4 h4 q5 h5 rfl rfl J7).mono ?_;rintro en w2 ⟨rfl,c,g',S',H',nM,R',qZ,uM⟩;refine⟨rfl,c,g',S',H',nM,R',qZ 2 zd,?_,by rw[qZ 4 zd];exact q4,?_,by rw[qZ 5 zd];exact q5,?_⟩
   .rw[uM];simp[au]
   .rw[uM];simp[au];exact Qq x
   .rw[uM];simp[au]
  |error er=>
   rw[hp]at J7;refine⟨4,tW fb,.str [],.inl ⟨rfl,by rw[Ss,hp]⟩,λw0 g S H a w cm R q1 h1 q4 h4 q5 h5=>?_⟩;refine(A6 zk R (r:=4) λg1 w1 R1 _ _=>?_).mono ?_
   .refine(P2 hG cm R1 (i1:=1) zd q1 h1 J7 _ _).mono ?_;rintro en w2 ⟨hb,rfl⟩;exact⟨hb,.inr ⟨rfl,_,rfl⟩⟩
   .rintro en w2 ⟨rfl,g',Aw,R'⟩;exact⟨rfl,undef,g',au S 14 .bp,H,Aw,R'.put 14 .bp undef zd (.bp _) trivial,aT _ _ zd,rfl,(aT _ _ zd).trans q4,h4,(aT _ _ zd).trans q5,h5⟩
 have a77:∀x:aw,x.cells.length<=t.length+1->∀u,AC prog GI 32 [bm { x with name:=(fq u).1 }] (.ret (.bool (dj { x with name:=(fq u).1 }))):=λx hx u=>sC hG _ ⟨by show x.cells.length<1000000;omega,KZ u⟩
 have DN:=λu=>Yo hG hT ot u
 clear Ss J7
 generalize pK t=r at*
 refine AC.ji func10 rfl ntmps10 ahB λcc w=>?_
 refine dT hG c10.qa (λS' H'=>S' 1=.box 1 0/\H' 1=some [.str t]/\S' 2=.box 2 0/\H' 2=some (tW fb)) ?_ ?_
 .simp[c10,af.qa,AV.aI,AV.cI,tW,fb,grow]
 rintro S H ⟨s1,h1,s2,h2⟩;refine SW.seq (dT hG c10.qb.qa.qa (λS' H'=>S' 1=.box 1 0/\H' 1=some [.str t]/\S' 2=.box 2 0/\H' 2=some (tW fb)/\S' 11=.bool false) ?_ ?_)
 .simp[c10,af.qa,af.qb,s1,h1,s2,h2,MW,AV.aI,AV.cI]
 clear s1 h1 s2 h2 S H;rintro S H ⟨s1,h1,s2,h2,bG⟩;refine SW.cond rfl false (by show S 11=_;rw[bG]) (SW.skip ?_);clear bG;show SW prog GI 42 none (.seq _ (.seq _ (.seq (.seq _ (.seq _ (.cond _ (.seq _ .ret) .skip))) _))) _ _ _ _;refine dT hG c10.qb.qb.qa (λS' H'=>S' 1=.box 1 0/\H' 1=some [.str t]/\S' 2=.box 2 0/\H' 2=some (tW fb)/\S' 4=.box 4 0/\H' 4=some (tW fb)) ?_ ?_
 .simp[c10,af.qa,af.qb,s1,h1,s2,h2,AV.aI,AV.cI,tW,fb,grow]
 clear s1 h1 s2 h2 S H;rintro S H ⟨s1,h1,s2,h2,s4,h4⟩;refine dT hG c10.qb.qb.qb.qa (λS' H'=>S' 1=.box 1 0/\H' 1=some [.str t]/\S' 2=.box 2 0/\H' 2=some (tW fb)/\S' 4=.box 4 0/\H' 4=some (tW fb)/\S' 5=.box 5 0/\H' 5=some [.str []]) ?_ ?_
 .simp[c10,af.qa,af.qb,s1,h1,s2,h2,s4,h4,AV.aI,AV.cI]
 clear s1 h1 s2 h2 s4 h4 S H;rintro S3 H3 ⟨s1,h1,s2,h2,s4,h4,s5,h5⟩
 refine SW.seq (SW.seq (SW.hand hG (p:=0) (lm:=[0,1]) (l2:=[2]) (jX:=[]) (oh:=[_,_]) (mw:=[_]) rfl rfl rfl rfl zk (λ_ h=>h) (mS:=[]) (mf:=(c10.qb.qb.qb.qb.qa.qa.dl).drop 2) rfl zk rfl zk
  (K1:=λS' H'=>S' 1=.box 1 0/\H' 1=some [.str t]/\S' 2=.box 2 0/\H' 2=some (tW fb)/\S' 4=.box 4 0/\H' 4=some (tW fb)/\S' 5=.box 5 0/\H' 5=some [.str []])
  (K2:=λo S' H'=>o=Old.plain cc w/\S' 2=.box 2 0/\H' 2=some (tW fb)/\S' 4=.box 4 0/\H' 4=some z4/\S' 5=.box 5 0/\H' 5=some [y5]/\S' 14=.int .i64 e)
  (K3:=λo S' H'=>o=Old.plain cc w/\S' 2=.box 2 0/\H' 2=some (tW fb)/\S' 4=.box 4 0/\H' 4=some z4/\S' 5=.box 5 0/\H' 5=some [y5]/\S' 6=.int .i64 e) ⟨s1,h1,s2,h2,s4,h4,s5,h5⟩ ?_ ?_ ?_))
 .rintro w0 g S5 H5 a w5 m cm ho R ⟨s1,h1,s2,h2,s4,h4,s5,h5⟩;have bl:=R.size;refine bf rfl rfl zr (mB (fn:=.func 41) (c:=#[.tmp 1,.tmp 4,.tmp 5]) rfl) ?_
  obtain⟨fv,lV⟩:∃fv:Value,fv=.func (.func 41) #[] (#[Operand.tmp 1,.tmp 4,.tmp 5].map a.eval):=⟨_,rfl⟩
  show wpOpsIn _ _ _ _ _ [1] (a.put (some 13) (.func (.func 41) #[] (#[Operand.tmp 1,.tmp 4,.tmp 5].map a.eval))) w5;rw[<-lV];have R1:=R.put 13 .bp fv zd (.bp _) trivial
  obtain⟨a1,ny⟩:∃a1,a.put (some 13) fv=a1:=⟨_,rfl⟩
  rw[ny]at R1⊢
  have vv:fv=.func (.func 41) #[] #[a1.tmps.getD 1 undef,a1.tmps.getD 4 undef,a1.tmps.getD 5 undef]:=by
   have e1:=cg a 13 1 fv zo;have e2:=cg a 13 4 fv zo;have e4:=cg a 13 5 fv zo;rw[if_neg zd,ny]at e1 e2 e4;have wO:a1.tmps.getD 1 undef=a.eval (.tmp 1):=e1;have Nd:a1.tmps.getD 4 undef=a.eval (.tmp 4):=e2;have EG:a1.tmps.getD 5 undef=a.eval (.tmp 5):=e4;rw[wO,Nd,EG,lV];simp only[aeg,adU,aee]
  have iP:a1.eval (.tmp 13)=fv:=by rw[<-ny,cg _ _ _ _ zo,if_pos rfl]
  refine gC rfl rfl zr (gq (k:=40) (args:=#[.func (.func 41) #[] #[a1.tmps.getD 1 undef,a1.tmps.getD 4 undef,a1.tmps.getD 5 undef]]) w5 rfl rfl ?_ zk) (og w0 g _ _ a1 w5 cm R1 (by simp[au,s1]) h1 (by simp[au,s4]) h4 (by simp[au,s5]) h5) ?_
  .simp only[aeg,adU,aee,iP,<-vv]
  .rintro en w6 ⟨rfl,c,g',S',H',nM,R2,wz,yc,AJ,E4,B_,I1⟩;refine⟨_,rfl,?_⟩;have R3:=R2.put 14 (.int .i64 e) (.int .i64 e) zd (.data _ _ (.int _ _)) trivial;rw[tm]at R3;exact⟨g',_,H',R3,nM.trans ho,by rw[aT _ _ zd,wz];simp[au,s2],yc.trans h2,by rw[aT _ _ zd];exact AJ,E4,by rw[aT _ _ zd];exact B_,I1,aO _ _ _⟩
 .rintro o S5 H5 ⟨rfl,s2,h2,s4,h4,s5,h5,eg⟩;refine⟨λ_ h=>h,?_⟩;simp[c10,af.qa,af.qb,af.dl,s2,h2,s4,h4,s5,h5,eg,AV.aI,AV.cI]
 rintro o S5 H5 ⟨rfl,s2,h2,s4,h4,s5,h5,s6⟩;clear s1 h1;show SW prog GI 42 none (.seq _ (.cond _ (.seq _ .ret) .skip)) _ _ _ _;refine dT hG c10.qb.qb.qb.qb.qa.qb.qa (λS' H'=>S' 2=.box 2 0/\H' 2=some (tW fb)/\S' 4=.box 4 0/\H' 4=some z4/\S' 5=.box 5 0/\H' 5=some [y5]/\S' 6=.int .i64 e/\S' 16=.bool (e !=0)) ?_ ?_
 .simp[c10,af.qa,af.qb,s2,h2,s4,h4,s5,h5,s6,tZ,ue,jn]
 clear s2 h2 s4 h4 s5 h5 s6;rintro S6 H6 ⟨s2,h2,s4,h4,s5,h5,s6,fR⟩
 rcases LH with⟨rfl,rfl⟩|⟨rfl,x,u,hxc,hxn,rfl,rfl,hr⟩
 .refine SW.cond rfl true (by show S6 16=_;rw[fR]<;>rfl) ?_;show SW prog GI 42 none (.seq _ .ret) _ _ _ _;refine dT hG uL.qa.qb.qb.qa.qa (λS' H'=>S' 2=.box 2 0/\S' 3=.int .i64 4/\H' 2=some (tW fb)) ?_ ?_
  .simp[c10,uL,af.qa,af.qb,AV.aI,AV.cI,s2,h2,s6,bH,tW,fb,grow]
  rintro S8 H8 ⟨s2,s3,h2⟩;refine SW.ret ⟨eo.plain rfl,rfl,_,?_,rfl⟩;show cH prog 42 [.cell 2 31,.tmp 3] S8 H8=_;simp[cH,db,c_,s2,s3,h2,oa,fH,nC,cd,eh,AV.out,AV.aI,AV.b_,AV.vw,AV.cI,bm,az,ai,tW,fb,grow,cK,vI,ints]
 refine SW.cond rfl false (by show S6 16=_;rw[fR]<;>rfl) (SW.skip ?_);clear s6 fR
 obtain⟨y,er,hy⟩:∃y er,fq u=(y,er):=⟨_,_,rfl⟩
 have a77:=a77 x hxc u;have DN:=DN u;rw[hy]at hr a77 DN;simp only at hr a77 DN;show SW prog GI 42 none (.seq _ (.seq (.seq _ (.cond _ (.seq _ .ret) .skip)) (.seq _ (.seq (.seq _ (.cond _ (.seq _ .ret) .skip)) (.seq _ .ret))))) _ _ _ _;refine dT hG uL.qb.qa (λS' H'=>S' 2=.box 2 0/\H' 2=some (tW fb)/\S' 4=.box 4 0/\H' 4=some (az x)/\S' 7=.box 7 0/\H' 7=some (ai y)/\S' 8=.int .i64 er) ?_ ?_
 .simp[c10,uL,af.qa,af.qb,AV.aI,AV.cI,s5,h5];refine oc DN ?_;simp[AV.aI,AV.cI,s2,h2,s4,h4,cE,ai]
 clear s2 h2 s4 h4 s5 h5;rintro S7 H7 ⟨s2,h2,s4,h4,s7,h7,s8⟩;refine SW.seq (dT hG uL.qb.qb.qa.qa (λS' H'=>S' 2=.box 2 0/\H' 2=some (tW fb)/\S' 4=.box 4 0/\H' 4=some (az x)/\S' 7=.box 7 0/\H' 7=some (ai y)/\S' 8=.int .i64 er/\S' 29=.bool (decide (er=3\/er=4))) ?_ ?_)
 .by_cases h3:er=3
  .simp[c10,uL,af.qa,af.qb,tZ,ue,jn,s2,h2,s4,h4,s7,h7,s8,h3]
  .have h3b:(er==3)=false:=by simpa using h3
   have Rj:(er==4)=decide (er=4):=by rw[aep];simp
   simp[c10,uL,af.qa,af.qb,tZ,ue,jn,s2,h2,s4,h4,s7,h7,s8,h3,h3b,Rj]
 clear s2 h2 s4 h4 s7 h7 s8;rintro S7 H7 ⟨s2,h2,s4,h4,s7,h7,s8,s29⟩
 by_cases Rj:er=3\/er=4
 .rw[if_pos Rj]at hr;subst hr;refine SW.cond rfl true (by show S7 29=_;rw[s29];simp[Rj]) ?_;show SW prog GI 42 none (.seq _ .ret) _ _ _ _;refine dT hG uL.qb.qb.qa.qb.qa.qa (λS' H'=>S' 2=.box 2 0/\S' 3=.int .i64 4/\H' 2=some (tW fb)) ?_ ?_
  .simp[c10,uL,af.qa,af.qb,AV.aI,AV.cI,s2,h2,bH,tW,fb,grow]
  clear s2 h2;rintro S8 H8 ⟨s2,s3,h2⟩;refine SW.ret ⟨eo.plain rfl,rfl,_,?_,rfl⟩;show cH prog 42 [.cell 2 31,.tmp 3] S8 H8=_;simp[cH,db,c_,s2,s3,h2,oa,fH,nC,cd,eh,AV.out,AV.aI,AV.b_,AV.vw,AV.cI,bm,az,ai,tW,fb,grow,cK,vI,ints]
 rw[if_neg Rj]at hr;refine SW.cond rfl false (by show S7 29=_;rw[s29];simp[Rj]) (SW.skip ?_);clear s29;show SW prog GI 42 none (.seq _ (.seq (.seq _ (.cond _ (.seq _ .ret) .skip)) (.seq _ .ret))) _ _ _ _;refine dT hG uL.qb.qb.qb.qa (λS' H'=>S' 2=.box 2 0/\H' 2=some (tW fb)/\S' 4=.box 4 0/\H' 4=some (az { x with name:=y })/\S' 8=.int .i64 er) ?_ ?_
 .simp[c10,uL,af.qa,af.qb,AV.aI,AV.cI,s2,h2,s4,h4,s7,h7,s8,az,ai]
 clear s2 h2 s4 h4 s7 h7 s8;rintro S7 H7 ⟨s2,h2,s4,h4,s8⟩
 obtain⟨X,hX⟩:∃X:aw,{ x with name:=y }=X:=⟨_,rfl⟩
 rw[hX]at hr a77 h4;refine SW.seq (dT hG uL.qb.qb.qb.qb.qa.qa (λS' H'=>S' 2=.box 2 0/\H' 2=some (tW fb)/\S' 4=.box 4 0/\H' 4=some (az X)/\S' 39=.bool (decide (er≠0\/dj X=false))) ?_ ?_)
 .by_cases h0:er=0
  .simp[c10,uL,af.qa,af.qb,AV.aI,AV.cI,s2,h2,s4,h4,s8,h0,az,ai];refine oc a77 ?_;simp[AV.aI,AV.cI,s2,h2,s4,h4,s8,h0,az,ai]
  .have h0b:(er !=0)=true:=by simpa using h0
   simp[c10,uL,af.qa,af.qb,tZ,ue,jn,s2,h2,s4,h4,s8,h0,h0b]
 clear s2 h2 s4 h4 s8;rintro S7 H7 ⟨s2,h2,s4,h4,E9⟩
 by_cases wG:er≠0\/dj X=false
 .rw[if_pos wG]at hr;subst hr;refine SW.cond rfl true (by show S7 39=_;rw[E9];simpa using wG) ?_;show SW prog GI 42 none (.seq _ .ret) _ _ _ _;refine dT hG uL.qb.qb.qb.qb.qa.qb.qa.qa (λS' H'=>S' 2=.box 2 0/\S' 3=.int .i64 2/\H' 2=some (tW fb)) ?_ ?_
  .simp[c10,uL,af.qa,af.qb,AV.aI,AV.cI,s2,h2,bH,tW,fb,grow]
  clear s2 h2;rintro S8 H8 ⟨s2,s3,h2⟩;refine SW.ret ⟨eo.plain rfl,rfl,_,?_,rfl⟩;show cH prog 42 [.cell 2 31,.tmp 3] S8 H8=_;simp[cH,db,c_,s2,s3,h2,oa,fH,nC,cd,eh,AV.out,AV.aI,AV.b_,AV.vw,AV.cI,bm,az,ai,tW,fb,grow,cK,vI,ints]
 rw[if_neg wG]at hr;subst hr;refine SW.cond rfl false (by show S7 39=_;rw[E9];simpa using wG) (SW.skip ?_);show SW prog GI 42 none (.seq _ .ret) _ _ _ _;refine dT hG uL.qb.qb.qb.qb.qb.qa (λS' H'=>S' 2=.box 2 0/\S' 3=.int .i64 0/\H' 2=some (az X)) ?_ ?_
 .simp[c10,uL,af.qa,af.qb,AV.aI,AV.cI,s2,h2,s4,h4,tW,fb,grow,az,ai]
 clear s2 h2 s4 h4;rintro S8 H8 ⟨s2,s3,h2⟩;refine SW.ret ⟨eo.plain rfl,rfl,_,?_,rfl⟩;show cH prog 42 [.cell 2 31,.tmp 3] S8 H8=_;simp[cH,db,c_,s2,s3,h2,oa,fH,nC,cd,eh,AV.out,AV.aI,AV.b_,AV.vw,AV.cI,bm,az,ai,vI]
end Go.Proofs.Tryz
namespace Go.Proofs.Tryz
open Go Go.AL Go.RowKit Go.Proofs Go.Proofs.Tram
def kA(s:aw)(d:Nat)(es:List Int):List (List Int):=(xn s.name d es).filter (mE s)
def th(s:aw)(d:Nat)(es:List Int)(i:Nat):List (List Int):=(List.range' i (s.name.words.length-i)).flatMap λk=>if px s.name k then kA s d (es++[(k:Int)])else[]
def Ka(s:aw)(es:List Int):kA s 0 es=if mE s es then[es]else[]:=by
 unfold kA xn
 cases h:mE s es<;>simp[h]
def LX(s:aw)(d:Nat)(es:List Int):kA s (d+1) es=th s d es (qS es):=by
 unfold kA th xn;rw[ahF]
 refine Fy λi _=>?_
 cases px s.name i<;>rfl
def JY(s:aw)(d:Nat)(es:List Int){i:Nat}(h:i<s.name.words.length):th s d es i=(if px s.name i then kA s d (es++[(i:Int)])else[])++th s d es (i+1):=by
 unfold th;rw[show s.name.words.length-i=s.name.words.length-(i+1)+1 by omega,aff,aeY]
def M_(s:aw)(d:Nat)(es:List Int):th s d es s.name.words.length=[]:=by
 unfold th
 rw[agL]<;>rfl
def C0{α β:Type}{f:α->List β}{b:Nat}(hf:∀x,(f x).length<=b):∀l:List α,(l.flatMap f).length<=b*l.length
 |[]=>ahB
 |a::l=>by
  rw[aeY,adV,List.length_cons,Nat.mul_succ];have:=C0 hf l;have:=hf a;omega
def DD{s:aJ}(h:s.words.length<=4):∀(d:Nat)(now:List Int),(xn s d now).length<=4^d
 |0,now=>by simp[xn]
 |d+1,now=>by
  unfold xn
  have h1:∀i:Nat,(if px s i then xn s d (now++[(i:Int)])else[]).length<=4^d:=by
   intro i;split
   .exact DD h d _
   .simp
  have h2:=C0 h1 (List.range' (qS now) (s.words.length-qS now));rw[List.length_range']at h2;rw[Nat.pow_succ];have h3:4^d*(s.words.length-qS now)<=4^d*4:=afN _ zo;omega
def Ot{s:aw}(h:s.name.words.length<=4){d:Nat}(hd:d<4)(es:List Int):(kA s d es).length<=64:=by
 have h1:=agB (mE s) (xn s.name d es);have h2:=DD h d es;have h3:4^d<=4^3:=Nat.pow_le_pow_right zd zo;unfold kA;omega
def yB(s:aw):Option (List Int):=(Pv s.name).find? (mE s)
def Bm(s:aw):yB s=((List.range s.name.words.length).flatMap λd=>kA s d []).head?:=by
 unfold yB Pv kA;rw[<-List.head?_filter,ahF]
def OF{α:Type}(f:Nat->List α){n m:Nat}(h:m<n)(hb:∀j,j<m->f j=[]){x:α}{l:List α}(hm:f m=x::l):((List.range n).flatMap f).head?=some x:=by
 have e:List.range n=List.range m++m::List.range' (m+1) (n-(m+1)):=by
  have h1:List.range' 0 m++List.range' (0+m) (n-(m+1)+1)=List.range' 0 (m+(n-(m+1)+1)):=agI;rw[aeh,show m+(n-(m+1)+1)=n by omega]at h1;rw[aft,aft,<-h1,aff]
 rw[e,afj,ahh.2 λj hj=>hb j (aeb.1 hj),List.nil_append,aeY,hm]
 rfl
def NA{α:Type}(f:Nat->List α){n:Nat}(hb:∀j,j<n->f j=[]):((List.range n).flatMap f).head?=none:=by
 rw[ahh.2 λj hj=>hb j (aeb.1 hj)]
 rfl
def Cr(s:aw):List AV:=match yB s with
 |some l=>[vI l,.int .i64 0]
 |none=>[vI [],.int .i64 5]
def IE(s:aw):List AV:=if dj s then Cr s else[vI [],.int .i64 2]
def V5:f_ fb:=⟨zd,zd,zd,zd,λ_ h=>(aey h).elim,λ_ h=>(aey h).elim⟩
def NF:az fb=[.slice .view [],.int .i64 0,.int .i64 0,.int .i64 0,.int .i64 0,.slice .view [],.slice .view [],.int .i64 0,.int .i64 0,.int .i64 0,.int .i64 0,.int .i64 0,.slice .view [],.int .i64 0,.int .i64 0]:=rfl
def M9{x y:aw}{r:List UInt8}(hx:kK x)(h:pM x r=.ok y):kK y:=by
 unfold pM at h;split at h
 .obtain⟨a,ha,h⟩:=eV h;obtain⟨b,hb,h⟩:=eV h;obtain⟨c,hc,h⟩:=eV h;obtain⟨d,hd,h⟩:=eV h;cases h;refine⟨λn hn=>?_,hx.cells⟩;simp only[ep,ad_,aey,agz]at hn;rcases hn with rfl|rfl|rfl|rfl
  .exact fO ha
  .exact fO hb
  .exact fO hc
  .exact fO hd
 .cases h
def Nv{x y:aw}{r:List UInt8}(hx:kK x)(h:pH x r=.ok y):kK y:=by
 unfold pH at h;split at h
 .obtain⟨a,ha,h⟩:=eV h;obtain⟨b,hb,h⟩:=eV h;cases h;refine⟨hx.head,λc hc=>?_⟩;rcases adG.1 hc with hc|hc
  .exact hx.cells c hc
  .rw[ad2]at hc;subst hc;exact⟨fO ha,fO hb⟩
 .cases h
def Of{x y:Nat×aw}{r:List UInt8}(hx:kK x.2)(h:gh x r=.ok y):kK y.2:=by
 unfold gh at h;split at h
 .obtain⟨a,ha,h⟩:=eV h;cases h;exact M9 hx ha
 .obtain⟨a,ha,h⟩:=eV h;cases h;exact Nv hx ha
def Dy:∀{L:List (List UInt8)}{x y:Nat×aw},kK x.2->fu gh x L=.ok y->kK y.2
 |[],x,y,hx,h=>by cases h;exact hx
 |r::L,x,y,hx,h=>by
  obtain⟨a,ha,h⟩:=eV h;exact Dy (Of hx ha) h
def Sl:kK fb:=⟨λn hn=>by simp[ep,fb]at hn;rcases hn with rfl|rfl|rfl|rfl<;>exact⟨zd,zd⟩,by simp[fb]⟩
def Kv{t u:List UInt8}{x:aw}(h:jN t=.ok (x,u)):kK x/\t=ec x++u/\x.name=cK:=by
 have hk:=(rQ h).2
 have G8:jN t=if firstT eW (aZ 10 t)<=0 then .error t
 else dv (fu gh (0,fb) ((aZ 10 t).take (firstT eW (aZ 10 t)).toNat)) λx=>if pv t (ec x.2)then .ok (x.2,t.drop (ec x.2).length)else .error t:=rfl
 rw[G8]at h;split at h
 .cases h
 obtain⟨a,ha,h⟩:=eV h;split at h
 case isFalse=>cases h
 rename_i hp;cases h;obtain⟨v,hv⟩:=sF.1 hp;refine⟨Dy Sl ha,?_,hk⟩
 conv=>rhs;rw[hv,List.drop_left]
 exact hv
end Go.Proofs.Tryz
namespace Go.Proofs.Tryz
open Go Go.AL Go.RowKit Go.Proofs Go.Proofs.Tram
attribute [local simp] ez fF fo eN eM ea eb dG dH eU dI da gZ g_ aF aD ev aP.S aP.H bt au aW AL.start AV.cells AV.storable AV.ct bC cb dU cd HR.okB post cH db c_ AV.out AV.b_ cU d_ fz ia AV.vw cW vI int cy aN di dQ iC jw eP dW bD AV.aI AV.cI
variable{GI:World->Prop}
def W6:Nat->Bool:=λt=>decide (6<=t)
def Hu:Nat->Bool:=λt=>decide (35<=t)
structure Hb(bF bN:Nat)(cS cR:Value)(n many:Int)(a:Act):Prop where
 size:a.tmps.size=50
 defers:a.defers=[]
 t0:a.tmps.getD 0 undef=.int .i64 n
 t1:a.tmps.getD 1 undef=.int .i64 many
 t2:a.tmps.getD 2 undef=cS
 t3:a.tmps.getD 3 undef=.pointer (some ⟨bN,0,none⟩)
 t4:a.tmps.getD 4 undef=.pointer (some ⟨bF,0,none⟩)
 t5:a.tmps.getD 5 undef=cR
def iz(s:aw)(es:List Int)(fv:Value)(n many:Int)(v8:AV):an:=λt=>match t with
 |0=>.int .i64 n
 |1=>.int .i64 many
 |2=>.ref (az s)
 |3=>.ref [.slice .view (ints es)]
 |5=>.ref [.val fv]
 |8=>v8
 |_=>.bp
section
variable{wB:World}{Mi:Nat->Nat->Prop}{bF bN:Nat}{s:aw}{cS cR fv:Value}{fs:List (List Int)}{es:List Int}{w:World}{a:Act}{n many:Int}
def Hb.step{a':Act}(fr:Hb bF bN cS cR n many a)(bl:a'.tmps.size=50)(eR:a'.defers=[])(h:eI W6 a a'):Hb bF bN cS cR n many a':=
 ⟨bl,eR,(h 0 rfl).trans fr.t0,(h 1 rfl).trans fr.t1,(h 2 rfl).trans fr.t2,(h 3 rfl).trans fr.t3,(h 4 rfl).trans fr.t4,(h 5 rfl).trans fr.t5⟩
def Lv.gJ (st:Lv wB Mi bF bN s cS cR fv fs es w) (fr:Hb bF bN cS cR n many a) {v8:AV} (h8:v8.aI=v8∧RV (fun _ _=>True) cQ w v8 (a.tmps.getD 8 undef)) :
  ∀t,t<50->(iz s es fv n many v8 t).aI=iz s es fv n many v8 t/\RV (λ_ _=>True) cQ w (iz s es fv n many v8 t) (a.tmps.getD t undef):=by
 intro t ht;unfold iz;split
 .rw[fr.t0];exact⟨rfl,.data _ _ (.int _ _)⟩
 .rw[fr.t1];exact⟨rfl,.data _ _ (.int _ _)⟩
 .rw[fr.t2];exact⟨rfl,st.s.mono (bg.same λ_ _ _ _=>trivial) λ_ _ h=>h⟩
 .rw[fr.t3];obtain⟨u,AP,xF,v,CK,xN,f1,f2,f3,f4,n1,n2,n3,n4⟩:=st.st;refine⟨rfl,.data _ _ (.ref _ _ _ (λ_=>v) (λi hi=>?_) (λk hk=>⟨trivial,?_⟩) (λk hk=>?_))⟩
  .have:i=0:=by simpa using hi
   subst this;rfl
  .have:k=0:=by simpa using hk
   subst this;simp[World.cell?,n1]
  .have:k=0:=by simpa using hk
   subst this
   exact RD.ofRow (size:=1) (es:=ints es) (by rw[cU];exact n2) (n3.mono (bg.same λ_ _ _ h=>h.elim)) λ_ _ _ _=>trivial
 .rw[fr.t5];exact⟨rfl,st.r.mono (bg.same λ_ _ _ _=>trivial) λ_ _ h=>h⟩
 .exact h8
 .exact⟨rfl,.bp _⟩
def Lv.dS (st:Lv wB Mi bF bN s cS cR fv fs es w) {w':World} {es':List Int} {v v':Value} {CK:TypeId} {V4:List Value} (hv:∃ ty,w.heap[bN]? = some (.cells #[v] ty (0,0))) (jF:l8 (fun b=>b=bN∨v.ownBlock=some b) w w')
  (hN:w'.heap[bN]?=some (.cells #[v'] CK (0,0))) (cZ:w'.ownsRow (bN+1) 3 1 v' es'.length V4) (oG:jo (λ_ _=>False) w' 1 (ints es') V4) (Ps:∀b,v'.ownBlock=some b->v.ownBlock=some b\/w.heap.size<=b):Lv wB Mi bF bN s cS cR fv fs es' w':=by
 obtain⟨u,AP,xF,v0,adg,xN,f1,f2,f3,f4,n1,n2,n3,n4⟩:=st.st;obtain⟨ty,hv⟩:=hv
 have E6:v0=v:=by
  rw[n1]at hv;simp only[ad8,Obj.cells.injEq,Array.mk.injEq,ae1]at hv;exact hv.1.1
 subst E6;have lF:=(adD.1 f1).1
 have old:∀b,b<w.heap.size->b≠bN->v0.ownBlock≠some b->w'.heap[b]?=w.heap[b]?:=λb hb h1 h2=>jF.block b hb (by rintro(h|h);exact h1 h;exact h2 h)
 have Xp:∀b k,Mi b k->w'.heap[b]?=w.heap[b]?:=λb k hm=>old b (st.lt b k hm) (λe=>st.gN k (e▸hm)) λe=>(n4 b e).2.2 k hm
 have Uh:bg Mi Mi w w':=bg.of_eq λb k hm=>⟨hm,Xp b k hm⟩
 refine⟨st.below.trans (jF.below st.below.size λb hb=>?_),st.ge,λb k hm=>aet (st.lt b k hm) jF.size,st.gF,st.gN,⟨u,AP,xF,v',CK,V4,(old bF lF st.ge.2.2 λe=>(n4 bF e).1 rfl).trans f1,iR f2 λb hb=>old b (f2.lt b hb).2 (f4 b hb).1 λe=>(n4 b e).2.1 hb,f3.mono (bg.of_eq λb k hm=>⟨hm,(Xp b k hm.1)⟩),f4,hN,cZ,oG,λb hb=>?_⟩,st.s.mono Uh λ_ _ h=>h,st.r.mono Uh λ_ _ h=>h⟩
 .rcases hb with rfl|hb
  .exact st.ge.2.1
  .have:=(n2.lt b hb).1;have:=st.ge.2.1;omega
 .rcases Ps b hb with h|h
  .exact n4 b h
  .exact⟨λe=>zo,λe=>by have:=(f2.lt b e).2;omega,λk hm=>by have:=st.lt b k hm;omega⟩
end
def A8 {P:Program} {a:Act} {o:Oper} {cl:Call} {f x y:Operand} {k:Nat} {cap:Array Value} (w:World) (ho:o.op = .call cl) (hc:cl.callee = .value f) (ha:cl.args = #[x,y]) (hf:a.eval f = .func (.func k) #[] cap) (hk:ee P k=true) :
  (execOp a.eval o).run P w=.ok (.enter k (#[a.eval x,a.eval y]++cap)) w:=by
 unfold execOp;simp[ho,fk hc,hf,Deferred.ofValue,invoke,ha,gp hk]
noncomputable def tU:af:=af.qb c72.qb.qb.qb
noncomputable def AY:af:=af.qb tU.qb.qa
noncomputable def DH:af:=af.qa AY.qb
def TN (hG:ar GI) {wB:World} (Ar:GI wB) {bF bN:Nat} {s:aw} (hs:f_ s) (hI:dj s=true) {cS cR fv:Value} (lV:fv = .func (.func 72) #[] #[cS,.pointer (some ⟨bN,0,none⟩),.pointer (some ⟨bF,0,none⟩),cR]) :
  ∀(d n:Nat)(es:List Int)(fs:List (List Int))(Mi:Nat->Nat->Prop)(w:World),qS es=n->n<=s.name.words.length->es.length+d<s.name.words.length->ig s.name es=true->(fs++kA s d es).length<=1000->Lv wB Mi bF bN s cS cR fv fs es w->
   Calls prog 72 #[.int .i64 n,.int .i64 d,cS,.pointer (some ⟨bN,0,none⟩),.pointer (some ⟨bF,0,none⟩),cR] w λe w'=>e=.returned (.tuple #[])/\∃tH,(∀b k,Mi b k->tH b k)/\Lv wB tH bF bN s cS cR fv (fs++kA s d es) es w':=by
 have nz:=(gx (gM hI).name).words.2;intro d
 induction d with
 |zero=>?_
 |succ d ih=>?_
 all_goals intro n es fs Mi w oG hn hd ho hB st
 all_goals refine(iV (ro:=none) (m:=0)).1 (ag2 func72 rfl trivial ?_)
 .have gD:GI w:=hG wB w Ar st.below
  have fr:Hb bF bN cS cR n ((0:Nat):Int) { tmps:=#[.int .i64 n,.int .i64 ((0:Nat):Int),cS,.pointer (some ⟨bN,0,none⟩),.pointer (some ⟨bF,0,none⟩),cR]++Array.replicate (f72.ntmps-6) undef,defers:=[] }:=
   ⟨by simp[ntmps72],rfl,cJ _ _ 0 ahB,cJ _ _ 1 ahB,cJ _ _ 2 ahB,cJ _ _ 3 ahB,cJ _ _ 4 ahB,cJ _ _ 5 ahB⟩
  rw[Ka]at hB⊢;refine adT (adT ?_);refine cL hG de (n:=50) (ac:=af.qa c72.qa) (W:=W6) zk zk zk gD (λ_ _=>True) (iz s es fv n ((0:Nat):Int) .bp) fr.size fr.defers (st.gJ fr ⟨rfl,.bp _⟩) (K:=λS' _=>S' 10=.bool true) ?_ ?_
  .simp[c72,af.qa,iz]
  rintro g S' H' a w1 hg R1 hb bn;have fr:=fr.step R1.size (by rw[R1.defers,hg]<;>rfl) bn;have st:=st.grow (by have:=R1.below;rwa [R1.base]at this);have ht:=R1.slot 10 zd (λh=>h);rw[hb]at ht;have uR:=ht.fN;clear ht bn hb hg R1 g S' H' gD;have gD:GI w1:=hG wB w1 Ar st.below;show Code.wpIn _ _ _ _ _ a w1;refine aeB (t:=true) uR ?_;simp only[aed];refine adT (adT ?_);have acQ:=abf hG s hs hI es ho;refine cL hG de (n:=50) (ac:=af.qa c72.qa.qb.qa.qa) (W:=W6) zk zk zk gD (λ_ _=>True) (iz s es fv n ((0:Nat):Int) .bp) fr.size fr.defers (st.gJ fr ⟨rfl,.bp _⟩) (K:=λS' _=>S' 13=.bool (mE s es)) ?_ ?_
  .simp[c72,af.qa,af.qb,iz,az,ai];refine oc acQ ?_;simp
  rintro g S' H' a w1 hg R1 hb bn;have fr:=fr.step R1.size (by rw[R1.defers,hg]<;>rfl) bn;have st:=st.grow (by have:=R1.below;rwa [R1.base]at this);have ht:=R1.slot 13 zd (λh=>h);rw[hb]at ht;have uR:=ht.fN;clear ht bn hb hg R1 g S' H' gD;have gD:GI w1:=hG wB w1 Ar st.below;show Code.wpIn _ _ _ _ _ a w1;refine aeB (t:=mE s es) uR ?_
  have Zr:es.length<1000:=zo
  have hf4:fs.length<100000:=by rw[adV]at hB;omega
  cases Vm:mE s es with
  |true=>
   simp only[aed];refine IH hG st gD fr.size fr.defers fr.t3 fr.t4 Zr hf4 rfl rfl rfl rfl rfl rfl ⟨rfl,rfl,rfl⟩ ⟨rfl,rfl,rfl⟩ ⟨rfl,rfl,rfl⟩ ⟨rfl,rfl,rfl⟩ ⟨rfl,rfl,rfl⟩ ⟨rfl,rfl,rfl⟩ ⟨rfl,rfl⟩ ⟨rfl,rfl,rfl⟩ zk ?_;intro a' w' tH bl eR _ hM sK;show Code.wpIn _ _ _ _ _ a' w';exact afC ⟨eR,.tuple #[],by simp[results,results72],rfl,tH,hM,sK⟩
  |false=>
   simp only[adM,ad1,aeI];refine afb ?_;show Code.wpIn _ _ _ _ _ a w1;exact afC ⟨fr.defers,.tuple #[],by simp[results,results72],rfl,Mi,λ_ _ h=>h,st⟩
 .have gD:GI w:=hG wB w Ar st.below
  have fr:Hb bF bN cS cR n ((d+1:Nat):Int) { tmps:=#[.int .i64 n,.int .i64 ((d+1:Nat):Int),cS,.pointer (some ⟨bN,0,none⟩),.pointer (some ⟨bF,0,none⟩),cR]++Array.replicate (f72.ntmps-6) undef,defers:=[] }:=
   ⟨by simp[ntmps72],rfl,cJ _ _ 0 ahB,cJ _ _ 1 ahB,cJ _ _ 2 ahB,cJ _ _ 3 ahB,cJ _ _ 4 ahB,cJ _ _ 5 ahB⟩
  rw[LX,oG]at hB⊢
  have hd0:(((d+1:Nat):Int)==0)=false:=by rw[aeo];omega
  generalize hmn:((d+1:Nat):Int)=mn at*
  refine adT (adT ?_);refine cL hG de (n:=50) (ac:=af.qa c72.qa) (W:=W6) zk zk zk gD (λ_ _=>True) (iz s es fv n mn .bp) fr.size fr.defers (st.gJ fr ⟨rfl,.bp _⟩) (K:=λS' _=>S' 10=.bool false) ?_ ?_
  .simp[c72,af.qa,iz,hd0]
  rintro g S' H' a w1 hg R1 hb bn;have fr:=fr.step R1.size (by rw[R1.defers,hg]<;>rfl) bn;have st:=st.grow (by have:=R1.below;rwa [R1.base]at this);have ht:=R1.slot 10 zd (λh=>h);rw[hb]at ht;have uR:=ht.fN;clear ht bn hb hg R1 g S' H' gD;have gD:GI w1:=hG wB w1 Ar st.below;show Code.wpIn _ _ _ _ _ a w1;refine aeB (t:=false) uR ?_;simp only[adM,ad1];refine afb ?_;show Code.wpIn _ _ _ _ _ a w1;refine adT ?_;refine cL hG de (n:=50) (ac:=af.qa c72.qb) (W:=W6) zk zk zk gD (λ_ _=>True) (iz s es fv n mn .bp) fr.size fr.defers (st.gJ fr ⟨rfl,.bp _⟩) (K:=λS' _=>S' 8=.int .i64 n) ?_ ?_
  .simp[c72,af.qa,af.qb,iz]
  rintro g S' H' a w2 hg R1 hb bn;have fr:=fr.step R1.size (by rw[R1.defers,hg]<;>rfl) bn;have st:=st.grow (by have:=R1.below;rwa [R1.base]at this);have ht:=R1.slot 8 zd (λh=>h);rw[hb]at ht;have ht8:=ht.int_eq;clear ht bn hb hg R1 g S' H' gD uR;show Code.wpIn _ _ _ _ _ a w2
  refine ae9 (ahi (λa w=>∃(i:Nat)(JO:List (List Int))(tH:Nat->Nat->Prop),Hb bF bN cS cR n mn a/\a.tmps.getD 8 undef=.int .i64 (i:Nat)/\n<=i/\i<=s.name.words.length/\(∀b k,Mi b k->tH b k)/\Lv wB tH bF bN s cS cR fv JO es w/\JO++th s d es i=fs++th s d es n)
   (λa _=>match a.tmps.getD 8 undef with|.int _ i=>s.name.words.length-i.toNat|_=>0) ⟨n,fs,Mi,fr,ht8,adF _,hn,λ_ _ h=>h,st,rfl⟩ ?_)
  clear ht8;rintro a w3 ⟨i,JO,tH,fr,h8,Et,dk,Yz,st,fH⟩;have gD:GI w3:=hG wB w3 Ar st.below
  have T_:(AV.int .i64 (i:Int)).aI=.int .i64 (i:Int)/\RV (λ_ _=>True) cQ w3 (.int .i64 (i:Int)) (a.tmps.getD 8 undef):=⟨rfl,by rw[h8];exact .data _ _ (.int _ _)⟩
  refine adT (adT ?_);refine cL hG de (n:=50) (ac:=af.qa tU.qa) (W:=W6) zk zk zk gD (λ_ _=>True) (iz s es fv n mn (.int .i64 (i:Int))) fr.size fr.defers (st.gJ fr T_) (K:=λS' _=>S' 8=.int .i64 i/\S' 25=.bool (decide (i<s.name.words.length))) ?_ ?_
  .simp[c72,tU,af.qa,af.qb,iz,az,ai]
  rintro g S' H' a4 w4 hg R1 ⟨q8,q25⟩ bn;have fr:=fr.step R1.size (by rw[R1.defers,hg]<;>rfl) bn;have st:=st.grow (by have:=R1.below;rwa [R1.base]at this);have ht:=R1.slot 25 zd (λh=>h);rw[q25]at ht;have XD:=ht.fN;have hu:=R1.slot 8 zd (λh=>h);rw[q8]at hu;have SG:=hu.int_eq;clear ht hu bn q8 q25 hg R1 g S' H' gD T_;have gD:GI w4:=hG wB w4 Ar st.below;show Code.wpIn _ _ _ _ _ a4 w4;refine aeB (t:=decide (i<s.name.words.length)) XD ?_
  by_cases aq:i<s.name.words.length
  case neg=>
   simp only[aq,agP,adM,ad1];refine afS ?_
   have IK:i=s.name.words.length:=zo
   rw[IK,M_,aeI]at fH;simp only[Exit.then,Exit.inBlock,aed];rw[<-fH];exact⟨fr.defers,.tuple #[],by simp[results,results72],rfl,tH,Yz,st⟩
  simp only[aq,agX,aed];refine afb ?_;show Code.wpIn _ _ _ _ _ a4 w4;rw[JY s d es aq]at fH
  have T_:(AV.int .i64 (i:Int)).aI=.int .i64 (i:Int)/\RV (λ_ _=>True) cQ w4 (.int .i64 (i:Int)) (a4.tmps.getD 8 undef):=⟨rfl,by rw[SG];exact .data _ _ (.int _ _)⟩
  have mX:px s.name i=s.name.words[i].free:=by simp[px,qF,aq]
  have fin:∀ {Q:Exit→Act→World→Prop} {a5:Act} {w5:World} {Ym:List (List Int)} {Yn:Nat→Nat→Prop},Hb bF bN cS cR n mn a5→a5.tmps.getD 8 undef = .int .i64 (i:Nat)→Lv wB Yn bF bN s cS cR fv Ym es w5 →
    (∀a6 w6,Hb bF bN cS cR n mn a6->a6.tmps.getD 8 undef=.int .i64 ((i+1:Nat):Int)->Lv wB Yn bF bN s cS cR fv Ym es w6->Q .normal a6 w6)->∀(id:Nat)(ops:Array Oper),kW (.region id ops false)=true->dK prog 50 (.region id ops false)=af.qb tU.qb->jQ ops W6=true->(Code.region id ops false).wpIn (FR none) 0 prog Q a5 w5:=λ{Q a5 w5 Ym Yn} IA h85 Mc hQ id ops hc oL hW=>by
   have aaV:(AV.int .i64 (i:Int)).aI=.int .i64 (i:Int)/\RV (λ_ _=>True) cQ w5 (.int .i64 (i:Int)) (a5.tmps.getD 8 undef):=⟨rfl,by rw[h85];exact .data _ _ (.int _ _)⟩
   refine cL hG de (n:=50) hc oL hW (hG wB w5 Ar Mc.below) (λ_ _=>True) (iz s es fv n mn (.int .i64 (i:Int))) IA.size IA.defers (Mc.gJ IA aaV) (K:=λS' _=>S' 8=.int .i64 ((i+1:Nat):Int)) ?_ ?_
   .have pZ:IntKind.i64.wrap ((i:Int)+1)=i+1:=aQ zo;simp[c72,tU,af.qa,af.qb,iz,pZ]
   intro g S' H' a6 w6 hg R1 MB wq;have e86:=R1.slot 8 zd (λh=>h);rw[MB]at e86;exact hQ a6 w6 (IA.step R1.size (by rw[R1.defers,hg]<;>rfl) wq) e86.int_eq (Mc.grow (by have:=R1.below;rwa [R1.base]at this))
  refine adT (ae9 (adT ?_));refine cL hG de (n:=50) (ac:=af.qa AY) (W:=W6) zk zk zk gD (λ_ _=>True) (iz s es fv n mn (.int .i64 (i:Int))) fr.size fr.defers (st.gJ fr T_) (K:=λS' _=>S' 8=.int .i64 i/\S' 34=.bool (px s.name i)) ?_ ?_
  .rw[mX];simp[c72,tU,AY,af.qa,af.qb,iz,az,ai,aq,cG]
  rintro g S' H' a5 w5 hg R1 ⟨q8,q34⟩ bn;have fr:=fr.step R1.size (by rw[R1.defers,hg]<;>rfl) bn;have st:=st.grow (by have:=R1.below;rwa [R1.base]at this);have ht:=R1.slot 34 zd (λh=>h);rw[q34]at ht;have abG:=ht.fN;have hu:=R1.slot 8 zd (λh=>h);rw[q8]at hu;have SG:=hu.int_eq;clear ht hu bn q8 q34 hg R1 g S' H' gD T_ XD;have gD:GI w5:=hG wB w5 Ar st.below;show Code.wpIn _ _ _ _ _ a5 w5;refine aeB (t:=px s.name i) abG ?_
  cases qR:px s.name i with
  |false=>
   simp only[adM,ad1];refine afb ?_;simp only[Exit.then,Exit.inBlock];rw[qR]at fH;refine fin fr SG st (λa6 w6 Kr MB MJ=>?_) _ _ zk zk zk;refine⟨⟨i+1,JO,tH,Kr,MB,zo,zo,Yz,MJ,by simpa using fH⟩,?_⟩;rw[MB,h8];show s.name.words.length-((i+1:Nat):Int).toNat<s.name.words.length-(i:Int).toNat;rw[Int.toNat_natCast,Int.toNat_natCast];omega
  |true=>
   simp only[aed];rw[qR]at fH
   have Sp:es.length+1<s.name.words.length:=zo
   obtain⟨u,AP,xF,v,CK,xN,f1,f2,f3,f4,n1,n2,n3,n4⟩:=st.st;obtain⟨i3,CM,uI⟩:=iZ 3 1;obtain⟨i23,PG,JE⟩:=iZ 23 1;have Zv:(ints es).length=es.length:=cU es;refine adT ?_
   refine xf de (n:=50) (ac:=af.qa DH) zk zk zk (W:=Hu) zk (λ_ _=>False)
    (λt=>match t with|3=>.box 3 0|8=>.int .i64 (i:Int)|_=>.bp) (nm:=3) (tp:=3) (es:=ints es) (es':=ints (es++[(i:Int)])) zd rfl fr.t3 fr.size fr.defers n1 CM (by rw[uI,Zv];exact n2) (by rw[uI];exact n3.mono (bg.same λ_ _ _ h=>h.elim)) ?_ ?_ (by rw[uI];exact wi _) (xQ _) ?_
   .intro t ht;split
    .exact⟨rfl,.inl ⟨rfl,fr.t3⟩⟩
    .exact⟨rfl,.inr (by rw[SG];exact .data _ _ (.int _ _))⟩
    .exact⟨rfl,.inr (.bp _)⟩
   .have nt:es.length+1<1048576:=zo
    have aco:ints (es++[(i:Int)])=ints es++[.int .i64 (i:Int)]:=by simp[ints]
    have bV:=qK es;have k1:aG 1 [AV.int .i64 (i:Int)]=true:=rfl;rw[aco]
    cases El:v.ownBlock with
    |none=>
     have he:es=[]:=by
      rcases n2.2 with⟨_,h⟩|⟨gg,cap,cur,rfl,_⟩
      .exact aem h
      .cases El
     subst he;simp[c72,tU,AY,DH,af.qa,af.qb,nU,El,k1,ints]
    |some bv=>
     simp[c72,tU,AY,DH,af.qa,af.qb,nU,El,k1,bV,nt]
   intro a6 w6 v' Cj xs6 abp Tv wq hN6 Nk TG PU UB;have Kr:=fr.step abp Tv (eI.weaken wq λt ht=>by simp[W6]at ht;simp[Hu];omega);have MB:a6.tmps.getD 8 undef=.int .i64 (i:Int):=(wq 8 rfl).trans SG;have MJ:Lv wB tH bF bN s cS cR fv JO (es++[(i:Int)]) w6:=st.dS ⟨_,n1⟩ PU hN6 (by rw[uI,cU]at Nk;exact Nk) (by rw[uI]at TG;exact TG) UB;clear UB PU TG Nk hN6 n1 n2 n3 n4 f1 f2 f3 f4;show Code.wpIn _ _ _ _ _ a6 w6
   have aa5:(AV.int .i64 (i:Int)).aI=.int .i64 (i:Int)/\RV (λ_ _=>True) cQ w6 (.int .i64 (i:Int)) (a6.tmps.getD 8 undef):=⟨rfl,by rw[MB];exact .data _ _ (.int _ _)⟩
   refine adT ?_;refine lI hG (n:=50) (p:=5) (l2:=[5]) rfl zk zk (l:=(DH.qb.qa.dl).take 5) zk zd (W:=Hu) zk (hG wB w6 Ar MJ.below) (λ_ _=>True) (iz s (es++[(i:Int)]) fv n mn (.int .i64 (i:Int))) Kr.size Kr.defers (MJ.gJ Kr aa5) (K:=λS' _=>S' 39=.val fv/\S' 41=.int .i64 ((i+1:Nat):Int)/\S' 43=.int .i64 (d:Nat)) ?_ ?_
   .have pZ:IntKind.i64.wrap ((i:Int)+1)=i+1:=aQ zo
    have vt:IntKind.i64.wrap (mn-1)=d:=by rw[aQ zo];omega
    simp[c72,tU,AY,DH,af.qa,af.qb,af.dl,iz,pZ,vt]
   rintro g S' H' a7 w7 hg R1 ⟨q39,q41,UW⟩ Ib;have Z':=Kr.step R1.size (by rw[R1.defers,hg]<;>rfl) (eI.weaken Ib λt ht=>by simp[W6]at ht;simp[Hu];omega);have st7:=MJ.grow (by have:=R1.below;rwa [R1.base]at this);have h87:a7.tmps.getD 8 undef=.int .i64 (i:Int):=(Ib 8 rfl).trans MB;have VT:=R1.slot 39 zd (λh=>h);rw[q39]at VT;have VT:=VT.iA;have Vl:=R1.slot 41 zd (λh=>h);rw[q41]at Vl;have Vl:=Vl.int_eq;have Ef:=R1.slot 43 zd (λh=>h);rw[UW]at Ef;have Ef:=Ef.int_eq;clear R1 hg Ib q39 q41 UW
   have ku:ig s.name (es++[(i:Int)])=true:=by rw[QI ho (by rw[oG];exact Et) aq Sp];exact qR
   have NX:(JO++kA s d (es++[(i:Int)])).length<=1000:=by
    rw[<-fH]at hB;simp only[aed,adV]at hB⊢;omega
   have ml:=ih (i+1) (es++[(i:Int)]) JO tH w7 (by unfold qS;simp) zo (by simp;omega) ku NX st7;refine gC rfl rfl zr (f:=72) (args:=#[.int .i64 ((i+1:Nat):Int),.int .i64 (d:Nat),cS,.pointer (some ⟨bN,0,none⟩),.pointer (some ⟨bF,0,none⟩),cR]) (w':=w7) ?_ ml ?_
   .have k39:a7.eval (.tmp 39)=fv:=VT;have k41:a7.eval (.tmp 41)=.int .i64 ((i+1:Nat):Int):=Vl;have k43:a7.eval (.tmp 43)=.int .i64 (d:Nat):=Ef;refine(A8 (f:=.tmp 39) (x:=.tmp 41) (y:=.tmp 43) w7 rfl rfl rfl (k39.trans lV) zk).trans ?_;rw[k41,k43]
    rfl
   rintro en w8 ⟨rfl,Mi8,hM8,st8⟩;refine⟨_,rfl,?_⟩;show wpOpsIn _ _ _ _ _ [] (a7.put (some 44) (.tuple #[])) w8
   obtain⟨a8,Wm⟩:∃a8,a7.put (some 44) (.tuple #[])=a8:=⟨_,rfl⟩
   have Vf:eI Hu a7 a8:=by rw[<-Wm];exact eI.put (λt ht=>by cases ht;rfl) _
   have aaZ:a8.tmps.size=50:=by rw[<-Wm];simp[Act.put,Z'.size]
   have aa':a8.defers=[]:=by rw[<-Wm];exact Z'.defers
   rw[Wm];have V6:=Z'.step aaZ aa' (eI.weaken Vf λt ht=>by simp[W6]at ht;simp[Hu];omega);have h88:a8.tmps.getD 8 undef=.int .i64 (i:Int):=(Vf 8 rfl).trans h87;show Code.wpIn _ _ _ _ _ a8 w8;obtain⟨u,AP,xF,v8,ty8,Wu,f1,f2,f3,f4,n1,n2,n3,n4⟩:=st8.st
   have hl8:Wu.length=(es.length+1)*1:=by have:=n2.1;simpa using this
   refine aea ?_;show wpOpsIn _ _ _ _ _ [0,1,2,3,4,5] a8 w8
   refine KS (P:=prog) (n:=50) (T:=23) (el:=3) (p:=3) (t1:=45) (t2:=46) (t3:=47) (t4:=48) (t5:=49) (bN:=bN) (i:=i3) (iT:=i23) (v:=v8) (ty:=ty8) (k:=es.length) (xs:=Wu.take (es.length*1)) (last:=Wu.drop (es.length*1))
    rfl rfl rfl rfl rfl rfl ⟨rfl,rfl,rfl⟩ ⟨rfl,rfl,rfl⟩ ⟨rfl,rfl,rfl⟩ ⟨rfl,rfl,rfl⟩ ⟨rfl,rfl,rfl⟩ ⟨rfl,rfl,rfl⟩ rfl rfl rfl zk PG JE CM zd V6.size zd V6.t3 n1 (by rw[aeX,uI];simpa using n2) (by rw[uI,adS,hl8];omega) zo ?_
   intro a9 v9 acw ac' Qw VO aaT OC
   have l_:∀b,b≠bN->(w8.setRow bN #[v9]).heap[b]?=w8.heap[b]?:=λb hb=>aeO w8 bN b #[v9] hb
   have st9:Lv wB Mi8 bF bN s cS cR fv (JO++kA s d (es++[(i:Int)])) es (w8.setRow bN #[v9]):=by
    refine st8.dS ⟨_,n1⟩ ⟨rfl,rfl,rfl,ahB,λb _ hm=>l_ b λe=>hm (.inl e)⟩ (afq w8 bN _ #[v9] ty8 (0,0) n1) (V4:=Wu.take (es.length*1)) (iR (by rw[uI]at OC;exact OC) λb hb=>l_ b λe=>by rw[VO]at hb;have:=(n2.lt b hb).1;omega) ⟨wi es,λj hj k z_=>?_⟩ λb hb=>.inl (by rw[<-VO];exact hb)
    have Ji:k=0:=by
     have:=(wi es _ (adC hj)).1;omega
    subst Ji
    have M5:j<es.length:=by rw[cU]at hj;exact hj
    have dZ:j<(ints (es++[(i:Int)])).length:=by rw[cU];simp;omega
    have im:(ints (es++[(i:Int)]))[j]=(ints es)[j]:=by
     simp only[ints,ad6,adU,aee];exact ad5 (by simpa using M5)
    obtain⟨x,x1,x2⟩:=n3.2 j dZ 0 (by rw[im];exact z_);refine⟨x,by rw[agi zo];exact x1,?_⟩;simp only[im]at x2;exact x2.mono (bg.of_eq λ_ _ h=>h.elim)
   have Xc:eI Hu a8 a9:=λt ht=>by
    have:t<35:=by simp[Hu]at ht;omega
    exact Qw t zo zo zo zo zo
   have fr9:=V6.step acw (ac'.trans V6.defers) (eI.weaken Xc λt ht=>by simp[W6]at ht;simp[Hu];omega);have tX:a9.tmps.getD 8 undef=.int .i64 (i:Int):=(Xc 8 rfl).trans h88;clear OC l_;generalize w8.setRow bN #[v9]=w9 at st9⊢;simp only[Exit.then,Exit.inBlock];refine fin fr9 tX st9 (λOu Qi abI W8 acA=>?_) _ _ zk zk zk;refine⟨⟨i+1,_,Mi8,abI,W8,zo,zo,λb k h=>hM8 b k (Yz b k h),acA,by rw[<-fH];simp⟩,?_⟩;rw[W8,h8];show s.name.words.length-((i+1:Nat):Int).toNat<s.name.words.length-(i:Int).toNat;rw[Int.toNat_natCast,Int.toNat_natCast];omega
structure NT(bF bN bR:Nat)(cS:Value)(a:Act):Prop where
 size:a.tmps.size=32
 defers:a.defers=[]
 t1:a.tmps.getD 1 undef=cS
 t4:a.tmps.getD 4 undef=.pointer (some ⟨bF,0,none⟩)
 t5:a.tmps.getD 5 undef=.pointer (some ⟨bN,0,none⟩)
 t6:a.tmps.getD 6 undef=.pointer (some ⟨bR,0,none⟩)
def HZ:Nat->Bool:=λt=>decide (7<=t)
def gW(s:aw)(fs:List (List Int))(fv:Value)(LI Lf x7:AV):an:=λt=>match t with
 |1=>.ref (az s)
 |4=>.ref [.slice .view (fs.map vI)]
 |6=>.ref [.val fv]
 |7=>x7
 |15=>LI
 |16=>Lf
 |_=>.bp
section
variable{wB:World}{Mi:Nat->Nat->Prop}{bF bN bR:Nat}{s:aw}{cS fv:Value}{fs:List (List Int)}{es:List Int}{w:World}{a:Act}
def NT.step{a':Act}(fr:NT bF bN bR cS a)(bl:a'.tmps.size=32)(eR:a'.defers=[])(h:eI HZ a a'):NT bF bN bR cS a':=
 ⟨bl,eR,(h 1 rfl).trans fr.t1,(h 4 rfl).trans fr.t4,(h 5 rfl).trans fr.t5,(h 6 rfl).trans fr.t6⟩
def Lv.Po(st:Lv wB Mi bF bN s cS (.pointer (some ⟨bR,0,none⟩)) fv fs es w)(pr:Nat->Nat->Prop)(IC:∀b k,wB.heap.size<=b->pr b k):RV pr cQ w (.ref [.slice .view (fs.map vI)]) (.pointer (some ⟨bF,0,none⟩)):=by
 obtain⟨u,AP,xF,v,CK,xN,f1,f2,f3,f4,n1,n2,n3,n4⟩:=st.st;refine .data _ _ (.ref _ _ _ (λ_=>u) (λi hi=>?_) (λk hk=>⟨IC _ _ st.ge.1,?_⟩) (λk hk=>?_))
 .have:i=0:=by simpa using hi
  subst this;rfl
 .have:k=0:=by simpa using hk
  subst this;simp[World.cell?,f1]
 .have:k=0:=by simpa using hk
  subst this
  exact RD.ofRow (size:=1) (es:=fs.map vI) (by rw[adH];exact f2) (f3.mono (bg.same λb k _ h=>IC b k h.2)) λb hb k _=>IC b k (by have:=(f2.lt b hb).1;have:=st.ge.1;omega)
def Lv.kG (st:Lv wB Mi bF bN s cS (.pointer (some ⟨bR,0,none⟩)) fv fs es w) (fr:NT bF bN bR cS a) {LI Lf x7:AV} (y0:LI.aI=LI∧RV (fun _ _=>True) cQ w LI (a.tmps.getD 15 undef)) (wM:Lf.aI=Lf∧RV (fun _ _=>True) cQ w Lf (a.tmps.getD 16 undef)) (h7:x7.aI=x7∧RV (fun _ _=>True) cQ w x7 (a.tmps.getD 7 undef)) :
  ∀t,t<32->(gW s fs fv LI Lf x7 t).aI=gW s fs fv LI Lf x7 t/\RV (λ_ _=>True) cQ w (gW s fs fv LI Lf x7 t) (a.tmps.getD t undef):=by
 intro t ht;unfold gW;split
 .rw[fr.t1];exact⟨rfl,st.s.mono (bg.same λ_ _ _ _=>trivial) λ_ _ h=>h⟩
 .rw[fr.t4];exact⟨rfl,st.Po _ λ_ _ _=>trivial⟩
 .rw[fr.t6];exact⟨rfl,st.r.mono (bg.same λ_ _ _ _=>trivial) λ_ _ h=>h⟩
 .exact h7
 .exact y0
 .exact wM
 .exact⟨rfl,.bp _⟩
end
def RD.bounded{A:Nat->Prop}{w:World}{es:List AV}{c:Value}(DA:∀x∈es,∀c∈x.cells,iF c=true)(h:RD (λb _=>A b) w (.slice .view es) c):∃hi:Nat->Nat,RD (λb k=>A b/\k<hi b) w (.slice .view es) c:=by
 cases h with
 |iB=>exact⟨λ_=>0,.iB _⟩
 |jz _ a=>exact⟨λ_=>0,.jz _ a⟩
 |slice _ _ b off cap size cs fl hn bl h1 hc hr=>
  exact⟨λ_=>off+es.length*size,.slice _ _ b off cap size cs fl hn bl h1 (λk hk=>⟨⟨(hc k hk).1,(by show off+k<off+es.length*size;omega)⟩,(hc k hk).2⟩) λi hi j hj=>(hr i hi j hj).iF (DA _ (adC hi) _ (adC hj))⟩
def abU(hG:ar GI)(s:aw)(hs:f_ s):AC prog GI 29 [bm s] (.ret (.dY (IE s))):=by
 have pC:=sC hG s hs
 refine AC.ji func29 rfl ntmps29 ahB λcc w=>?_
 refine dT hG c29.qa (λS' H'=>S' 1=.box 1 0/\H' 1=some (az s)) ?_ ?_
 .simp[c29,af.qa,bm,az,ai]
 rintro S1 H1 ⟨s1,h1⟩;refine SW.scope ?_;show SW prog GI 32 none (.seq (.seq _ (.cond _ _ _)) _) _ _ _ _;refine SW.seq (dT hG (.ops [⟨some 8,none,.load .any true 15 (.t 1)⟩,⟨some 9,none,.call 32 [.t 8]⟩,⟨some 10,none,.not (.t 9)⟩]) (λS' H'=>S' 10=.bool (!dj s)/\S' 1=.box 1 0/\H' 1=some (az s)) ?_ ?_)
 .simp[s1,h1,az,ai];refine oc pC ?_;simp[s1,h1,az,ai]
 clear s1 h1;rintro S2 H2 ⟨bJ,s1,h1⟩;unfold IE
 cases hI:dj s with
 |false=>
  refine SW.cond rfl true (by show S2 10=_;rw[bJ,hI]<;>rfl) ?_;show SW prog GI 32 none (.seq _ .ret) _ _ _ _;refine dT hG (.ops [⟨some 2,none,.mv true (.c (.slice .nil []))⟩,⟨some 3,none,.mv true (.c (.int .i64 2))⟩]) (λS' H'=>S' 2=.slice .nil []/\S' 3=.int .i64 2) ahB ?_;rintro S3 H3 ⟨s2,s3⟩;refine SW.ret ⟨eo.plain rfl,rfl,_,?_,rfl⟩;show cH prog 32 [.tmp 2,.tmp 3] S3 H3=_;simp[cH,db,c_,s2,s3,AV.b_,AV.out,AV.vw,AV.cI,vI,ints]
 |true=>
 have nz:=(gx (gM hI).name).words;refine SW.cond rfl false (by show S2 10=_;rw[bJ,hI]<;>rfl) (SW.skip ?_);show SW prog GI 32 none (.seq _ (.seq _ (.seq _ (.seq _ (.seq (.label 0) (.seq (.seq _ (.block _ _)) _)))))) _ _ _ _;simp only[aed];intro w0 g a wB m cm ho R
 obtain⟨out,ku⟩:∃out,iK.ret (.dY (Cr s))=out:=⟨_,rfl⟩
 rw[ku]
 have We:Below w0.heap.size w0 wB:=by have:=R.below;rwa [R.base]at this
 have Ar:GI wB:=hG w0 wB cm We;have rS:=sN R zd s1 h1 (CN s)
 obtain⟨cS,hcS⟩:∃cS,a.tmps.getD 1 undef=cS:=⟨_,rfl⟩
 rw[hcS]at rS;have bl:=R.size
 have eR:a.defers=[]:=by rw[R.defers,ho]<;>rfl
 have finish:∀ (aE:Act) (wE:World) (o2:Ow) (PW:List AV) (e:Int) (du:Nat→Nat),aE.tmps.size=32→aE.defers=[]→Below wB.heap.size wB wE→(AV.slice o2 PW).aI = .slice o2 PW→RD (fun b k=>(wB.heap.size≤b∧b < wE.heap.size)∧k < du b) wE (.slice o2 PW) (aE.tmps.getD 2 undef)→aE.tmps.getD 3 undef = .int .i64 e →
   iK.ret (.dY [.slice .view PW,.int .i64 e])=out->QS prog w0 32 (oz prog 32 f29.results.toList out cc) .ret aE wE:=by
  intro aE wE o2 PW e du ac2 acB MF abe dh h3 ku;have RG:=R.jV MF
  have hle:g.base<=wB.heap.size:=by rw[R.base];exact We.size
  have RC:=RG.k_ (G:=λb=>wB.heap.size<=b/\b<wE.heap.size) du (λb hb=>by
   refine⟨⟨aeL hle hb.1,(R.fresh b hb.1).1,(R.fresh b hb.1).2,λi hi=>?_⟩,hb.2,?_⟩
   .obtain⟨_,_,_,_,_,q3,_⟩:=R.box i b hi;have:=(adD.1 q3).1;omega
   .rw[ho]<;>rfl)
  have RE:=RC.Ex (a2:=aE) (S2:=λt=>if t=2 then .slice o2 PW else if t=3 then .int .i64 e else .bp) g.old rfl ac2 (by rw[ho];exact acB) (by rw[ho];exact λ_ h=>by cases h) RC.still RC.grown (by rw[ho];exact λ_ _ h=>by cases h) (λt ht=>by
   by_cases h2:t=2
   .subst h2;simp only[aed];refine⟨abe,.data _ _ (dh.mono (bg.same λb k _ hp=>.inr ⟨aeL hle hp.1.1,?_⟩))⟩;unfold Gh.k_;simp only[if_pos hp.1];exact hp.2
   .by_cases SX:t=3
    .subst SX;simp only[if_neg h2,aed];rw[h3];exact⟨rfl,.data _ _ (.int _ _)⟩
    .simp only[if_neg h2,if_neg SX]
     exact⟨rfl,.bp _⟩)
  refine⟨_,_,_,RE,?_⟩;refine⟨by rw[ho];exact eo.plain rfl,by rw[ho]<;>rfl,_,?_,ku.symm⟩;show cH prog 32 [.tmp 2,.tmp 3] _ _=_;simp[cH,db,c_,AV.b_,AV.out,AV.vw,AV.cI]
 have fx:∀(a:Act)(d t:Nat)(c:Value),t≠d->(a.put (some d) c).tmps.getD t undef=a.tmps.getD t undef:=λa d t c h=>by
  simp[Act.put,adN (aeq h)]
 have jL:∀(a:Act)(d:Nat)(c:Value),a.tmps.size=32->d<32->(a.put (some d) c).tmps.getD d undef=c:=λa d c h hd=>by
  simp[Act.put,h,hd]
 have kn:∀(a:Act)(d:Option Nat)(c:Value),(a.put d c).tmps.size=a.tmps.size:=λa d c=>by cases d<;>simp[Act.put]
 have sJ:∀(a:Act)(d:Option Nat)(c:Value),(a.put d c).defers=a.defers:=λa d c=>by cases d<;>rfl
 obtain⟨bF,Sy⟩:∃bF,wB.heap.size=bF:=⟨_,rfl⟩
 refine adT (aea ?_);show wpOpsIn _ _ _ _ _ [0] a wB;refine bf rfl rfl zr (lA (t:=113) (z:=.slice none 0 0) rfl zk) ?_;show Code.wpIn _ _ _ _ _ (a.put (some 4) (.pointer (some ⟨wB.heap.size,0,none⟩))) (wB.alloc (.cells #[.slice none 0 0] 113))
 obtain⟨a2,jE⟩:∃a2,a.put (some 4) (.pointer (some ⟨wB.heap.size,0,none⟩))=a2:=⟨_,rfl⟩
 obtain⟨w2,j0⟩:∃w2,wB.alloc (.cells #[.slice none 0 0] 113)=w2:=⟨_,rfl⟩
 have Pc:w2.heap.size=bF+1:=by rw[<-j0,<-Sy];simp
 have WM:w2.heap[bF]?=some (.cells #[.slice none 0 0] 113 (0,0)):=by rw[<-j0,<-Sy];exact aew wB _
 have WU:Below bF wB w2:=by rw[<-j0,<-Sy];exact(aeC _ _).alloc (adF _) _
 rw[jE,j0];refine adT (aea ?_);show wpOpsIn _ _ _ _ _ [0] a2 w2;refine bf rfl rfl zr (lA (t:=23) (z:=.slice none 0 0) rfl zk) ?_;show Code.wpIn _ _ _ _ _ (a2.put (some 5) (.pointer (some ⟨w2.heap.size,0,none⟩))) (w2.alloc (.cells #[.slice none 0 0] 23))
 obtain⟨a3,sk⟩:∃a3,a2.put (some 5) (.pointer (some ⟨w2.heap.size,0,none⟩))=a3:=⟨_,rfl⟩
 obtain⟨w3,qv⟩:∃w3,w2.alloc (.cells #[.slice none 0 0] 23)=w3:=⟨_,rfl⟩
 have A5:w3.heap.size=bF+2:=by rw[<-qv];simp[Pc]
 have Pk:w3.heap[bF+1]?=some (.cells #[.slice none 0 0] 23 (0,0)):=by rw[<-qv,<-Pc];exact aew w2 _
 have L7:Below (bF+1) w2 w3:=by rw[<-qv,<-Pc];exact(aeC _ _).alloc (adF _) _
 rw[sk,qv];refine adT (aea ?_);show wpOpsIn _ _ _ _ _ [0] a3 w3;refine bf rfl rfl zr (lA (t:=114) (z:=.nilFunc) rfl zk) ?_;show Code.wpIn _ _ _ _ _ (a3.put (some 6) (.pointer (some ⟨w3.heap.size,0,none⟩))) (w3.alloc (.cells #[.nilFunc] 114))
 obtain⟨a4,mo⟩:∃a4,a3.put (some 6) (.pointer (some ⟨w3.heap.size,0,none⟩))=a4:=⟨_,rfl⟩
 obtain⟨w4,nz⟩:∃w4,w3.alloc (.cells #[.nilFunc] 114)=w4:=⟨_,rfl⟩
 have PF:w4.heap.size=bF+3:=by rw[<-nz];simp[A5]
 have F3:w4.heap[bF+2]?=some (.cells #[.nilFunc] 114 (0,0)):=by rw[<-nz,<-A5];exact aew w3 _
 have EN:Below (bF+2) w3 w4:=by rw[<-nz,<-A5];exact(aeC _ _).alloc (adF _) _
 rw[mo,nz]
 have z2:a2.tmps.size=32:=by rw[<-jE,kn];exact bl
 have z3:a3.tmps.size=32:=by rw[<-sk,kn];exact z2
 have z4:a4.tmps.size=32:=by rw[<-mo,kn];exact z3
 have u1:a4.tmps.getD 1 undef=cS:=by rw[<-mo,fx _ _ _ _ zd,<-sk,fx _ _ _ _ zd,<-jE,fx _ _ _ _ zd,hcS]
 have u4:a4.tmps.getD 4 undef=.pointer (some ⟨bF,0,none⟩):=by rw[<-mo,fx _ _ _ _ zd,<-sk,fx _ _ _ _ zd,<-jE,jL _ _ _ bl zd,Sy]
 have u5:a4.tmps.getD 5 undef=.pointer (some ⟨bF+1,0,none⟩):=by rw[<-mo,fx _ _ _ _ zd,<-sk,jL _ _ _ z2 zd,Pc]
 have u6:a4.tmps.getD 6 undef=.pointer (some ⟨bF+2,0,none⟩):=by rw[<-mo,jL _ _ _ z3 zd,A5]
 have d4:a4.defers=[]:=by rw[<-mo,sJ,<-sk,sJ,<-jE,sJ];exact eR
 refine adT (aea ?_);show wpOpsIn _ _ _ _ _ [0,1] a4 w4;refine bf rfl rfl zr (mB (fn:=.func 72) (c:=#[.tmp 1,.tmp 5,.tmp 4,.tmp 6]) rfl) ?_
 have fl:(#[Operand.tmp 1,.tmp 5,.tmp 4,.tmp 6].map a4.eval)=#[cS,.pointer (some ⟨bF+1,0,none⟩),.pointer (some ⟨bF,0,none⟩),.pointer (some ⟨bF+2,0,none⟩)]:=by
  simp only[aeg,adU,aee,Act.eval];rw[u1,u4,u5,u6]
 rw[fl]
 obtain⟨fv,lV⟩:∃fv:Value,fv=.func (.func 72) #[] #[cS,.pointer (some ⟨bF+1,0,none⟩),.pointer (some ⟨bF,0,none⟩),.pointer (some ⟨bF+2,0,none⟩)]:=⟨_,rfl⟩
 rw[<-lV]
 obtain⟨a5,qX⟩:∃a5,a4.put (some 11) fv=a5:=⟨_,rfl⟩
 show wpOpsIn _ _ _ _ _ [1] (a4.put (some 11) fv) w4;rw[qX]
 have z5:a5.tmps.size=32:=by rw[<-qX,kn];exact z4
 have Ww:a5.tmps.getD 11 undef=fv:=by rw[<-qX];exact jL _ _ _ z4 zd
 have v1:a5.tmps.getD 1 undef=cS:=by rw[<-qX,fx _ _ _ _ zd];exact u1
 have v4:a5.tmps.getD 4 undef=.pointer (some ⟨bF,0,none⟩):=by rw[<-qX,fx _ _ _ _ zd];exact u4
 have v5:a5.tmps.getD 5 undef=.pointer (some ⟨bF+1,0,none⟩):=by rw[<-qX,fx _ _ _ _ zd];exact u5
 have v6:a5.tmps.getD 6 undef=.pointer (some ⟨bF+2,0,none⟩):=by rw[<-qX,fx _ _ _ _ zd];exact u6
 have d5:a5.defers=[]:=by rw[<-qX,sJ];exact d4
 obtain⟨i142,aat,Yg⟩:=iZ 114 1;refine eT rfl rfl zr (iU (x:=.tmp 6) (y:=.tmp 11) rfl v6 aat Yg F3 Ww (by rw[lV]<;>rfl)) ?_;show Code.wpIn _ _ _ _ _ (a5.put none undef) (w4.setRow (bF+2) #[fv])
 have fr:NT bF (bF+1) (bF+2) cS (a5.put none undef):=⟨z5,d5,v1,v4,v5,v6⟩
 have l_:∀b,b≠bF+2->(w4.setRow (bF+2) #[fv]).heap[b]?=w4.heap[b]?:=λb hb=>aeO w4 (bF+2) b #[fv] hb
 have GB:(w4.setRow (bF+2) #[fv]).heap.size=bF+3:=by simp[PF]
 have hb4:Below bF wB w4:=WU.trans ((L7.mono zo).trans (EN.mono zo));have N9:Below bF wB (w4.setRow (bF+2) #[fv]):=hb4.trans ⟨rfl,rfl,rfl,by rw[GB,PF];exact adF _,λk hk=>l_ k zo⟩
 have st:Lv wB (λb k=>(b<bF/\fI g true b k)\/(b=bF+2/\k=0)) bF (bF+1) s cS (.pointer (some ⟨bF+2,0,none⟩)) fv [] [] (w4.setRow (bF+2) #[fv]):=by
  refine⟨by rw[Sy];exact N9,⟨zo,zo,zo⟩,?_,?_,?_,⟨.slice none 0 0,113,[],.slice none 0 0,23,[],?_,⟨rfl,.inl ⟨rfl,rfl⟩⟩,⟨λx hx=>by simp at hx,λj hj=>by simp at hj⟩,(λb hb=>by cases hb),?_,⟨rfl,.inl ⟨rfl,rfl⟩⟩,⟨λx hx=>by simp[ints]at hx,λj hj=>by simp[ints]at hj⟩,(λb hb=>by cases hb)⟩,?_,?_⟩
  .rintro b k (h|h)
   .rw[GB];omega
   .rw[GB];omega
  .rintro k (h|h)<;>omega
  .rintro k (h|h)<;>omega
  .rw[l_ _ zo,EN.block _ zo,L7.block _ zo];exact WM
  .rw[l_ _ zo,EN.block _ zo];exact Pk
  .have rS':RV (λb k=>b<bF/\fI g true b k) cQ wB (.ref (az s)) cS:=rS.mono (bg.same λb k hb h=>⟨zo,h⟩) λ_ _ h=>h
   exact rS'.mono (bg.of_eq λb k h=>⟨.inl h,N9.block b h.1⟩) λ_ _ h=>h
  .refine .data _ _ (.ref _ _ _ (λ_=>fv) (λi hi=>?_) (λk hk=>⟨.inr ⟨rfl,(by have h0:k<1:=hk;omega)⟩,?_⟩) (λk hk=>?_))
   .have:i=0:=by simpa using hi
    subst this;rfl
   .have:k=0:=by simpa using hk
    subst this;have:=afq w4 (bF+2) _ #[fv] 114 (0,0) F3;simp[World.cell?,this]
   .have:k=0:=by simpa using hk
    subst this;exact .val _ (by rw[lV]<;>rfl)
 clear l_ GB N9 hb4 EN F3 L7 Pk WU WM;generalize w4.setRow (bF+2) #[fv]=w5 at st⊢;generalize a5.put none undef=a6 at fr⊢;generalize(λb k=>(b<bF/\fI g true b k)\/(b=bF+2/\k=0))=Mi at st;clear v1 v4 v5 v6 d5 z5 Ww qX fl u1 u4 u5 u6 d4 z4 z3 z2
 have gi:∀{w:World},Below wB.heap.size wB w->GI w:=λh=>hG wB _ Ar h
 have jk:∀(a:Act)(w:World)(t:Nat),(AV.bp).aI=AV.bp/\RV (λ_ _=>True) cQ w AV.bp (a.tmps.getD t undef):=λa w t=>⟨rfl,.bp _⟩
 have iv:∀(a:Act)(w:World)(t:Nat)(k:Int),a.tmps.getD t undef=.int .i64 k->(AV.int .i64 k).aI=.int .i64 k/\RV (λ_ _=>True) cQ w (.int .i64 k) (a.tmps.getD t undef):=λa w t k h=>⟨rfl,by rw[h];exact .data _ _ (.int _ _)⟩
 have Ff:∀{w w':World}{g:Gh}{S:an}{H:ao}{a':Act},Rel prog w 32 bP g S H a' w'->Below w.heap.size w w':=λR=>by have:=R.below;rwa [R.base]at this
 show Code.wpIn _ _ _ _ _ a6 w5;refine adT (wpIn_label ?_);show Code.wpIn _ _ _ _ _ a6 w5;refine adT (adT ?_);refine cL hG de (n:=32) (ac:=.ops [⟨some 12,none,.fieldAddr 5 (.t 1)⟩,⟨some 13,none,.fieldAddr 7 (.t 12)⟩,⟨some 14,none,.load .any false 1 (.t 13)⟩,⟨some 15,none,.kN (.t 14)⟩,⟨some 16,none,.mv false (.c (.int .i64 0))⟩]) (W:=HZ) zk zk zk (gi st.below) (λ_ _=>True) (gW s [] fv .bp .bp .bp) fr.size fr.defers (st.kG fr (jk _ _ _) (jk _ _ _) (jk _ _ _)) (K:=λS' _=>S' 15=.int .i64 (s.name.words.length:Nat)/\S' 16=.int .i64 ((0:Nat):Int)) ?_ ?_
 .simp[gW,az,ai]
 rintro g1 S1 H1 a7 w7 nw R1 ⟨wF,wL⟩ bn;have fr:=fr.step R1.size (by rw[R1.defers,nw]<;>rfl) bn;have st:=st.grow (Ff R1);have Ih:=R1.slot 15 zd id;rw[wF]at Ih;have Ih:=Ih.int_eq;have E':=R1.slot 16 zd id;rw[wL]at E';have E':=E'.int_eq;clear R1 nw bn wF wL;show Code.wpIn _ _ _ _ _ a7 w7
 refine ae9 (ahi (λa w=>∃(k:Nat)(tH:Nat->Nat->Prop),NT bF (bF+1) (bF+2) cS a/\a.tmps.getD 15 undef=.int .i64 (s.name.words.length:Nat)/\a.tmps.getD 16 undef=.int .i64 (k:Nat)/\k<=s.name.words.length/\(∀j,j<k->kA s j []=[])/\Lv wB tH bF (bF+1) s cS (.pointer (some ⟨bF+2,0,none⟩)) fv [] [] w)
  (λa _=>match a.tmps.getD 16 undef with|.int _ i=>s.name.words.length-i.toNat|_=>0) ⟨0,Mi,fr,Ih,E',aeu _,λj hj=>zo,st⟩ ?_)
 clear Ih E' fr st;rintro a8 w8 ⟨k,tH,fr,Ih,E',hk,gQ,st⟩;refine adT ?_;refine cL hG de (n:=32) (ac:=.ops [⟨some 17,none,.bin .lss (.t 16) (.t 15)⟩]) (W:=HZ) zk zk zk (gi st.below) (λ_ _=>True) (gW s [] fv (.int .i64 (s.name.words.length:Nat)) (.int .i64 (k:Nat)) .bp) fr.size fr.defers (st.kG fr (iv _ _ _ _ Ih) (iv _ _ _ _ E') (jk _ _ _)) (K:=λS' _=>S' 15=.int .i64 (s.name.words.length:Nat)/\S' 16=.int .i64 (k:Nat)/\S' 17=.bool (decide (k<s.name.words.length))) ?_ ?_
 .simp[gW]
 rintro g1 S1 H1 a9 w9 nw R1 ⟨wF,wL,q17⟩ bn;have fr:=fr.step R1.size (by rw[R1.defers,nw]<;>rfl) bn;have st:=st.grow (Ff R1);have Mp:=R1.slot 15 zd id;rw[wF]at Mp;have Mp:=Mp.int_eq;have LZ:=R1.slot 16 zd id;rw[wL]at LZ;have LZ:=LZ.int_eq;have UI:=R1.slot 17 zd id;rw[q17]at UI;have UI:=UI.fN;clear R1 nw bn wF wL q17;show Code.wpIn _ _ _ _ _ a9 w9;refine adT (aeB (t:=decide (k<s.name.words.length)) UI ?_)
 by_cases aq:k<s.name.words.length
 case neg=>
  simp only[aq,agP,adM,ad1];refine afS ?_
  have hke:k=s.name.words.length:=zo
  subst hke;simp only[Exit.then,Exit.inBlock,aed]
  have Er:yB s=none:=by rw[Bm];exact NA _ gQ
  show Code.wpIn _ _ _ _ _ a9 w9;refine adT (adT ?_);refine cL hG de (n:=32) (ac:=.ops [⟨some 26,none,.load .any false 1 (.t 4)⟩,⟨some 27,none,.kN (.t 26)⟩,⟨some 28,none,.bin .eql (.t 27) (.c (.int .i64 0))⟩]) (W:=HZ) zk zk zk (gi st.below) (λ_ _=>True) (gW s [] fv .bp .bp .bp) fr.size fr.defers (st.kG fr (jk _ _ _) (jk _ _ _) (jk _ _ _)) (K:=λS' _=>S' 28=.bool true) ?_ ?_
  .simp[gW]
  rintro g1 S1 H1 aA wA nw R1 QF bn;have fr:=fr.step R1.size (by rw[R1.defers,nw]<;>rfl) bn;have st:=st.grow (Ff R1);have yh:=R1.slot 28 zd id;rw[QF]at yh;have yh:=yh.fN;show Code.wpIn _ _ _ _ _ aA wA;refine aeB (t:=true) yh ?_;simp only[aed];refine adT ?_;refine cL hG de (n:=32) (ac:=.ops [⟨some 2,none,.mv true (.c (.slice .nil []))⟩,⟨some 3,none,.mv true (.c (.int .i64 5))⟩]) (W:=λ_=>true) zk zk zk (gi st.below) (λ_ _=>True) (gW s [] fv .bp .bp .bp) fr.size fr.defers (st.kG fr (jk _ _ _) (jk _ _ _) (jk _ _ _)) (K:=λS' _=>S' 2=.slice .nil []/\S' 3=.int .i64 5) ?_ ?_
  .simp[gW]
  rintro g2 S2 H2 aB Tq nQ R2 ⟨q2,q3⟩ _;have e2:=R2.slot 2 zd id;rw[q2]at e2;have e3:=R2.slot 3 zd id;rw[q3]at e3;refine afC (finish aB Tq .view [] 5 (λ_=>0) R2.size (by rw[R2.defers,nQ]<;>rfl) (st.grow (Ff R2)).below rfl (e2.dX rfl).CJ e3.int_eq ?_);rw[<-ku];unfold Cr
  rw[Er]<;>rfl
 simp only[aq,agX,aed];refine afb ?_;show Code.wpIn _ _ _ _ _ a9 w9;refine adT (ae9 ?_);refine adT ?_;refine cL hG de (n:=32) (ac:=.ops [⟨some 18,none,.mv false (.t 16)⟩,⟨some 7,none,.mv true (.t 18)⟩]) (W:=HZ) zk zk zk (gi st.below) (λ_ _=>True) (gW s [] fv (.int .i64 (s.name.words.length:Nat)) (.int .i64 (k:Nat)) .bp) fr.size fr.defers (st.kG fr (iv _ _ _ _ Mp) (iv _ _ _ _ LZ) (jk _ _ _)) (K:=λS' _=>S' 15=.int .i64 (s.name.words.length:Nat)/\S' 16=.int .i64 (k:Nat)/\S' 7=.int .i64 (k:Nat)) ?_ ?_
 .simp[gW]
 rintro g1 S1 H1 Ou Qi nw R1 ⟨wF,wL,q7⟩ bn;have fr:=fr.step R1.size (by rw[R1.defers,nw]<;>rfl) bn;have st:=st.grow (Ff R1);have Mg:=R1.slot 15 zd id;rw[wF]at Mg;have Mg:=Mg.int_eq;have JT:=R1.slot 16 zd id;rw[wL]at JT;have JT:=JT.int_eq;have f7:=R1.slot 7 zd id;rw[q7]at f7;have f7:=f7.int_eq;clear R1 nw bn wF wL q7 Mp LZ UI;show Code.wpIn _ _ _ _ _ Ou Qi;refine adT ?_;refine lI hG (n:=32) (p:=2) (l2:=[2]) rfl zk zk (l:=[⟨some 19,none,.load .any false 1 (.t 6)⟩,⟨some 20,none,.mv false (.t 7)⟩]) zk zd (W:=HZ) zk (gi st.below) (λ_ _=>True) (gW s [] fv (.int .i64 (s.name.words.length:Nat)) (.int .i64 (k:Nat)) (.int .i64 (k:Nat))) fr.size fr.defers (st.kG fr (iv _ _ _ _ Mg) (iv _ _ _ _ JT) (iv _ _ _ _ f7)) (K:=λS' _=>S' 15=.int .i64 (s.name.words.length:Nat)/\S' 16=.int .i64 (k:Nat)/\S' 19=.val fv/\S' 20=.int .i64 (k:Nat)) ?_ ?_
 .simp[gW]
 rintro g1 S1 H1 Vp YR nw R1 ⟨wF,wL,q19,U1⟩ bn;have fr:=fr.step R1.size (by rw[R1.defers,nw]<;>rfl) bn;have st:=st.grow (Ff R1);have y0:=R1.slot 15 zd id;rw[wF]at y0;have y0:=y0.int_eq;have wM:=R1.slot 16 zd id;rw[wL]at wM;have wM:=wM.int_eq;have KD:=R1.slot 19 zd id;rw[q19]at KD;have KD:=KD.iA;have MS:=R1.slot 20 zd id;rw[U1]at MS;have MS:=MS.int_eq;clear R1 nw bn wF wL q19 U1 Mg JT f7;have uH:=Ot zo (d:=k) zo ([]:List Int) (s:=s);have ml:=TN hG Ar hs hI lV k 0 [] [] tH YR rfl (aeu _) (by simpa using aq) (QM zo) (by simp;omega) st;refine gC rfl rfl zr (f:=72) (args:=#[.int .i64 ((0:Nat):Int),.int .i64 (k:Nat),cS,.pointer (some ⟨bF+1,0,none⟩),.pointer (some ⟨bF,0,none⟩),.pointer (some ⟨bF+2,0,none⟩)]) (w':=YR) ?_ ml ?_
 .have k19:Vp.eval (.tmp 19)=fv:=KD;have k20:Vp.eval (.tmp 20)=.int .i64 (k:Nat):=MS;refine(A8 (f:=.tmp 19) (x:=.const (.int .i64 0)) (y:=.tmp 20) YR rfl rfl rfl (k19.trans lV) zk).trans ?_;rw[k20]
  rfl
 rintro en w12 ⟨rfl,Mi2,hM2,st⟩;rw[List.nil_append]at st;refine⟨_,rfl,?_⟩;show Code.wpIn _ _ _ _ _ (Vp.put (some 21) (.tuple #[])) w12
 obtain⟨a12,D8⟩:∃a12,Vp.put (some 21) (.tuple #[])=a12:=⟨_,rfl⟩
 have fr:NT bF (bF+1) (bF+2) cS a12:=fr.step (by rw[<-D8,kn];exact fr.size) (by rw[<-D8,sJ];exact fr.defers) (by rw[<-D8];exact eI.put (λt ht=>by cases ht;rfl) _)
 have i15:a12.tmps.getD 15 undef=.int .i64 (s.name.words.length:Nat):=by rw[<-D8,fx _ _ _ _ zd];exact y0
 have i16:a12.tmps.getD 16 undef=.int .i64 (k:Nat):=by rw[<-D8,fx _ _ _ _ zd];exact wM
 rw[D8];clear D8 y0 wM KD MS;refine adT ?_;refine cL hG de (n:=32) (ac:=.ops [⟨some 22,none,.load .any false 1 (.t 4)⟩,⟨some 23,none,.kN (.t 22)⟩,⟨some 24,none,.bin .gtr (.t 23) (.c (.int .i64 0))⟩]) (W:=HZ) zk zk zk (gi st.below) (λ_ _=>True) (gW s (kA s k []) fv (.int .i64 (s.name.words.length:Nat)) (.int .i64 (k:Nat)) .bp) fr.size fr.defers (st.kG fr (iv _ _ _ _ i15) (iv _ _ _ _ i16) (jk _ _ _)) (K:=λS' _=>S' 15=.int .i64 (s.name.words.length:Nat)/\S' 16=.int .i64 (k:Nat)/\S' 24=.bool (decide (0<(kA s k []).length))) ?_ ?_
 .simp[gW]
 rintro g1 S1 H1 XM YW nw R1 ⟨wF,wL,q24⟩ bn;have fr:=fr.step R1.size (by rw[R1.defers,nw]<;>rfl) bn;have st:=st.grow (Ff R1);have y0:=R1.slot 15 zd id;rw[wF]at y0;have y0:=y0.int_eq;have wM:=R1.slot 16 zd id;rw[wL]at wM;have wM:=wM.int_eq;have QW:=R1.slot 24 zd id;rw[q24]at QW;have QW:=QW.fN;clear R1 nw bn wF wL q24 i15 i16;show Code.wpIn _ _ _ _ _ XM YW;refine aeB (t:=decide (0<(kA s k []).length)) QW ?_
 cases hL:kA s k []with
 |nil=>
  rw[hL]at st;simp only[List.length_nil,ahy,agP,adM,ad1];refine afb ?_;simp only[Exit.then,Exit.inBlock];show Code.wpIn _ _ _ _ _ XM YW;refine cL hG de (n:=32) (ac:=.ops [⟨some 25,none,.bin .add (.t 16) (.c (.int .i64 1))⟩,⟨some 16,none,.mv false (.t 25)⟩]) (W:=HZ) zk zk zk (gi st.below) (λ_ _=>True) (gW s [] fv (.int .i64 (s.name.words.length:Nat)) (.int .i64 (k:Nat)) .bp) fr.size fr.defers (st.kG fr (iv _ _ _ _ y0) (iv _ _ _ _ wM) (jk _ _ _)) (K:=λS' _=>S' 15=.int .i64 (s.name.words.length:Nat)/\S' 16=.int .i64 ((k+1:Nat):Int)) ?_ ?_
  .have pZ:IntKind.i64.wrap ((k:Int)+1)=k+1:=aQ zo;simp[gW,pZ]
  rintro g1 S1 H1 a14 w14 nw R1 ⟨wF,wL⟩ bn;have fr:=fr.step R1.size (by rw[R1.defers,nw]<;>rfl) bn;have st:=st.grow (Ff R1);have WA:=R1.slot 15 zd id;rw[wF]at WA;have WA:=WA.int_eq;have U0:=R1.slot 16 zd id;rw[wL]at U0;have U0:=U0.int_eq;refine⟨⟨k+1,Mi2,fr,WA,U0,zo,λj hj=>?_,st⟩,?_⟩
  .by_cases e:j=k
   .subst e;exact hL
   .exact gQ j zo
  .rw[U0,E'];show s.name.words.length-((k+1:Nat):Int).toNat<s.name.words.length-(k:Int).toNat;rw[Int.toNat_natCast,Int.toNat_natCast];omega
 |cons x l=>
  have Zx:yB s=some x:=by rw[Bm];exact OF _ aq gQ hL
  rw[hL]at st;simp only[List.length_cons,Nat.zero_lt_succ,agX,aed];refine afS ?_;simp only[Exit.then,Exit.inBlock];show Code.wpIn _ _ _ _ _ XM YW;refine adT (adT ?_);refine cL hG de (n:=32) (ac:=.ops [⟨some 26,none,.load .any false 1 (.t 4)⟩,⟨some 27,none,.kN (.t 26)⟩,⟨some 28,none,.bin .eql (.t 27) (.c (.int .i64 0))⟩]) (W:=HZ) zk zk zk (gi st.below) (λ_ _=>True) (gW s (x::l) fv .bp .bp .bp) fr.size fr.defers (st.kG fr (jk _ _ _) (jk _ _ _) (jk _ _ _)) (K:=λS' _=>S' 28=.bool false) ?_ ?_
  .have cD:((l.length:Int)+1==0)=false:=by rw[aeo];omega
   simp[gW,cD]
   try omega
  rintro g1 S1 H1 aA wA nw R1 QF bn;have fr:=fr.step R1.size (by rw[R1.defers,nw]<;>rfl) bn;have st:=st.grow (Ff R1);have yh:=R1.slot 28 zd id;rw[QF]at yh;have yh:=yh.fN;show Code.wpIn _ _ _ _ _ aA wA;refine aeB (t:=false) yh ?_;simp only[adM,ad1];refine afb ?_;show Code.wpIn _ _ _ _ _ aA wA;refine adT ?_
  refine cL hG de (n:=32) (ac:=.ops [⟨some 29,none,.load .any false 1 (.t 4)⟩,⟨some 30,none,.indexAddr 1 (.t 29) (.c (.int .i64 0))⟩,⟨some 31,none,.load .any false 1 (.t 30)⟩,⟨some 2,none,.mv true (.t 31)⟩,⟨some 3,none,.mv true (.c (.int .i64 0))⟩]) (W:=λ_=>true) zk zk zk (gi st.below) (λb _=>wB.heap.size<=b)
   (λt=>match t with|4=>.ref [.slice .view ((x::l).map vI)]|_=>.bp) fr.size fr.defers ?_ (K:=λS' _=>S' 2=.slice .view (ints x)/\S' 3=.int .i64 0) ?_ ?_
  .intro t ht;split
   .rw[fr.t4];exact⟨rfl,st.Po _ λb k h=>h⟩
   .exact⟨rfl,.bp _⟩
  .simp
  rintro g2 S2 H2 aB Tq nQ R2 ⟨q2,q3⟩ _;have e2:=R2.slot 2 zd id;rw[q2]at e2;have e3:=R2.slot 3 zd id;rw[q3]at e3;have lX:=Ff R2
  have r2:RD (λb _=>wB.heap.size<=b/\b<Tq.heap.size) Tq (.slice .view (ints x)) (aB.tmps.getD 2 undef):=(e2.dX rfl).mono (bg.same λb k hb hp=>by
   rcases hp with⟨_,h⟩|⟨h,_⟩
   .rw[nQ]at h;exact⟨h,hb⟩
   .rw[R2.base]at h;have:=st.below.size
    exact⟨zo,hb⟩)
  obtain⟨du,r3⟩:=RD.bounded (xQ x) r2;refine afC (finish aB Tq .view (ints x) 0 du R2.size (by rw[R2.defers,nQ]<;>rfl) (st.grow lX).below rfl r3 e3.int_eq ?_);rw[<-ku];unfold Cr
  rw[Zx]<;>rfl
def GF:List UInt8:=[116,114,97,109,32,49,32,49,32,49,32,48,10,99,101,108,108,32,49,32,50,32,110,111,10,101,110,100,32,49,55,56,10,102,114,111,110,116,32,49,32,49,10,115,112,97,99,101,115,32,48,32,48,32,48,32,48,32,49,10,115,105,103,110,32,49,10,119,111,114,100,32,110,111,32,48,32,45,10,101,110,100,32,48,57,56,10]
def um:aw:=⟨[⟨1,2,false⟩],1,1,1,0,⟨[1],[],0,0,0,0,1,[⟨[0],[],false⟩],1,1⟩⟩
def IG:IE mb=[vI [1],.int .i64 0]:=by kernel_rfl
def JW:pK GF=(um,0):=by kernel_rfl
def yD:eF um=GF:=by kernel_rfl
def ZL:f_ um:=⟨zd,zd,zd,zd,λw hw=>by
 simp[um]at hw;subst hw;decide,λw hw=>by
 simp[um]at hw;subst hw;decide⟩
def XW(hG:ar GI)(hT:TB GI)(ot:ML GI):AC prog GI 10 [.str GF] (.ret (.dY [bm um,.int .i64 0])):=by
 have:=W9 hG hT ot GF;rwa [JW]at this
def ZG(hG:ar GI):AC prog GI 12 [bm um] (.ret (.str GF)):=by
 have hI:dj um=true:=zk
 have:=acJ (GI:=GI) hG um (se hI) zd (ru (sy hI)) (O9 ZL.name (sy hI)) (by rw[yD];decide);rwa [yD]at this
def ac7(hG:ar GI)(hT:TB GI)(ot:ML GI):AC prog GI 7 [] (.ret (.bool true)):=by
 have d:=abc (GI:=GI) hG;have a:=SD (GI:=GI) hG;have b:=abM (GI:=GI) hG;have q1:=aav (GI:=GI) hG zf TK;have q2:=acj (GI:=GI) hG mb sZ;have q3:=aaM (GI:=GI) hG mb sZ [3,2,2,4,5,1] zd;have q4:=ach (GI:=GI) hG mb sZ;have q5:=abt (GI:=GI) hG zf TK;have q6:=ab2 (GI:=GI) hG mb sZ 1;have q7:=aaI (GI:=GI) hG mb sZ;have q8:=abF (GI:=GI) hG Dc T3;have q9:=acg (GI:=GI) hG mb sZ;have q10:=acs (GI:=GI) hG Dc T3;have q11:=abU (GI:=GI) hG mb sZ;have q12:=XW hG hT ot;have q13:=ZG (GI:=GI) hG;rw[HG]at q1;rw[I2]at q2;rw[Kb]at q3;rw[JQ]at q4;rw[Jy]at q5;rw[Kx]at q6;rw[JP]at q7;rw[No]at q8;rw[JC]at q9;rw[L9]at q10;rw[IG]at q11;have p1:=SV (GI:=GI) hG [9] [9] zd;have p2:=aaC (GI:=GI) hG [(1,1),(3,5)] [(1,1),(3,5)] zd;have p3:=SV (GI:=GI) hG [1] [1] zd;refine cw hG func7 ntmps7 c7 ?_;refine aK (λS H=>S 0=.bool false) ahB ?_
 rintro S H -
 refine aK (λS H=>S 1=vI [9]/\S 2=.int .i64 0) ?_ ?_
 .simp;refine oc d ?_;simp[bm,az,ai];refine oc q1 ?_;simp
 clear S H;rintro S H ⟨s1,s2⟩;refine aK (λS H=>S 1=vI [9]/\S 2=.int .i64 0/\S 3=.slice .view (aX [(1,1),(3,5)])/\S 4=.int .i64 0) ?_ ?_
 .simp[s1,s2];refine oc a ?_;simp[bm,az,ai,s1,s2];refine oc q2 ?_;simp[s1,s2]
 clear s1 s2 S H;rintro S H ⟨s1,s2,s3,s4⟩;refine aK (λS H=>S 1=vI [9]/\S 2=.int .i64 0/\S 3=.slice .view (aX [(1,1),(3,5)])/\S 4=.int .i64 0/\S 5=.int .i64 2/\S 6=.int .i64 0) ?_ ?_
 .simp[s1,s2,s3,s4];refine oc a ?_;simp[bm,az,ai,s1,s2,s3,s4];refine oc q3 ?_;simp[s1,s2,s3,s4]
 clear s1 s2 s3 s4 S H;rintro S H ⟨s1,s2,s3,s4,s5,s6⟩;refine aK (λS H=>S 1=vI [9]/\S 2=.int .i64 0/\S 3=.slice .view (aX [(1,1),(3,5)])/\S 4=.int .i64 0/\S 5=.int .i64 2/\S 6=.int .i64 0/\S 7=.int .i64 1/\S 8=.int .i64 0) ?_ ?_
 .simp[s1,s2,s3,s4,s5,s6];refine oc a ?_;simp[bm,az,ai,s1,s2,s3,s4,s5,s6];refine oc q4 ?_;simp[s1,s2,s3,s4,s5,s6]
 clear s1 s2 s3 s4 s5 s6 S H;rintro S H ⟨s1,s2,s3,s4,s5,s6,s7,s8⟩;refine aK (λS H=>S 1=vI [9]/\S 2=.int .i64 0/\S 3=.slice .view (aX [(1,1),(3,5)])/\S 4=.int .i64 0/\S 5=.int .i64 2/\S 6=.int .i64 0/\S 7=.int .i64 1/\S 8=.int .i64 0/\S 9=.int .i64 1/\S 10=.int .i64 0) ?_ ?_
 .simp[s1,s2,s3,s4,s5,s6,s7,s8];refine oc d ?_;simp[bm,az,ai,s1,s2,s3,s4,s5,s6,s7,s8];refine oc q5 ?_;simp[s1,s2,s3,s4,s5,s6,s7,s8]
 clear s1 s2 s3 s4 s5 s6 s7 s8 S H;rintro S H ⟨s1,s2,s3,s4,s5,s6,s7,s8,s9,bJ⟩;refine aK (λS H=>S 1=vI [9]/\S 2=.int .i64 0/\S 3=.slice .view (aX [(1,1),(3,5)])/\S 4=.int .i64 0/\S 5=.int .i64 2/\S 6=.int .i64 0/\S 7=.int .i64 1/\S 8=.int .i64 0/\S 9=.int .i64 1/\S 10=.int .i64 0/\S 11=.int .i64 2/\S 12=.int .i64 0) ?_ ?_
 .simp[s1,s2,s3,s4,s5,s6,s7,s8,s9,bJ];refine oc a ?_;simp[bm,az,ai,s1,s2,s3,s4,s5,s6,s7,s8,s9,bJ];refine oc q6 ?_;simp[s1,s2,s3,s4,s5,s6,s7,s8,s9,bJ]
 clear s1 s2 s3 s4 s5 s6 s7 s8 s9 bJ S H;rintro S H ⟨s1,s2,s3,s4,s5,s6,s7,s8,s9,bJ,bG,cM⟩;refine aK (λS H=>S 1=vI [9]/\S 2=.int .i64 0/\S 3=.slice .view (aX [(1,1),(3,5)])/\S 4=.int .i64 0/\S 5=.int .i64 2/\S 6=.int .i64 0/\S 7=.int .i64 1/\S 8=.int .i64 0/\S 9=.int .i64 1/\S 10=.int .i64 0/\S 11=.int .i64 2/\S 12=.int .i64 0/\S 13=.int .i64 1/\S 14=.int .i64 4/\S 15=.int .i64 0) ?_ ?_
 .simp[s1,s2,s3,s4,s5,s6,s7,s8,s9,bJ,bG,cM];refine oc a ?_;simp[bm,az,ai,s1,s2,s3,s4,s5,s6,s7,s8,s9,bJ,bG,cM];refine oc q7 ?_;simp[s1,s2,s3,s4,s5,s6,s7,s8,s9,bJ,bG,cM]
 clear s1 s2 s3 s4 s5 s6 s7 s8 s9 bJ bG cM S H;rintro S H ⟨s1,s2,s3,s4,s5,s6,s7,s8,s9,bJ,bG,cM,dM,eg,km⟩;refine aK (λS H=>S 1=vI [9]/\S 2=.int .i64 0/\S 3=.slice .view (aX [(1,1),(3,5)])/\S 4=.int .i64 0/\S 5=.int .i64 2/\S 6=.int .i64 0/\S 7=.int .i64 1/\S 8=.int .i64 0/\S 9=.int .i64 1/\S 10=.int .i64 0/\S 11=.int .i64 2/\S 12=.int .i64 0/\S 13=.int .i64 1/\S 14=.int .i64 4/\S 15=.int .i64 0/\S 16=.int .i64 3/\S 17=.int .i64 0) ?_ ?_
 .simp[s1,s2,s3,s4,s5,s6,s7,s8,s9,bJ,bG,cM,dM,eg,km];refine oc b ?_;simp[bm,az,ai,s1,s2,s3,s4,s5,s6,s7,s8,s9,bJ,bG,cM,dM,eg,km];refine oc q8 ?_;simp[s1,s2,s3,s4,s5,s6,s7,s8,s9,bJ,bG,cM,dM,eg,km]
 clear s1 s2 s3 s4 s5 s6 s7 s8 s9 bJ bG cM dM eg km S H;rintro S H ⟨s1,s2,s3,s4,s5,s6,s7,s8,s9,bJ,bG,cM,dM,eg,km,fR,kY⟩;refine aK (λS H=>S 1=vI [9]/\S 2=.int .i64 0/\S 3=.slice .view (aX [(1,1),(3,5)])/\S 4=.int .i64 0/\S 5=.int .i64 2/\S 6=.int .i64 0/\S 7=.int .i64 1/\S 8=.int .i64 0/\S 9=.int .i64 1/\S 10=.int .i64 0/\S 11=.int .i64 2/\S 12=.int .i64 0/\S 13=.int .i64 1/\S 14=.int .i64 4/\S 15=.int .i64 0/\S 16=.int .i64 3/\S 17=.int .i64 0/\S 18=.int .i64 1/\S 19=.int .i64 0) ?_ ?_
 .simp[s1,s2,s3,s4,s5,s6,s7,s8,s9,bJ,bG,cM,dM,eg,km,fR,kY];refine oc a ?_;simp[bm,az,ai,s1,s2,s3,s4,s5,s6,s7,s8,s9,bJ,bG,cM,dM,eg,km,fR,kY];refine oc q9 ?_;simp[s1,s2,s3,s4,s5,s6,s7,s8,s9,bJ,bG,cM,dM,eg,km,fR,kY]
 clear s1 s2 s3 s4 s5 s6 s7 s8 s9 bJ bG cM dM eg km fR kY S H;rintro S H ⟨s1,s2,s3,s4,s5,s6,s7,s8,s9,bJ,bG,cM,dM,eg,km,fR,kY,kX,rN⟩;refine aK (λS H=>S 1=vI [9]/\S 2=.int .i64 0/\S 3=.slice .view (aX [(1,1),(3,5)])/\S 4=.int .i64 0/\S 5=.int .i64 2/\S 6=.int .i64 0/\S 7=.int .i64 1/\S 8=.int .i64 0/\S 9=.int .i64 1/\S 10=.int .i64 0/\S 11=.int .i64 2/\S 12=.int .i64 0/\S 13=.int .i64 1/\S 14=.int .i64 4/\S 15=.int .i64 0/\S 16=.int .i64 3/\S 17=.int .i64 0/\S 18=.int .i64 1/\S 19=.int .i64 0/\S 20=.int .i64 4/\S 21=.int .i64 2/\S 22=.int .i64 0) ?_ ?_
 .simp[s1,s2,s3,s4,s5,s6,s7,s8,s9,bJ,bG,cM,dM,eg,km,fR,kY,kX,rN];refine oc b ?_;simp[bm,az,ai,s1,s2,s3,s4,s5,s6,s7,s8,s9,bJ,bG,cM,dM,eg,km,fR,kY,kX,rN];refine oc q10 ?_;simp[s1,s2,s3,s4,s5,s6,s7,s8,s9,bJ,bG,cM,dM,eg,km,fR,kY,kX,rN]
 clear s1 s2 s3 s4 s5 s6 s7 s8 s9 bJ bG cM dM eg km fR kY kX rN S H;rintro S H ⟨s1,s2,s3,s4,s5,s6,s7,s8,s9,bJ,bG,cM,dM,eg,km,fR,kY,kX,rN,tP,iY,kh⟩;refine aK (λS H=>S 1=vI [9]/\S 2=.int .i64 0/\S 3=.slice .view (aX [(1,1),(3,5)])/\S 4=.int .i64 0/\S 5=.int .i64 2/\S 6=.int .i64 0/\S 7=.int .i64 1/\S 8=.int .i64 0/\S 9=.int .i64 1/\S 10=.int .i64 0/\S 11=.int .i64 2/\S 12=.int .i64 0/\S 13=.int .i64 1/\S 14=.int .i64 4/\S 15=.int .i64 0/\S 16=.int .i64 3/\S 17=.int .i64 0/\S 18=.int .i64 1/\S 19=.int .i64 0/\S 20=.int .i64 4/\S 21=.int .i64 2/\S 22=.int .i64 0/\S 23=vI [1]/\S 24=.int .i64 0) ?_ ?_
 .simp[s1,s2,s3,s4,s5,s6,s7,s8,s9,bJ,bG,cM,dM,eg,km,fR,kY,kX,rN,tP,iY,kh];refine oc a ?_;simp[bm,az,ai,s1,s2,s3,s4,s5,s6,s7,s8,s9,bJ,bG,cM,dM,eg,km,fR,kY,kX,rN,tP,iY,kh];refine oc q11 ?_;simp[s1,s2,s3,s4,s5,s6,s7,s8,s9,bJ,bG,cM,dM,eg,km,fR,kY,kX,rN,tP,iY,kh]
 clear s1 s2 s3 s4 s5 s6 s7 s8 s9 bJ bG cM dM eg km fR kY kX rN tP iY kh S H;rintro S H ⟨s1,s2,s3,s4,s5,s6,s7,s8,s9,bJ,bG,cM,dM,eg,km,fR,kY,kX,rN,tP,iY,kh,jt,rM⟩;refine aK (λS H=>S 1=vI [9]/\S 2=.int .i64 0/\S 3=.slice .view (aX [(1,1),(3,5)])/\S 4=.int .i64 0/\S 5=.int .i64 2/\S 6=.int .i64 0/\S 7=.int .i64 1/\S 8=.int .i64 0/\S 9=.int .i64 1/\S 10=.int .i64 0/\S 11=.int .i64 2/\S 12=.int .i64 0/\S 13=.int .i64 1/\S 14=.int .i64 4/\S 15=.int .i64 0/\S 16=.int .i64 3/\S 17=.int .i64 0/\S 18=.int .i64 1/\S 19=.int .i64 0/\S 20=.int .i64 4/\S 21=.int .i64 2/\S 22=.int .i64 0/\S 23=vI [1]/\S 24=.int .i64 0/\S 25=.box 25 0/\H 25=some (az um)/\S 26=.int .i64 0) ?_ ?_
 .simp[s1,s2,s3,s4,s5,s6,s7,s8,s9,bJ,bG,cM,dM,eg,km,fR,kY,kX,rN,tP,iY,kh,jt,rM];refine oc q12 ?_;simp[bm,az,ai,s1,s2,s3,s4,s5,s6,s7,s8,s9,bJ,bG,cM,dM,eg,km,fR,kY,kX,rN,tP,iY,kh,jt,rM]
 clear s1 s2 s3 s4 s5 s6 s7 s8 s9 bJ bG cM dM eg km fR kY kX rN tP iY kh jt rM S H;rintro S H ⟨s1,s2,s3,s4,s5,s6,s7,s8,s9,bJ,bG,cM,dM,eg,km,fR,kY,kX,rN,tP,iY,kh,jt,rM,fC,Fo,gO⟩;refine aK (λS H=>S 1=vI [9]/\S 3=.slice .view (aX [(1,1),(3,5)])/\S 5=.int .i64 2/\S 7=.int .i64 1/\S 9=.int .i64 1/\S 11=.int .i64 2/\S 13=.int .i64 1/\S 14=.int .i64 4/\S 16=.int .i64 3/\S 18=.int .i64 1/\S 20=.int .i64 4/\S 21=.int .i64 2/\S 23=vI [1]/\S 25=.box 25 0/\H 25=some (az um)) ?_ ?_
 .simp[s1,s3,s5,s7,s9,bG,dM,eg,fR,kX,tP,iY,jt,fC,Fo,s2,s4,s6,s8,bJ,cM,km,kY,rN,kh,rM,gO]
 clear s1 s3 s5 s7 s9 bG dM eg fR kX tP iY jt fC Fo s2 s4 s6 s8 bJ cM km kY rN kh rM gO S H;rintro S H ⟨s1,s3,s5,s7,s9,bG,dM,eg,fR,kX,tP,iY,jt,fC,Fo⟩;refine aK (λS H=>S 16=.int .i64 3/\S 18=.int .i64 1/\S 20=.int .i64 4/\S 21=.int .i64 2/\S 23=vI [1]/\S 25=.box 25 0/\H 25=some (az um)) ?_ ?_
 .simp[s1,s3,s5,s7,s9,bG,dM,eg,fR,kX,tP,iY,jt,fC,Fo,aG];refine oc p1 ?_;simp[s1,s3,s5,s7,s9,bG,dM,eg,fR,kX,tP,iY,jt,fC,Fo,aG,bH];refine oc p2 ?_;simp[s1,s3,s5,s7,s9,bG,dM,eg,fR,kX,tP,iY,jt,fC,Fo,aG,bH]
 clear s1 s3 s5 s7 s9 bG dM eg fR kX tP iY jt fC Fo S H;rintro S H ⟨fR,kX,tP,iY,jt,fC,Fo⟩;simp[fR,kX,tP,iY,jt,fC,Fo,aG];refine oc p3 ?_;simp[fR,kX,tP,iY,jt,fC,Fo,aG,bH];refine oc q13 ?_;simp[GF]
end Go.Proofs.Tryz
namespace Go.Proofs.Tryz
open Go Go.AL Go.RowKit Go.Proofs Go.Proofs.Tram
def AR{c:Int}(h:0<=c)(h':c<1000):eC c=[101,110,100,32,dg (c/100).toNat,dg (c/10 % 10).toNat,dg (c % 10).toNat]:=by
 unfold eC aY;rw[mF zo,mF zo,mF zo]
 rfl
def Nq{c d:Int}(h:0<=c)(h':c<1000)(g:0<=d)(g':d<1000)(e:eC c=eC d):c=d:=by
 rw[AR h h',AR g g']at e;simp only[ae1,agd,aha]at e;have e1:=G' zo zo e.1;have e2:=G' zo zo e.2.1;have e3:=G' zo zo e.2.2;omega
def qk{c:UInt8}(hc:digit c):c≠10:=λe=>by subst e;revert hc;unfold digit;decide
def ye{m:Nat}(h0:0<m)(h1:m<1000){L:List (List UInt8)}(hL:∀p∈L,¬(10:UInt8)∈p):∀p∈(L++[eC (bo 0 L % m),[]]),¬(10:UInt8)∈p:=by
 intro p hp;simp only[adG,ad_,aey,agz]at hp;rcases hp with hp|rfl|rfl
 .exact hL p hp
 .exact CQ (Int.emod_nonneg _ zo) (by have:=Int.emod_lt_of_pos (bo 0 L) (b:=(m:Int)) zo;omega)
 .simp
def xp {m:Nat} (h0:0 < m) (h1:m < 1000) (hm:∀ a b c:Nat,0 < a→a < 120→0 < b→b < 120→0 < c→c < 120→¬ m ∣ a * b * c) {L L':List (List UInt8)} (hL:∀ p∈L,¬ (10:UInt8)∈p) (hL':∀ p∈L',¬ (10:UInt8)∈p) (hn:L.length≤100) (hl:∀ p∈L,p.length≤100) {n:Nat} (h:n < (lh m L).length) {d:UInt8}
  (ho:digit (lh m L)[n]) (hd:digit d) (cD:d≠(lh m L)[n]):lh m L'≠(lh m L).set n d:=by
 intro e;obtain⟨i,k,hi,hk,e1,e2⟩:=A0 (c:=10) (d:=d) h (qk ho)
 replace e1:(L++[eC (bo 0 L % m),[]])[i][k]=(lh m L)[n]:=e1
 have cr:∀l:List (List UInt8),0<=bo 0 l % m/\bo 0 l % m<1000:=λl=>⟨Int.emod_nonneg _ zo,by have:=Int.emod_lt_of_pos (bo 0 l) (b:=(m:Int)) zo;omega⟩
 have c1:=cr L;have c2:=cr L';have s1:aZ 10 (lh m L')=L'++[eC (bo 0 L' % m),[]]:=q' ahB (ye h0 h1 hL');rw[e]at s1;have hR:=ye h0 h1 hL;unfold lh at s1
 rw[e2,q' ahB (by
  intro p hp;rcases ae2 hp with hp|rfl
  .exact hR p hp
  .intro hm;rcases ae2 hm with hm|hm
   .exact hR _ (adC hi) hm
   .exact qk hd hm.symm)]at s1
 have hlen:(L++[eC (bo 0 L % m),[]]).length=L.length+2:=ahB
 have o_:=congrArg List.length s1;rw[aeM,hlen,adV]at o_
 have o_:L'.length=L.length:=by simp at o_;omega
 have wR:(d.toNat:Int)-((lh m L)[n].toNat:Int)≠0:=by
  intro e0;apply cD;exact UInt8.toNat_inj.1 zo
 change 48<=d.toNat/\d.toNat<=57 at hd
 change 48<=((lh m L)[n]).toNat/\((lh m L)[n]).toNat<=57 at ho
 by_cases L5:i<L.length
 .rw[List.set_append_left _ _ L5]at s1;obtain⟨s2,s3⟩:=List.append_inj s1 (by rw[aeM];exact o_.symm);simp only[ae1,agd]at s3;have hc:=Nq c1.1 c1.2 c2.1 c2.2 s3;have hLi:(L++[eC (bo 0 L % m),[]])[i]=L[i]:=ad5 L5
  have cz:k<L[i].length:=by rw[hLi]at hk;exact hk
  have wO:L[i][k]=(lh m L)[n]:=by rw[<-e1];simp only[hLi]
  rw[<-s2,B1 L5]at hc;simp only[hLi]at hc;rw[DX cz,wO]at hc
  generalize((lh m L)[n]).toNat=o at*
  have hz:(m:Int) ∣ ((d.toNat:Int)-o)*((0+k:Nat)+1)*((0+i:Nat)+1):=by
   have:cP 0 L[i]+((d.toNat:Int)-o)*((0+k:Nat)+1)-cP 0 L[i]=((d.toNat:Int)-o)*((0+k:Nat)+1):=zo
   rw[this]at hc;generalize((d.toNat:Int)-o)*((0+k:Nat)+1)*((0+i:Nat)+1)=z at hc⊢;have h2:=Int.emod_eq_emod_iff_emod_sub_eq_zero.1 hc.symm;rw[show bo 0 L+z-bo 0 L=z by omega]at h2;exact Int.dvd_of_emod_eq_zero h2
  have hz:=Int.natAbs_dvd_natAbs.2 hz;rw[Int.natAbs_mul,Int.natAbs_mul]at hz;have AN:=hl _ (adC L5)
  refine hm _ _ _ ?_ ?_ ?_ ?_ ?_ ?_ hz<;>omega
 .have sY:i=L.length\/i=L.length+1:=zo
  rcases sY with rfl|rfl
  .have hg:(L++[eC (bo 0 L % m),[]])[L.length]=eC (bo 0 L % m):=by
    rw[aec (adF _)];simp
   rw[List.set_append_right _ _ (adF _)]at s1;obtain⟨s2,s3⟩:=List.append_inj s1 o_.symm;subst s2;simp only[agL,List.set_cons_zero,ae1,agd]at s3;rw[hg]at s3
   have cz:k<(eC (bo 0 L % m)).length:=by rw[hg]at hk;exact hk
   have e3:(eC (bo 0 L % m))[k]=(lh m L)[n]:=by rw[<-e1];simp only[hg]
   apply cD;rw[<-e3]
   have e4:((eC (bo 0 L % m)).set k d)[k]'(by rw[aeM];exact cz)=d:=ahB
   rw[<-e4]
   congr 1
  .have hg:(L++[eC (bo 0 L % m),[]])[L.length+1]=[]:=by
    rw[aec zo];simp
   rw[hg]at hk;simp at hk
def W2(m:Nat)(h:∀a,a<120->0<a->Nat.Coprime m a)(hm:120<=m):∀a b c:Nat,0<a->a<120->0<b->b<120->0<c->c<120->¬m ∣ a*b*c:=by
 intro a b c ha Ic hb il hc vQ hd;have h1:=(h c vQ hc).dvd_of_dvd_mul_right hd;have h2:=(h b il hb).dvd_of_dvd_mul_right h1;exact absurd (Nat.le_of_dvd ha h2) zo
def SF:∀a,a<120->0<a->Nat.Coprime 173 a:=by decide+kernel
def Tu:∀a,a<120->0<a->Nat.Coprime 223 a:=by decide+kernel
def Fc{s:aJ}(hs:bj s=true){n:Nat}(h:n<(fS s).length){d:UInt8}(ho:digit (fS s)[n])(hd:digit d)(cD:d≠(fS s)[n]):∀x,j_ ((fS s).set n d)≠.ok x:=by
 intro x hx;obtain⟨h1,h2⟩:=Nx hx;exact xp (m:=173) zo zo (W2 173 SF zo) (BW (ru hs)) (BW h2) (by have:=FH hs;omega) (λp hp=>by have:=L3 hs p hp;omega) h ho hd cD h1
def BG:∀M:List (List UInt8),dJ 10 (M++[[]])=dF M
 |[]=>rfl
 |p::M=>by
  rw[List.cons_append,fp 10 p ahB,BG M];simp[dF]
def vu{b:UInt8}{l:List UInt8}(hb:b≠101):eW (b::l)=false:=by
 unfold eW pv PC;simp[List.take,hb]
def G7{s:aw}:∀p∈bO s,∃b l,p=b::l/\¬digit b/\b≠101:=by
 intro p hp;rcases ad_.1 hp with rfl|hp
 .exact⟨116,_,rfl,by unfold digit;decide,zd⟩
 .obtain⟨c,_,rfl⟩:=adZ.1 hp;exact⟨99,_,rfl,by unfold digit;decide,zd⟩
def Kh{s:aw}(h:kK s):∀p∈bO s,p.length<=100:=by
 have d:∀{n:Int},mH n->(aY n).length<=2:=λh=>(eB (qi h)).2.1 h.2
 intro p hp;rcases ad_.1 hp with rfl|hp
 .unfold jK;rw[ni];have e1:=d (h.head s.pos (by simp[ep]));have e2:=d (h.head s.reach (by simp[ep]));have e3:=d (h.head s.eZ (by simp[ep]));have e4:=d (h.head s.dS (by simp[ep]));simp only[ep,DK,adU,aee,List.sum_cons,List.sum_nil,List.length_cons,List.length_nil];omega
 .obtain⟨c,hc,rfl⟩:=adZ.1 hp;exact Bj (h.cells c hc)
def Rz{M:List (List UInt8)}{e:List UInt8}(r:List (List UInt8))(he:eW e=true)(h:∀p∈M,eW p=false):firstT eW (M++e::r)=(M.length:Nat):=by
 refine lQ ahB ?_ λj hj aq=>?_
 .rw[aec (adF _)];simpa using he
 .rw[ad5 aq];exact h _ (adC aq)
def F2{c:Int}(h:0<=c)(h':c<1000):eW (eC c)=true:=sF.2 ⟨_,by unfold eC;simp only[aek];rfl⟩
def EX{s:aw}(hI:dj s=true){n:Nat}(h:n<(ec s).length){d:UInt8}(ho:digit (ec s)[n])(hd:digit d)(cD:d≠(ec s)[n])(v:List UInt8):∀x,jN ((ec s).set n d++v)≠.ok x:=by
 rintro⟨x,u⟩ hx;obtain⟨hN,ht,_⟩:=Kv hx;have YF:=se hI;have adn:=(gM hI).cells.2
 have uH:(bO s).length<=100:=by unfold bO;simp;omega
 have key:=xp (m:=223) zo zo (W2 223 Tu zo) (L:=bO s) (L':=bO x) (p_ YF) (p_ hN) uH (Kh YF) (n:=n) h ho hd cD
 obtain⟨cs,qM⟩:∃cs,bo 0 (bO s) % 223=cs:=⟨_,rfl⟩
 have Fq:0<=cs/\cs<1000:=zo
 obtain⟨cx,lE⟩:∃cx,bo 0 (bO x) % 223=cx:=⟨_,rfl⟩
 have WT:0<=cx/\cx<1000:=zo
 have hT:ec s=dJ 10 (bO s++[eC cs,[]]):=by rw[<-qM]<;>rfl
 have gQ:=ye (m:=223) zo zo (p_ YF)
 have gQ:∀p∈(bO s++[eC cs,[]]),¬(10:UInt8)∈p:=by rw[<-qM];exact gQ
 have hh:n<(dJ 10 (bO s++[eC cs,[]])).length:=by rw[<-hT];exact h
 have nM:digit (dJ 10 (bO s++[eC cs,[]]))[n]:=by simp only[<-hT];exact ho
 obtain⟨i,k,hi,hk,e1,e2⟩:=A0 (c:=10) (d:=d) hh (qk nM);rw[<-hT]at e2
 have ed:digit ((bO s++[eC cs,[]])[i][k]):=by rw[e1];exact nM
 obtain⟨M,e',hM,hMl,hMn,nL⟩:∃(M:List (List UInt8))(e':List UInt8),(bO s++[eC cs,[]]).set i ((bO s++[eC cs,[]])[i].set k d)=M++[e',[]]/\M.length=(bO s).length/\(∀p∈M,eW p=false)/\eW e'=true:=by
  have hf:=λp hp=>G7 (s:=s) p hp
  by_cases L5:i<(bO s).length
  .have hg:(bO s++[eC cs,[]])[i]=(bO s)[i]:=ad5 L5;refine⟨(bO s).set i ((bO s)[i].set k d),eC cs,by rw[List.set_append_left _ _ L5,hg],ahB,λp hp=>?_,F2 Fq.1 Fq.2⟩;rcases ae2 hp with hp|rfl
   .obtain⟨b,l,rfl,_,hb⟩:=hf p hp;exact vu hb
   .obtain⟨b,l,lr,nN,iL⟩:=hf _ (adC L5)
    have ed':∀cz:k<(bO s)[i].length,digit ((bO s)[i][k]):=λcz=>by
     have:(bO s++[eC cs,[]])[i][k]=(bO s)[i][k]:=by simp only[hg]
     rw[<-this];exact ed
    have cz:k<(bO s)[i].length:=by rw[hg]at hk;exact hk
    have Pm:=ed' cz
    cases k with
    |zero=>
     have:(bO s)[i][0]=b:=by simp only[lr,List.getElem_cons_zero]
     rw[this]at Pm;exact absurd Pm nN
    |succ k=>
     rw[lr,List.set_cons_succ];exact vu iL
  .have hle:(bO s).length<=i:=zo
   have du:i<(bO s).length+2:=by simpa using hi
   have sY:i=(bO s).length\/i=(bO s).length+1:=zo
   rcases sY with rfl|rfl
   .have hg:(bO s++[eC cs,[]])[(bO s).length]=eC cs:=by
     rw[aec (adF _)];simp
    refine⟨bO s,(eC cs).set k d,by rw[List.set_append_right _ _ (adF _),hg];simp,rfl,λp hp=>?_,?_⟩
    .obtain⟨b,l,rfl,_,hb⟩:=hf p hp;exact vu hb
    .have cz:k<(eC cs).length:=by rw[hg]at hk;exact hk
     have Pm:digit ((eC cs)[k]):=by
      have:(bO s++[eC cs,[]])[(bO s).length][k]=(eC cs)[k]:=by simp only[hg]
      rw[<-this];exact ed
     have hq:=AR Fq.1 Fq.2
     generalize eC cs=E at*
     subst hq
     match k,cz,Pm with
     |0,_,h=>exact absurd h (show¬digit (101:UInt8) by unfold digit;decide)
     |1,_,h=>exact absurd h (show¬digit (110:UInt8) by unfold digit;decide)
     |2,_,h=>exact absurd h (show¬digit (100:UInt8) by unfold digit;decide)
     |3,_,h=>exact absurd h (show¬digit (32:UInt8) by unfold digit;decide)
     |k+4,_,_=>exact sF.2 ⟨_,rfl⟩
   .have hg:(bO s++[eC cs,[]])[(bO s).length+1]=[]:=by
     rw[aec zo];simp
    rw[hg]at hk;simp at hk
 have zp:∀p∈M++[e',[]],¬(10:UInt8)∈p:=by
  rw[<-hM];intro p hp;rcases ae2 hp with hp|rfl
  .exact gQ p hp
  .intro hm;rcases ae2 hm with hm|hm
   .exact gQ _ (adC hi) hm
   .exact qk hd hm.symm
 have e3:(ec s).set n d=dF (M++[e']):=by
  rw[e2,hM,<-BG];simp
 have s1:aZ 10 ((ec s).set n d++v)=M++e'::aZ 10 v:=by
  rw[e3,vS λp hp=>zp p (by simp at hp⊢;rcases hp with hp|hp<;>simp[hp])];simp
 have s2:=B3 hN u;rw[lE]at s2;rw[<-ht,s1]at s2;have f1:=Rz (aZ 10 v) nL hMn;have f2:=Ee (s:=x) (eC cx) (aZ 10 u) (F2 WT.1 WT.2);rw[s2,f2]at f1;obtain⟨q1,q2⟩:=List.append_inj s2 zo;simp only[ae1]at q2;apply key;show dJ 10 (bO x++[eC (bo 0 (bO x) % 223),[]])=(ec s).set n d;rw[lE,<-q1,<-q2.1,e2,hM]
def E8{s:aw}(hI:dj s=true){n:Nat}(h:n<(eF s).length){d:UInt8}(ho:digit (eF s)[n])(hd:digit d)(cD:d≠(eF s)[n]):pK ((eF s).set n d)=(fb,4):=by
 have hlen:=vb hI;have hn:=sy hI;have Ax:=GR hn
 have Ss:pK ((eF s).set n d)=match jN ((eF s).set n d)with
 |.error _=>(fb,4)
 |.ok x=>if(fq x.2).2=3\/(fq x.2).2=4 then(fb,4)
  else if(fq x.2).2≠0\/dj { x.1 with name:=(fq x.2).1 }=false then(fb,2)
  else({ x.1 with name:=(fq x.2).1 },0):=by unfold pK;rw[if_neg (by rw[aeM];omega)]<;>rfl
 rw[Ss]
 by_cases hl:n<(ec s).length
 .have hg:(eF s)[n]=(ec s)[n]:=ad5 hl;have hs:(eF s).set n d=(ec s).set n d++fS s.name:=List.set_append_left _ _ hl;rw[hg]at ho cD;have:=EX hI hl ho hd cD (fS s.name);rw[<-hs]at this
  cases hp:jN ((eF s).set n d)with
  |error e=>rfl
  |ok a=>exact absurd hp (this a)
 .have hle:(ec s).length<=n:=zo
  have hk:n-(ec s).length<(fS s.name).length:=by
   unfold eF at h;rw[adV]at h;omega
  have hg:(eF s)[n]=(fS s.name)[n-(ec s).length]:=aec hle;have hs:(eF s).set n d=ec s++(fS s.name).set (n-(ec s).length) d:=List.set_append_right _ _ hle;rw[hg]at ho cD;have kV:=Fc hn hk ho hd cD;rw[hs,Fb (se hI)]
  have hL:fq ((fS s.name).set (n-(ec s).length) d)=(cK,4):=by
   unfold fq;rw[if_neg (by rw[aeM];omega)]
   cases hp:j_ ((fS s.name).set (n-(ec s).length) d)with
   |error e=>rfl
   |ok y=>exact absurd hp (kV y)
  show(if(fq ((fS s.name).set (n-(ec s).length) d)).2=3\/(fq ((fS s.name).set (n-(ec s).length) d)).2=4 then(fb,(4:Int))else _)=_;rw[hL]
  rfl
end Go.Proofs.Tryz
namespace Go.AL
open Go.RowKit
section
variable{P:Program}{a:Act}{w:World}
def La {o:Oper} {s d e:TypeId} {x:Operand} {l:List UInt8} (ho:o.op = .convert s d x) (hx:a.eval x = .string ⟨l.toArray⟩) (hs:P.underlying s=some .string) (hd:P.underlying d=some (.slice e)) (he:P.underlying e=some (.int .u8)) :
  ∃(arr:Array Value)(cap k:Nat),(execOp a.eval o).run P w=.ok (.value (.slice (some ⟨w.heap.size,0,none⟩) l.length cap)) (w.drew.alloc (.cells arr e (k,k+1)))/\l.length<=k/\∀j (h:j<l.length),arr[j]?=some (.int .u8 (l[j].toNat:Int)):=by
 have h:=run_bytes_of_string (P:=P) w s d e ⟨l.toArray⟩ hs hd he
 have bl:(⟨l.toArray⟩:ByteArray).size=l.length:=by simp[ByteArray.size]
 rw[bl]at h;refine⟨bytesRow ⟨l.toArray⟩ (grownCap w l.length 0 e),grownCap w l.length 0 e,(bytesRow ⟨l.toArray⟩ (grownCap w l.length 0 e)).size,?_,?_,λj hj=>?_⟩
 .unfold execOp;simp only[ho,hx,adK,h]
  rfl
 .simp[bytesRow,ByteArray.size]
 .rw[bytesRow_at _ _ _ (by simpa using hj)];simp
def IV {o:Oper} {t:TypeId} {x y:Operand} {b off lo hi:Nat} {v u:Value} {ty:TypeId} {i:TypeInfo} {arr:Array Value} (ho:o.op = .store t x y) (hx:a.eval x = .pointer (some ⟨b,off,none⟩)) (du:P.info? t=some i) (hs:i.size=1) (hb:w.heap[b]? = some (.cells arr ty (lo,hi)))
  (PT:off<lo) (hc:arr[off]?=some u) (hv:(a.eval y)=v) (h1:v.oneCell'=true):(execOp a.eval o).run P w=.ok .skip (w.putObj b (.cells (arr.setIfInBounds off v) ty (lo,hi))):=by
 have j5:v.cells=#[v]:=by cases v<;>first|rfl|cases h1
 have eO:w.cell? ⟨b,off,none⟩=some u:=by simp[World.cell?,hb,hc]
 have hfz:w.frozen? ⟨b,off,none⟩=false:=by simp[World.frozen?,hb];omega
 have gw:w.setCell ⟨b,off,none⟩ v=w.putObj b (.cells (arr.setIfInBounds off v) ty (lo,hi)):=by
  unfold World.setCell World.putObj
  congr 1
  apply agY;intro k;rw[Array.getElem?_modify,aeG];have aq:=(adD.1 hb).1
  by_cases hk:b=k
  .subst hk;have e:=(adD.1 hb).2;simp[aq,e]
  .simp[hk]
 have eJ:(store ⟨b,off,none⟩ v).run P w=.ok () (w.setCell ⟨b,off,none⟩ v):=by
  unfold store
  cases v<;>first|(cases h1;done)|simp[Sem.run,eO,hfz]
 unfold execOp;simp only[ho,hx,hv,Instr.storeAt,Instr.sureAddr,storeVar,sizeOf,typeInfo,adK,Sem.run_pure,Result.andThen_ok,run_program,du,hs,j5,ne_eq,ae4,ad1];have bl:(#[v]:Array Value).size=1:=rfl;simp only[bl,ae4,ad1];rw[show storeCells ⟨b,off,none⟩ (#[v]:Array Value).toList=storeCells ⟨b,off,none⟩ [v] 0 from rfl]
 have Tn:(⟨b,off,none⟩:Addr).add 0=⟨b,off,none⟩:=by unfold Addr.add;simp
 simp only[storeCells,Tn,adK,eJ,Result.andThen_ok,gw]
 rfl
def Nw {o:Oper} {s d e:TypeId} {x:Operand} {b cap:Nat} {l:List UInt8} (ho:o.op = .convert s d x) (hx:a.eval x = .slice (some ⟨b,0,none⟩) l.length cap) (hs:P.underlying s=some (.slice e)) (he:P.underlying e=some (.int .u8)) (hd:P.underlying d=some .string)
  (hc:∀j (hj:j<l.length),w.cell? ⟨b,j,none⟩=some (.int .u8 (l[j].toNat:Int))):(execOp a.eval o).run P w=.ok (.value (.string ⟨l.toArray⟩)) w:=by
 have h:=run_convert_bytes_back (P:=P) w s d e ⟨b,0,none⟩ cap l hs he hd (λj hj=>by
  have Tn:(⟨b,0,none⟩:Addr).add j=⟨b,j,none⟩:=by rw[aeA];simp
  rw[Tn];exact hc j hj)
 unfold execOp;simp only[ho,hx,adK,h]
 rfl
end
end Go.AL
namespace Go.Proofs.Tryz
open Go Go.AL Go.RowKit Go.Proofs Go.Proofs.Tram
attribute [local simp] ez fF fo eN eM ea eb dG dH eU dI da gZ g_ aF aD ev aP.S aP.H bt au aW AL.start AV.cells AV.storable AV.ct bC cb dU cd HR.okB post cH db c_ AV.out AV.b_ cU d_ fz ia AV.vw cW vI int cy aN di dQ iC jw eP dW bD AV.aI AV.cI
variable{GI:World->Prop}
structure KB(cc:Nat->Nat->Prop)(l:List UInt8)(o:Old)(b:Nat):Prop where
 c:o.c=cc
 ds:o.ds=[]
 bx:∀d,¬o.bx d
 aU:∃arr k,o.aU b=some (.cells arr 5 (k,k+1))/\l.length<=k/\∀j (h:j<l.length),arr[j]?=some (.int .u8 (l[j].toNat:Int))
def acz (hG:ar GI) (hT:TB GI) (ot:ML GI) {s:aw} (hsI:tK s=true) (fJ:dj s=true) {k:Nat} (gE:k < (eF s).length) {nx:Nat} (hd9:nx≤9) (wR:digit (eF s)[k]) (cD:(eF s)[k].toNat≠48+nx) :
  AC prog GI 5 [bm s,.int .i64 (k:Nat),.int .i64 (nx:Nat)] (.ret (.bool true)):=by
 have hk:=ac7 hG hT ot;obtain⟨hs,kH,uK⟩:=tr hsI;have ME:=Xv (GI:=GI) hG s;rw[show nD s=true by unfold nD;rw[hsI,fJ]<;>rfl]at ME;have Ax:=vb fJ;have a8:=PA (GI:=GI) hG hT s hs fJ zo
 have kV:=E8 fJ gE (d:=UInt8.ofNat (48+nx)) wR (by unfold digit;rw[show(UInt8.ofNat (48+nx)).toNat=48+nx by simp;omega];omega) (λe=>cD (by
  have:=congrArg UInt8.toNat e
  rw[<-this];simp;omega))
 have Ou:=W9 (GI:=GI) hG hT ot ((eF s).set k (UInt8.ofNat (48+nx)));rw[kV]at Ou;have ZE:=Y6 (GI:=GI) hG fb V5;unfold bm at ZE Ou;rw[NF]at ZE;have Eg:=wR;unfold digit at Eg
 have kc:((eF s)[k].toNat:Int)-48≠nx:=zo
 generalize eF s=t at*
 unfold bm at ME a8
 refine AC.ji func5 rfl ntmps5 ahB λcc w=>?_
 refine dT hG c5.qa (λS H=>S 1=.int .i64 (k:Nat)/\S 2=.int .i64 (nx:Nat)/\S 3=.box 3 0/\H 3=some (az s)) ?_ ?_
 .simp[c5,af.qa,bm,az,ai]
 rintro S H ⟨s1,s2,s3,e3⟩;refine dT hG c5.qb.qa (λS H=>S 1=.int .i64 (k:Nat)/\S 2=.int .i64 (nx:Nat)/\S 3=.box 3 0/\H 3=some (az s)) ?_ ?_
 .have h1:¬(nx:Int)<0:=zo
  have h2:¬(9:Int)<nx:=zo
  simp[c5,af.qa,af.qb,s1,s2,s3,e3,az,ai];refine oc ME ?_;simp[s1,s2,s3,e3,az,ai,h1,h2]
 clear s1 s2 s3 e3 S H;rintro S H ⟨s1,s2,s3,e3⟩;refine dT hG c5.qb.qb.qa (λS H=>S 1=.int .i64 (k:Nat)/\S 2=.int .i64 (nx:Nat)/\S 7=.str t/\S 8=.int .i64 0) ?_ ?_
 .simp[c5,af.qa,af.qb,s1,s2,s3,e3,az,ai];refine oc a8 ?_;simp[s1,s2,s3,e3,az,ai]
 clear s1 s2 s3 e3 S H;rintro S H ⟨s1,s2,s7,s8⟩;refine dT hG c5.qb.qb.qb.qa (λS H=>S 1=.int .i64 (k:Nat)/\S 2=.int .i64 (nx:Nat)/\S 7=.str t) ?_ ?_
 .simp[c5,af.qa,af.qb,s1,s2,s7,s8]
 clear s1 s2 s7 s8 S H;rintro S H ⟨s1,s2,s7⟩;refine dT hG c5.qb.qb.qb.qb.qa (λS H=>S 1=.int .i64 (k:Nat)/\S 2=.int .i64 (nx:Nat)/\S 7=.str t) ?_ ?_
 .have h0:¬(k:Int)<0:=zo
  have h1:¬(t.length:Int)<=k:=zo
  have h2:¬(t[k].toNat:Int)<48:=zo
  have h3:¬(57:Int)<t[k].toNat:=zo
  have hg:t[k]?=some t[k]:=adB gE
  have mR:IntKind.u8.wrap ((t[k].toNat:Int)-48)=(t[k].toNat:Int)-48:=by
   unfold IntKind.wrap;simp[IntKind.bits,IntKind.signed];omega
  have j0:IntKind.i64.wrap ((t[k].toNat:Int)-48)=(t[k].toNat:Int)-48:=aQ zo
  have h4:((t[k].toNat:Int)-48==nx)=false:=by simpa using kc
  simp[c5,af.qa,af.qb,s1,s2,s7,h0,h1,h2,h3,hg,gE,mR,j0,h4]
 clear s1 s2 s7 S H;rintro S H ⟨s1,s2,s7⟩
 obtain⟨d,hd⟩:∃d,UInt8.ofNat (48+nx)=d:=⟨_,rfl⟩
 have tB:(d.toNat:Int)=48+nx:=by rw[<-hd];simp;omega
 rw[hd]at Ou;obtain⟨i5,hi5,UA⟩:=iZ 5 1;show SW prog GI 85 none (.seq _ (.seq _ (.seq _ (.seq _ .ret)))) _ _ _ _
 refine SW.seq (SW.hand hG (p:=1) (lm:=[1]) (l2:=[2]) (jX:=[_]) (oh:=[_]) (mw:=[_]) rfl rfl rfl rfl zk (λ_ h=>h) (mS:=(c5.qb.qb.qb.qb.qb.qa.dl).take 1) (mf:=(c5.qb.qb.qb.qb.qb.qa.dl).drop 2) zk zk zk zk
  (K1:=λS H=>S 1=.int .i64 (k:Nat)/\S 2=.int .i64 (nx:Nat)/\S 61=.str t)
  (K2:=λo S H=>∃b cap,KB cc t o b/\S 1=.int .i64 (k:Nat)/\S 2=.int .i64 (nx:Nat)/\S 62=.val (.slice (some ⟨b,0,none⟩) t.length cap))
  (K3:=λo S H=>∃b cap,KB cc t o b/\S 1=.int .i64 (k:Nat)/\S 2=.int .i64 (nx:Nat)/\S 9=.val (.slice (some ⟨b,0,none⟩) t.length cap)) ?_ ?_ ?_ ?_)
 .simp[c5,af.qa,af.qb,af.dl,s1,s2,s7]
 .rintro w0 g S1 H1 a w1 m cm ho R ⟨s1,s2,s61⟩;have t61:=R.slot 61 zd (λh=>h);rw[s61]at t61;have t61:a.eval (.tmp 61)=.string ⟨t.toArray⟩:=nP t61;obtain⟨arr,cap,kk,dE,hl,nH⟩:=La (P:=prog) (a:=a) (w:=w1) (o:={ dst:=some 62,op:=.convert 9 45 (.tmp 61),type:=_,pos:=_,after:=_,guard:=_ }) (s:=9) (d:=45) (e:=5) rfl t61 zk zk zk;refine bf rfl rfl zr dE ?_;have R2:=R.IT (((aeC _ w1).drew).alloc (adF _) (.cells arr 5 (kk,kk+1))) (b:=w1.heap.size) (adF _) (aew w1.drew _);have R3:=R2.put 62 (.val (.slice (some ⟨w1.heap.size,0,none⟩) t.length cap)) _ zd (.data _ _ (.val _ rfl)) trivial;refine⟨_,_,H1,R3,w1.heap.size,cap,⟨by rw[ho]<;>rfl,by rw[ho]<;>rfl,by rw[ho];exact λ_ h=>h,arr,kk,aO _ _ _,hl,nH⟩,by simp[au,s1],by simp[au,s2],aO _ _ _⟩
 .rintro o S H ⟨b,cap,hK,s1,s2,Uf⟩;refine⟨hK.bx,?_⟩;simp[c5,af.qa,af.qb,af.dl,s1,s2,Uf]
  first|exact hK|exact⟨hK,rfl⟩|exact⟨b,cap,hK,rfl,rfl⟩
 clear s1 s2 s7 S H;rintro o S H ⟨b,cap,hK,s1,s2,s9⟩;have bK:=hK.bx
 refine SW.seq (SW.hand hG (p:=5) (lm:=[5,6]) (l2:=[]) (jX:=[_,_,_,_,_]) (oh:=[_,_]) (mw:=[]) rfl rfl rfl rfl zk bK (mS:=(c5.qb.qb.qb.qb.qb.qb.qa.dl).take 5) (mf:=[]) zk rfl zk rfl
  (K1:=λS H=>S 63=.val (.slice (some ⟨b,0,none⟩) t.length cap)/\S 64=.int .i64 (k:Nat)/\S 67=.int .u8 (48+nx:Int)/\S 9=.val (.slice (some ⟨b,0,none⟩) t.length cap))
  (K2:=λo S H=>KB cc (t.set k d) o b/\S 9=.val (.slice (some ⟨b,0,none⟩) t.length cap))
  (K3:=λo S H=>KB cc (t.set k d) o b/\S 9=.val (.slice (some ⟨b,0,none⟩) t.length cap)) ?_ ?_ ?_ ?_)
 .have mR:IntKind.i64.wrap (48+(nx:Int))=48+nx:=aQ zo
  have j0:IntKind.u8.wrap (48+(nx:Int))=48+nx:=by
   unfold IntKind.wrap;simp[IntKind.bits,IntKind.signed];omega
  simp[c5,af.qa,af.qb,af.dl,s1,s2,s9,mR,j0]
 .rintro w0 g S1 H1 a w1 m cm ho R ⟨Yd,s64,ox,s9⟩;have t63:=R.slot 63 zd (λh=>h);rw[Yd]at t63;have t63:a.eval (.tmp 63)=.slice (some ⟨b,0,none⟩) t.length cap:=t63.iA;have t64:=R.slot 64 zd (λh=>h);rw[s64]at t64;have t64:a.eval (.tmp 64)=.int .i64 (k:Nat):=t64.int_eq;have t67:=R.slot 67 zd (λh=>h);rw[ox]at t67;have t67:a.eval (.tmp 67)=.int .u8 (48+nx:Int):=t67.int_eq;obtain⟨arr,kk,n9,hl,nH⟩:=hK.aU;rw[<-ho]at n9;have hb:=(R.kept b _ n9).2.1;have bl:=R.size;refine bf rfl rfl zr (pB (k:=k) rfl zk hi5 t63 t64 gE) ?_;rw[UA,afk];have R1:=R.put 68 (.val (.pointer (some ⟨b,k,none⟩))) (.pointer (some ⟨b,k,none⟩)) zd (.data _ _ (.val _ rfl)) trivial
  have e68:(a.put (some 68) (.pointer (some ⟨b,k,none⟩))).eval (.tmp 68)=.pointer (some ⟨b,k,none⟩):=by rw[cg _ _ _ _ zo,if_pos rfl]
  have e67:(a.put (some 68) (.pointer (some ⟨b,k,none⟩))).eval (.tmp 67)=.int .u8 (48+nx:Int):=by rw[cg _ _ _ _ zo,if_neg zd];exact t67
  refine eT rfl rfl zr (IV rfl e68 hi5 UA hb zo (nH k gE) e67 rfl) ?_;have R2:=R1.mQ n9 (.cells (arr.setIfInBounds k (.int .u8 (48+nx:Int))) 5 (kk,kk+1));refine⟨_,_,H1,R2,⟨by show g.old.c=_;rw[ho];exact hK.c,by show g.old.ds=_;rw[ho];exact hK.ds,by show∀d,¬g.old.bx d;rw[ho];exact bK,_,kk,aO _ _ _,by rw[aeM];exact hl,λj hj=>?_⟩,by simp[au,s9]⟩;rw[aeM]at hj;have z_:k<arr.size:=(adD.1 (nH k gE)).1;rw[aeG,af4]
  by_cases tN:k=j
  .subst tN;simp[z_,tB]
  .rw[if_neg tN];simp only[tN,ad1];exact nH j hj
 .rintro o S H ⟨hK,s9⟩;exact⟨hK.bx,hK,s9⟩
 clear s1 s2 s9 hK bK S H;rintro o S H ⟨hK,s9⟩;have bK:=hK.bx
 refine SW.seq (SW.hand hG (p:=1) (lm:=[1]) (l2:=[2,3,4,5,6,7,8]) (jX:=[_]) (oh:=[_]) (mw:=[_,_,_,_,_,_,_]) rfl rfl rfl rfl zk bK (mS:=(c5.qb.qb.qb.qb.qb.qb.qb.qa.dl).take 1) (mf:=(c5.qb.qb.qb.qb.qb.qb.qb.qa.dl).drop 2) zk zk zk zk
  (K1:=λS H=>S 70=.val (.slice (some ⟨b,0,none⟩) t.length cap))
  (K2:=λo S H=>(o.c=cc/\o.ds=[]/\∀d,¬o.bx d)/\S 71=.str (t.set k d))
  (K3:=λo S H=>(o.c=cc/\o.ds=[]/\∀d,¬o.bx d)/\S 10=.box 10 0/\H 10=some (az fb)/\S 11=.int .i64 4) ?_ ?_ ?_ ?_)
 .simp[c5,af.qa,af.qb,af.dl,s9]
 .rintro w0 g S1 H1 a w1 m cm ho R Vi;have t70:=R.slot 70 zd (λh=>h);rw[Vi]at t70
  have t70:a.eval (.tmp 70)=.slice (some ⟨b,0,none⟩) (t.set k d).length cap:=by rw[aeM];exact t70.iA
  obtain⟨arr,kk,n9,hl,nH⟩:=hK.aU;rw[<-ho]at n9;have hb:=(R.kept b _ n9).2.1
  refine bf rfl rfl zr (Nw (l:=t.set k d) rfl t70 zk (by kernel_rfl:prog.underlying 5=some (.int .u8)) zk λj hj=>by
   rw[<-nH j hj];simp[World.cell?,hb]) ?_
  have R2:=R.put 71 (.str (t.set k d)) (.string ⟨(t.set k d).toArray⟩) zd (.data _ _ (.str _)) trivial;exact⟨_,_,H1,R2,⟨by rw[ho];exact hK.c,by rw[ho];exact hK.ds,by rw[ho];exact bK⟩,aO _ _ _⟩
 .rintro o S H ⟨ho,s71⟩;refine⟨ho.2.2,?_⟩;simp[c5,af.qa,af.qb,af.dl,s71];refine oc Ou ?_;simp[ho,NF]
 clear s9 hK bK S H;rintro o S H ⟨⟨hoc,aa7,bK⟩,bJ,iP,bG⟩;rw[NF]at iP;refine pz hG c5.qb.qb.qb.qb.qb.qb.qb.qb.qa (λd _=>bK d) (λS H=>S 6=.bool true) ?_ ?_
 .simp[c5,af.qa,af.qb,bJ,iP,bG,bH];refine oc ZE ?_;simp;refine⟨_,zk,hk,λ_=>rfl,?_⟩;simp
 intro S H s6;refine SW.ret ⟨eo.plain aa7,hoc,.bool true,?_,rfl⟩;show cH prog 85 [.tmp 6] S H=_;simp[cH,db,c_,s6,AV.b_,AV.out]
def ac5(hG:ar GI)(hT:TB GI)(ot:ML GI)(s:aw)(p q:Int):AC prog GI 5 [bm s,.int .i64 p,.int .i64 q] (.ret (.bool true)):=by
 have hk:=ac7 hG hT ot;have ME:=Xv (GI:=GI) hG s
 by_cases EM:nD s=true/\0<=q/\q<=9/\0<=p/\∃h:p.toNat<(eF s).length,digit (eF s)[p.toNat]/\((eF s)[p.toNat].toNat:Int)≠48+q
 .obtain⟨h1,h3,h4,h5,h6,h7,h8⟩:=EM;unfold nD at h1;rw[adE]at h1;have:=acz hG hT ot h1.1 h1.2 h6 (nx:=q.toNat) zo h7 zo;rw[aga h5,aga h3]at this;exact this
 refine cw hG func5 ntmps5 c5 ?_;refine aK (λS H=>S 1=.int .i64 p/\S 2=.int .i64 q/\S 3=.box 3 0/\H 3=some (az s)) (by simp[bm,az,ai]) ?_;rintro S H ⟨s1,s2,s3,e3⟩
 by_cases qg:nD s=true/\0<=q/\q<=9
 case neg=>
  have yO:nD s=false\/q<0\/9<q:=by
   cases h:nD s
   .exact .inl rfl
   .refine .inr ?_
    by_cases h0:q<0
    .exact .inl h0
    .exact .inr (Classical.byContradiction λh9=>qg ⟨h,zo,zo⟩)
  generalize nD s=b at*
  refine wx (λS H=>S 22=.bool true) ?_ ?_
  .simp[s1,s2,s3,e3,az,ai];refine oc ME ?_
   cases b with
   |false=>simp[s1,s2,s3,e3]
   |true=>
    by_cases h0:q<0
    .simp[s1,s2,s3,e3,h0]
    .have h9:9<q:=by rcases yO with h|h|h;cases h;omega;exact h
     simp[s1,s2,s3,e3,h0,h9]
  clear s1 s2 s3 e3 S H;intro S H kh;refine Dv kh ?_;simp;refine⟨_,zk,hk,λ_=>rfl,?_⟩;simp
 obtain⟨hr,Jx,hq9⟩:=qg
 have hm:¬(0<=p/\∃h:p.toNat<(eF s).length,digit (eF s)[p.toNat]/\((eF s)[p.toNat].toNat:Int)≠48+q):=λh=>EM ⟨hr,Jx,hq9,h⟩
 have ir:=hr;unfold nD at ir;rw[adE]at ir;obtain⟨hs,kH,uK⟩:=tr ir.1;have Ax:=vb ir.2;have a8:=PA (GI:=GI) hG hT s hs ir.2 zo;rw[hr]at ME
 replace Jx:¬q<0:=by omega
 replace hq9:¬9<q:=by omega
 generalize eF s=t at*
 refine aK (λS H=>S 1=.int .i64 p/\S 2=.int .i64 q/\S 3=.box 3 0/\H 3=some (az s)) ?_ ?_
 .simp[s1,s2,s3,e3,az,ai];refine oc ME ?_;simp[s1,s2,s3,e3,az,ai,Jx,hq9]
 clear s1 s2 s3 e3 S H;rintro S H ⟨s1,s2,s3,e3⟩;refine aK (λS H=>S 1=.int .i64 p/\S 2=.int .i64 q/\S 7=.str t/\S 8=.int .i64 0) ?_ ?_
 .simp[s1,s2,s3,e3,az,ai];refine oc a8 ?_;simp[s1,s2]
 clear s1 s2 s3 e3 S H;rintro S H ⟨s1,s2,s7,s8⟩;refine aK (λS H=>S 1=.int .i64 p/\S 2=.int .i64 q/\S 7=.str t) (by simp[s1,s2,s7,s8]) ?_;clear s1 s2 s7 s8 S H;rintro S H ⟨s1,s2,s7⟩;refine wx (λS H=>S 59=.bool true) ?_ ?_
 .by_cases CI:p<0
  .simp[s1,s2,s7,CI]
  by_cases E5:(t.length:Int)<=p
  .simp[s1,s2,s7,CI,E5]
  obtain⟨k,rfl⟩:∃k:Nat,p=k:=⟨p.toNat,zo⟩
  have gE:k<t.length:=zo
  have hg:t[k]?=some t[k]:=adB gE
  have hm:¬(digit t[k]/\(t[k].toNat:Int)≠48+q):=λh=>hm ⟨zo,gE,h⟩
  have E1:=sL t[k]
  by_cases Sd:(t[k].toNat:Int)<48
  .simp[s1,s2,s7,CI,E5,hg,gE,Sd]
  by_cases h57:(57:Int)<t[k].toNat
  .simp[s1,s2,s7,CI,E5,hg,gE,Sd,h57]
  have he:(t[k].toNat:Int)=48+q:=by
   refine Classical.byContradiction λh=>hm ⟨?_,h⟩
   unfold digit;omega
  have mR:IntKind.u8.wrap ((t[k].toNat:Int)-48)=q:=by
   unfold IntKind.wrap;simp[IntKind.bits,IntKind.signed];omega
  have j0:IntKind.i64.wrap q=q:=aQ zo;simp[s1,s2,s7,CI,E5,hg,gE,Sd,h57,mR,j0]
 clear s1 s2 s7 S H;intro S H s59;refine Dv s59 ?_;simp;refine⟨_,zk,hk,λ_=>rfl,?_⟩;simp
end Go.Proofs.Tryz
namespace Go.Proofs.YtajdcjkalbbogaaGreatDoor
open Go Go.AL Go.ChangeShapes Go.WideShapes Go.ChangeAt Go.RowKit Go.Proofs.Tryz
namespace Spoilt
abbrev row:OpenClaim:=Rows.tramSpoiltRow
abbrev spec:ChangeSpec:=Rows.tramSpoiltSpec
def call (W:World) (base:Nat) (args:Array Value) {H:Type} {enc:TypeId×Value→H} (ds:List (DataW H)) (p:List MemPlace) (hG:GT W) (xr:∀ (j:Nat) t v,Tryz.f5.params[j]? = some t→args[j]? = some v→Value.okWide Tryz.prog W .any base t v)
  (hA:DataW.TrodAll enc Tryz.prog W 0 (λ_=>true) true Tryz.f5.params.toList args.toList ds p):Calls Tryz.prog 5 args W λe W'=>e=.returned (.bool true)/\Below W.heap.size W W':=by
 rw[Tryz.params5]at hA xr;obtain⟨v0,Tk,d0,ds0,p0,q0,e0,rfl,rfl,h0,Ly⟩:=trodAll_cons hA;obtain⟨v1,vs1,d1,ds1,p1,q1,e1,rfl,rfl,h1,RX⟩:=trodAll_cons Ly;obtain⟨v2,vs2,d2,ds2,p2,q2,e2,rfl,rfl,h2,hr3⟩:=trodAll_cons RX;obtain⟨rfl,rfl,rfl⟩:=trodAll_nil hr3
 obtain rfl:args=#[v0,v1,v2]:=by
  apply Array.toList_inj.1;rw[e0,e1,e2]
 obtain⟨x0,g0,a0⟩:=IL (xr 0 31 v0 rfl rfl) h0;obtain⟨x1,g1,a1⟩:=open_int (xr 1 3 v1 rfl rfl) h1;obtain⟨x2,g2,a2⟩:=open_int (xr 2 3 v2 rfl rfl) h2
 refine PY (ac5 N1 (λ_ h=>h.2) (λ_ h=>h.1) x0 x1 x2) hG rfl λi h h'=>?_
 match i,h with
 |0,_=>exact .data _ _ a0
 |1,_=>exact .data _ _ a1
 |2,_=>exact .data _ _ a2
def w1(os:Os):((World.laidAll Tryz.prog os row.laid).forCall (λ_ _=>0) ⟨#[],#[.agg #[.slice none 0 0,.int .i64 0,.int .i64 0,.int .i64 0,.int .i64 0,.slice none 0 0,.slice none 0 0,.int .i64 0,.int .i64 0,.int .i64 0,.int .i64 0,.int .i64 0,.slice none 0 0,.int .i64 0,.int .i64 0],.int .i64 0,.int .i64 0],[]⟩).Shaped Tryz.checked.prog:=
 World.shaped_of_ZipB zk zk
def lifted (os:Os) (started:os.Started) (H:Type) (enc:TypeId×Value→H) :
  ReturnsInHanded {} Tryz.checked os 5 .any (λw args=>(spec.pre enc Tryz.prog Tryz.f5 row.domain false w args/\laidMetH Tryz.prog row.laid w)/\sizedMet enc Tryz.prog Tryz.f5 (OpenSpec.ofChange spec) false w args)
   (spec.post enc Tryz.prog Tryz.f5 false true false false):=by
 refine JK 5 Tryz.f5 Tryz.func5 zk zk spec rfl ?_ ?_ os started _ 12 (w1 os) zk zk zk ?_ (λW base args ds p=>call W base args ds p)
 .intro ds hl;rw[show Tryz.f5.params.size=3 by kernel_rfl]at hl
  match ds,hl with
  |[d0,d1,d2],_=>rfl
 .rw[Tryz.params5];intro t ht
  have:t=31\/t=3:=by simpa using ht
  rcases this with rfl|rfl
  all_goals exact⟨zk,afD zk⟩
 .rw[ag7 _ _ _ zk];exact laidMet_laidAll _ zk zk
def Mw:Tryz.prog.funcNamed "mahlstick/mahlsticklaw09.TramSpoilt" = some 5:=by kernel_rfl
def OK:(row.inPlace==Tryz.prog.inPlace 5)=true:=by kernel_rfl
def Fl:(row.unfollowed==Tryz.prog.unfollowed 5)=true:=by kernel_rfl
def KX:(row.recurses==Tryz.prog.recurses 5)=true:=by kernel_rfl
def Wo:(row.named==Tryz.prog.varsNamed 5)=true:=by kernel_rfl
def VR:joinedFacts Tryz.prog 5 Tryz.f5 spec row=true:=
 O6 ⟨rfl,rfl,rfl,rfl,rfl,rfl⟩ zk zk zk OK Fl KX Wo zk zk zk zk
def K8:Tryz.f5.isInstance Tryz.prog row.origin row.targs:=afD zk
def OQ:Tryz.f5.isWrapper Tryz.prog row.wrapper row.mainSum:=by
 unfold Func.isWrapper;rw[if_neg (by decide+kernel)];exact⟨rfl,rfl⟩
def holds:Rows.TramSpoiltSaid:=
 OpenClaim.holds_of_wide 5 Tryz.f5 rfl rfl rfl rfl rfl rfl rfl ⟨rfl,rfl,rfl,rfl,rfl⟩ rfl rfl rfl rfl rfl Mw Tryz.func5 VR K8 OQ (λos started H enc _=>lifted os started H enc)
def acx:row.wfByText (OpenSpec.ofChange spec)=true:=by kernel_rfl
def WB:false=row.goesBy Tryz.prog:=by kernel_rfl
def RP:([31,3].all λu=>!Tryz.prog.wantsStandIn u)=true:=by kernel_rfl
def VB:Tryz.prog.mainIs=some (true, "82171092be9143676f45a3056eb5c6b4af787ddf9532c329b36358d498a216de".toList):=by rw [Q4,Z3]
def card:Rows.TramSpoiltCardSaid:=
 Claim7.holds_tied_plain_at .later [] [.data,.data,.data,.data,.pinned] true (true, "82171092be9143676f45a3056eb5c6b4af787ddf9532c329b36358d498a216de") true holds (λ_ h=>by cases h) acx (λ_ h=>by cases h) tramSpoilt_row_tie rfl ⟨rfl,rfl⟩ VB rfl
  (λf fn hf UT=>by
   obtain rfl:f=5:=ad7 (Mw.symm.trans hf)|>.symm
   obtain rfl:fn=Tryz.f5:=(ad7 (Tryz.func5.symm.trans UT)).symm;refine⟨TA,λj t ht=>?_⟩;rw[Tryz.params5]at ht
   have hm:t∈[31,3]:=by
    simpa using aeK ht
   exact(show Tryz.prog.wantsStandIn t=false by simpa using adQ.1 RP t hm))
  WB
end Spoilt
#print axioms Spoilt.card
end Go.Proofs.YtajdcjkalbbogaaGreatDoor
