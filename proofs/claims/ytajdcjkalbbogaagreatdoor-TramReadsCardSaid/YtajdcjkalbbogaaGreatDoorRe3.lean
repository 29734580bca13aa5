/- A part of the proof. -/
import Derived.Test.YtajdcjkalbbogaaGreatDoorRe2
set_option maxRecDepth 100000
set_option maxHeartbeats 8000000
set_option linter.all false
namespace Go.Proofs.Tryz
open Go Go.AL Go.RowKit Go.Proofs Go.Proofs.Tram
attribute [local simp] aU bB bm aO aV aJ aK av az aW aw ao bO bP an ar ev aM.S aM.H bj aF bl AL.start AV.cells AV.storable AV.aZ aP bt bV bu HR.okB post bQ bG bH AV.out AV.aX aG aL fz cL AV.vw bT vI int a_ aq bD bq cd cj bZ bI aI AV.bC AV.dE
variable{GI:World->Prop}
def jO:List AV:=[.slice .nil [],.slice .nil [],.int .i64 0,.int .i64 0,.int .i64 0,.int .i64 0,.int .i64 0,.slice .nil [],.int .i64 0,.int .i64 0]
def aa3(hG:aQ GI){s e:List UInt8}(hs:s.length<=320)(te:AC prog GI 94 [.str s] (.panic (qE e))):AC prog GI 43 [.str s] (.ret (.ea [dj cn,.int .i64 4])):=by
 refine AC.j7 func43 rfl ntmps43 ah7 λcc w=>?_
 refine eR hG c43.qa (λS' H'=>S' 1=.box 1 0/\S' 2=.box 2 0/\H' 1=some [.str s]/\∃z,H' 2=some z/\z.length=10) ?_ ?_
 .simp[c43,ah.qa,cW,cQ,an,cy,ar,ev,aM.S,aM.H,aF,bl,AL.start,AV.bC,AV.cells,AV.storable,bt,bj,aq]
 rintro S1 H1 ⟨s1,s2,h1,z2,h2,JD⟩;refine SW.seq (eR hG c43.qb.qa.qa (λS' H'=>S' 1=.box 1 0/\S' 2=.box 2 0/\H' 1=some [.str s]/\H' 2=some z2/\S' 8=.bool false) ?_ ?_)
 .have Uv:¬(320:Int)<s.length:=zo
  simp[c43,ah.qa,ah.qb,cW,cQ,an,cy,ar,ev,aM.S,aM.H,aF,bl,s1,s2,h1,h2,bu,HR.okB,AV.bC,bV,Uv,aq]
 rintro S2 H2 ⟨s1,s2,h1,h2,s8⟩;refine SW.cond rfl false (by show S2 8=_;rw[s8]) (SW.skip ?_);show SW prog GI 21 none (.seq _ (.seq (.seq _ (.seq _ (.cond _ _ _))) (.seq (.seq _ (.cond _ _ _)) (.seq _ .ret)))) _ _ _ _;refine eR hG c43.qb.qb.qa (λS' H'=>S' 1=.box 1 0/\S' 2=.box 2 0/\S' 4=.box 4 0/\H' 1=some [.str s]/\H' 2=some z2/\∃z,H' 4=some z/\z.length=10) ?_ ?_
 .simp[c43,ah.qa,ah.qb,cW,cQ,an,cy,aF,bt,s1,s2,h1,h2,aq]
 rintro S3 H3 ⟨s1,s2,s4,h1,h2,z4,h4,SG⟩
 refine SW.seq (SW.seq (SW.hand hG (p:=0) (lm:=[0,1]) (l2:=[2]) (lh:=[]) (oh:=[_,_]) (oA:=[_]) rfl rfl rfl rfl zk (λ_ h=>h) (po:=[]) (ox:=(c43.qb.qb.qb.qa.qa.dl).drop 2) rfl zk rfl zk
  (K1:=λS' H'=>S' 1=.box 1 0/\S' 2=.box 2 0/\S' 4=.box 4 0/\H' 1=some [.str s]/\H' 2=some z2/\H' 4=some z4)
  (K2:=λo S' H'=>o=Old.plain cc w/\S' 2=.box 2 0/\S' 4=.box 4 0/\S' 11=.int .i64 4/\H' 2=some z2/\H' 4=some z4)
  (K3:=λo S' H'=>o=Old.plain cc w/\S' 2=.box 2 0/\S' 4=.box 4 0/\S' 5=.int .i64 4/\H' 2=some z2/\H' 4=some z4) ⟨s1,s2,s4,h1,h2,h4⟩ ?_ ?_ ?_))
 .rintro w0 g S5 H5 a w5 m dI ho R ⟨s1,s2,s4,h1,h2,h4⟩;have cM:=R.size;refine cI rfl rfl zr (nt (fn:=.func 93) (c:=#[.tmp 1,.tmp 4]) rfl) ?_
  obtain⟨fv,mK⟩:∃fv:Value,fv=.func (.func 93) #[] (#[Operand.tmp 1,.tmp 4].map a.eval):=⟨_,rfl⟩
  show wpOpsIn _ _ _ _ _ [1] (a.put (some 10) (.func (.func 93) #[] (#[Operand.tmp 1,.tmp 4].map a.eval))) w5;rw[<-mK];have R1:=R.put 10 .cT fv zd (.cT _) trivial
  obtain⟨a1,ov⟩:∃a1,a.put (some 10) fv=a1:=⟨_,rfl⟩
  rw[ov]at R1⊢
  have vS:fv=.func (.func 93) #[] #[a1.tmps.getD 1 undef,a1.tmps.getD 4 undef]:=by
   have e1:=dJ a 10 1 fv zo;have e4:=dJ a 10 4 fv zo;rw[if_neg zd,ov]at e1 e4;have Ar:a1.tmps.getD 1 undef=a.eval (.tmp 1):=e1;have Fz:a1.tmps.getD 4 undef=a.eval (.tmp 4):=e4;rw[Ar,Fz,mK];simp only[aeN,aer,aeF]
  have jZ:a1.eval (.tmp 10)=fv:=by rw[<-ov,dJ _ _ _ _ zo,if_pos rfl]
  refine il rfl rfl zr (ia (k:=92) (args:=#[.func (.func 93) #[] #[a1.tmps.getD 1 undef,a1.tmps.getD 4 undef]]) w5 rfl rfl ?_ zk) (SC hG dI R1 (i1:=1) (i4:=4) zd zd (by simp[aF,s1]) h1 (by simp[aF,s4]) h4 te) ?_
  .simp only[aeN,aer,aeF,jZ,<-vS]
  .rintro e w6 ⟨rfl,g',qh,R2⟩;refine⟨_,rfl,?_⟩;have R3:=R2.put 11 (.int .i64 4) (.int .i64 4) zd (.data _ _ (.int _ _)) trivial;refine⟨g',_,H5,R3,qh.trans ho,?_,?_,bX _ _ _,h2,h4⟩
   .simp[aF,s2]
   .simp[aF,s4]
 .rintro o S5 H5 ⟨rfl,s2,s4,cG,h2,h4⟩;refine⟨λ_ h=>h,?_⟩;simp[c43,ah.qa,ah.qb,ah.dl,cQ,an,cy,ar,ev,aM.S,aM.H,aF,bl,s2,s4,cG,h2,h4,AV.bC,bj]
 .rintro o S5 H5 ⟨rfl,s2,s4,s5,h2,h4⟩;refine eR hG c43.qb.qb.qb.qa.qb.qa (λS' H'=>S' 2=.box 2 0/\S' 5=.int .i64 4/\S' 13=.bool true/\H' 2=some z2) ?_ ?_
  .simp[c43,ah.qa,ah.qb,cW,cQ,an,cy,ar,ev,aM.S,aM.H,aF,bl,s2,s4,s5,h2,h4,AV.bC,bV,aq]
  rintro S6 H6 ⟨s2,s5,dY,h2⟩;refine SW.cond rfl true (by show S6 13=_;rw[dY]) ?_;show SW prog GI 21 none (.seq _ .ret) _ _ _ _;have Pn:List.drop 10 z2=[]:=afj zo;refine eR hG c43.qb.qb.qb.qa.qb.qb.qa.qa (λS' H'=>S' 2=.box 2 0/\S' 3=.int .i64 4/\H' 2=some jO) ?_ ?_
  .simp[c43,ah.qa,ah.qb,s2,s5,h2,cD,jO,JD,Pn]
  rintro S8 H8 ⟨s2,s3,h2⟩;obtain⟨i28,mV,m_⟩:=iZ 29 10;obtain⟨fs,fw⟩:=uZ 29;refine SW.ret ⟨e_.plain rfl,rfl,_,?_,rfl⟩;show bQ prog 21 [.cell 2 29,.tmp 3] S8 H8=_;simp[bQ,bG,bH,s2,s3,h2,mV,fw,m_,bu,ef,AV.out,jO,AV.bC,AV.aX,AV.vw,AV.dE,dj,ai,cn,vI,ints]
def Y' (hG:aQ GI) {s:List UInt8} {x:List AV} (hs:s.length≤320) (hx:x.length=10) (te:AC prog GI 94 [.str s] (.ret (.agg x))) (TQ:AC prog GI 44 [.agg (x.map AV.dE)] (.ret (.bool false))) :
  AC prog GI 43 [.str s] (.ret (.ea [dj cn,.int .i64 2])):=by
 refine AC.j7 func43 rfl ntmps43 ah7 λcc w=>?_
 refine eR hG c43.qa (λS' H'=>S' 1=.box 1 0/\S' 2=.box 2 0/\H' 1=some [.str s]/\∃z,H' 2=some z/\z.length=10) ?_ ?_
 .simp[c43,ah.qa,cW,cQ,an,cy,ar,ev,aM.S,aM.H,aF,bl,AL.start,AV.bC,AV.cells,AV.storable,bt,bj,aq]
 rintro S1 H1 ⟨s1,s2,h1,z2,h2,JD⟩;refine SW.seq (eR hG c43.qb.qa.qa (λS' H'=>S' 1=.box 1 0/\S' 2=.box 2 0/\H' 1=some [.str s]/\H' 2=some z2/\S' 8=.bool false) ?_ ?_)
 .have Uv:¬(320:Int)<s.length:=zo
  simp[c43,ah.qa,ah.qb,cW,cQ,an,cy,ar,ev,aM.S,aM.H,aF,bl,s1,s2,h1,h2,bu,HR.okB,AV.bC,bV,Uv,aq]
 rintro S2 H2 ⟨s1,s2,h1,h2,s8⟩;refine SW.cond rfl false (by show S2 8=_;rw[s8]) (SW.skip ?_);show SW prog GI 21 none (.seq _ (.seq (.seq _ (.seq _ (.cond _ _ _))) (.seq (.seq _ (.cond _ _ _)) (.seq _ .ret)))) _ _ _ _;refine eR hG c43.qb.qb.qa (λS' H'=>S' 1=.box 1 0/\S' 2=.box 2 0/\S' 4=.box 4 0/\H' 1=some [.str s]/\H' 2=some z2/\∃z,H' 4=some z/\z.length=10) ?_ ?_
 .simp[c43,ah.qa,ah.qb,cW,cQ,an,cy,aF,bt,s1,s2,h1,h2,aq]
 rintro S3 H3 ⟨s1,s2,s4,h1,h2,z4,h4,SG⟩
 refine SW.seq (SW.seq (SW.hand hG (p:=0) (lm:=[0,1]) (l2:=[2]) (lh:=[]) (oh:=[_,_]) (oA:=[_]) rfl rfl rfl rfl zk (λ_ h=>h) (po:=[]) (ox:=(c43.qb.qb.qb.qa.qa.dl).drop 2) rfl zk rfl zk
  (K1:=λS' H'=>S' 1=.box 1 0/\S' 2=.box 2 0/\S' 4=.box 4 0/\H' 1=some [.str s]/\H' 2=some z2/\H' 4=some z4)
  (K2:=λo S' H'=>o=Old.plain cc w/\S' 2=.box 2 0/\S' 4=.box 4 0/\S' 11=.int .i64 0/\H' 2=some z2/\H' 4=some (x.map AV.bC))
  (K3:=λo S' H'=>o=Old.plain cc w/\S' 2=.box 2 0/\S' 4=.box 4 0/\S' 5=.int .i64 0/\H' 2=some z2/\H' 4=some (x.map AV.bC)) ⟨s1,s2,s4,h1,h2,h4⟩ ?_ ?_ ?_))
 .rintro w0 g S5 H5 a w5 m dI ho R ⟨s1,s2,s4,h1,h2,h4⟩;have cM:=R.size;refine cI rfl rfl zr (nt (fn:=.func 93) (c:=#[.tmp 1,.tmp 4]) rfl) ?_
  obtain⟨fv,mK⟩:∃fv:Value,fv=.func (.func 93) #[] (#[Operand.tmp 1,.tmp 4].map a.eval):=⟨_,rfl⟩
  show wpOpsIn _ _ _ _ _ [1] (a.put (some 10) (.func (.func 93) #[] (#[Operand.tmp 1,.tmp 4].map a.eval))) w5;rw[<-mK];have R1:=R.put 10 .cT fv zd (.cT _) trivial
  obtain⟨a1,ov⟩:∃a1,a.put (some 10) fv=a1:=⟨_,rfl⟩
  rw[ov]at R1⊢
  have vS:fv=.func (.func 93) #[] #[a1.tmps.getD 1 undef,a1.tmps.getD 4 undef]:=by
   have e1:=dJ a 10 1 fv zo;have e4:=dJ a 10 4 fv zo;rw[if_neg zd,ov]at e1 e4;have Ar:a1.tmps.getD 1 undef=a.eval (.tmp 1):=e1;have Fz:a1.tmps.getD 4 undef=a.eval (.tmp 4):=e4;rw[Ar,Fz,mK];simp only[aeN,aer,aeF]
  have jZ:a1.eval (.tmp 10)=fv:=by rw[<-ov,dJ _ _ _ _ zo,if_pos rfl]
  refine il rfl rfl zr (ia (k:=92) (args:=#[.func (.func 93) #[] #[a1.tmps.getD 1 undef,a1.tmps.getD 4 undef]]) w5 rfl rfl ?_ zk) (MT hG dI R1 (d:=11) (i1:=1) (i4:=4) zd zd zd zd (by simp[aF,s1]) h1 (by simp[aF,s4]) h4 SG hx te) ?_
  .simp only[aeN,aer,aeF,jZ,<-vS]
  .rintro e w6 ⟨rfl,c,g',S',H',qh,R2,rX,vz⟩;refine⟨_,rfl,?_⟩;have R3:=R2.put 11 (.int .i64 0) (.int .i64 0) zd (.data _ _ (.int _ _)) trivial;rw[zW]at R3;refine⟨g',_,H',R3,qh.trans ho,?_,?_,bX _ _ _,?_,?_⟩
   .show aF S' 11 _ 2=_;rw[b_ _ _ zd,rX 2 zd];simp[aF,s2]
   .show aF S' 11 _ 4=_;rw[b_ _ _ zd,rX 4 zd];simp[aF,s4]
   .rw[vz,b_ _ _ zd];exact h2
   .rw[vz];exact bX _ _ _
 .rintro o S5 H5 ⟨rfl,s2,s4,cG,h2,h4⟩;refine⟨λ_ h=>h,?_⟩;simp[c43,ah.qa,ah.qb,ah.dl,cQ,an,cy,ar,ev,aM.S,aM.H,aF,bl,s2,s4,cG,h2,h4,AV.bC,bj]
 .rintro o S5 H5 ⟨rfl,s2,s4,s5,h2,h4⟩;refine eR hG c43.qb.qb.qb.qa.qb.qa (λS' H'=>S' 2=.box 2 0/\S' 4=.box 4 0/\S' 13=.bool false/\H' 2=some z2/\H' 4=some (x.map AV.bC)) ?_ ?_
  .simp[c43,ah.qa,ah.qb,cW,cQ,an,cy,ar,ev,aM.S,aM.H,aF,bl,s2,s4,s5,h2,h4,AV.bC,bV,aq]
  rintro S6 H6 ⟨s2,s4,dY,h2,h4⟩;refine SW.cond rfl false (by show S6 13=_;rw[dY]) (SW.skip ?_);have BV:List.take 10 (x.map AV.bC)=x.map AV.bC:=aee (by simp;omega)
  have e7:∀(l:List AV) H,fz H (.agg (l.map AV.bC))=.agg (l.map AV.dE):=λl H=>by simp only[fz,cL,AV.vw,aft,p9]
  refine SW.seq (eR hG c43.qb.qb.qb.qb.qa.qa (λS' H'=>S' 2=.box 2 0/\S' 18=.bool true/\H' 2=some z2) ?_ ?_)
  .simp[c43,ah.qa,ah.qb,cW,cQ,an,cy,ar,ev,aM.S,aM.H,aF,bl,s2,s4,h2,h4,bu,HR.okB,hx,js,BV,e7,aq,-fz];refine oc TQ ?_;simp[fB,aF,s2,s4,h2,h4]
  rintro S7 H7 ⟨s2,kJ,h2⟩;refine SW.cond rfl true (by show S7 18=_;rw[kJ]) ?_;show SW prog GI 21 none (.seq _ .ret) _ _ _ _;have Pn:List.drop 10 z2=[]:=afj zo;refine eR hG c43.qb.qb.qb.qb.qa.qb.qa.qa (λS' H'=>S' 2=.box 2 0/\S' 3=.int .i64 2/\H' 2=some jO) ?_ ?_
  .simp[c43,ah.qa,ah.qb,s2,h2,cD,jO,JD,Pn]
  rintro S8 H8 ⟨s2,s3,h2⟩;obtain⟨i28,mV,m_⟩:=iZ 29 10;obtain⟨fs,fw⟩:=uZ 29;refine SW.ret ⟨e_.plain rfl,rfl,_,?_,rfl⟩;show bQ prog 21 [.cell 2 29,.tmp 3] S8 H8=_;simp[bQ,bG,bH,s2,s3,h2,mV,fw,m_,bu,ef,AV.out,jO,AV.bC,AV.aX,AV.vw,AV.dE,dj,ai,cn,vI,ints]
def JW(t:List UInt8):AV:=if 320<t.length then .ea [dj cn,.int .i64 3]else match jq t with
 |.error _=>.ea [dj cn,.int .i64 4]
 |.ok x=>if cN x then .ea [dj x,.int .i64 0]else .ea [dj cn,.int .i64 2]
def sV{t:List UInt8}(ht:t.length<=420){x:bw}(h:jq t=.ok x):ss x:=by
 have Fm:jq t=if(bL 10 t).length<2 then .error t else c_ (dO eY cn ((bL 10 t).take ((bL 10 t).length-2))) λx=>if fb x=t then .ok x else .error t:=rfl
 rw[Fm]at h;split at h
 .cases h
 obtain⟨y,hy,h⟩:=eO h;split at h
 case isFalse=>cases h
 cases h;have hl:=fZ 10 t;obtain⟨hg,_⟩:=qV (b:=421) (λr hr=>by have:=fc (c:=10) (aeL hr);omega) (iU _) hy
 have hL:((bL 10 t).take ((bL 10 t).length-2)).length<=421:=by rw[aes];omega
 exact⟨by have:=hg.bJ;omega,by have:=hg.bK;omega,by have:=hg.words;omega,λw hw=>by have:=hg.cb w hw;omega,λw hw=>by have:=hg.dq w hw;omega⟩
def wj(x:bw):(ai x).map AV.dE=ai x:=rfl
def Y5(hG:aQ GI)(hT:TB GI)(qD:ML GI)(t:List UInt8)(ht:t.length<=420):AC prog GI 43 [.str t] (.ret (JW t)):=by
 unfold JW
 by_cases hl:320<t.length
 .rw[if_pos hl]
  have rK:(320:Int)<t.length:=zo
  obtain⟨i28,mV,m_⟩:=iZ 29 10;obtain⟨fs,fw⟩:=uZ 29;refine dF hG func43 ntmps43 c43 ?_;simp[c43,rK,cD,mV,fw,m_,ef,dj,ai,cn,ints]
 rw[if_neg hl];have a119:=aci hG hT qD t ht
 cases hp:jq t with
 |error e=>
  rw[hp]at a119;exact aa3 hG zo a119
 |ok x=>
  rw[hp]at a119;have hs:=sV ht hp;have XY:=HK hG x hs;simp only
  cases gC:cN x with
  |true=>
   rw[gC]at XY;have:=abV hG (s:=t) (x:=ai x) zo rfl a119 (by rw[wj];exact XY);rw[wj]at this;exact this
  |false=>
   rw[gC]at XY;exact Y' hG zo (x:=ai x) rfl a119 (by rw[wj];exact XY)
end Go.Proofs.Tryz
namespace Go.Proofs.Tryz
open Go Go.AL Go.RowKit Go.Proofs Go.Proofs.Tram
attribute [local simp] aU bB fT fu aV aJ aK av az aW aw ao bO bP an ar ev aM.S aM.H bj aF bl AL.start AV.cells AV.storable AV.aZ aP bt bV bu HR.okB post bQ bG bH AV.out AV.aX aG aL fz cL AV.vw bT vI int a_ aq bD bq cd cj bZ bI aI cm ck aT
variable{GI:World->Prop}
def uI(ws:List (List UInt8))(m:Nat):kP ws m=if me ws m=true then .ok (lT ws)else .error []:=by
 unfold kP
 by_cases h:me ws m=true
 .obtain⟨h1,h2⟩:=nU.1 h
  have h3:ws.length=m:=zo
  rw[if_pos ⟨h1,h3⟩,if_pos h,ll h1]
 .rw[if_neg h,if_neg];rintro⟨h1,h2⟩;exact h (nU.2 ⟨h1,.inr zo⟩)
def xP:Except (List UInt8) bw->AV
 |.ok x=>.ea [dj x,.bool true]
 |.error _=>.ea [dj cn,.bool false]
def AN:jv cn=jO:=by simp[jv,cn,jO,grow,ints]
def qd(c:UInt8)(r:List UInt8):∃nm tl,bL c r=nm::tl:=by
 cases hs:bL c r with
 |nil=>exact absurd hs (mD c r)
 |cons a l=>exact⟨a,l,rfl⟩
def yH{c:dU}{x y z:ah}{Q:eh->au->aD->Prop}{S:au}{H:aD}(h:ev S c=.bool true)(hx:cW prog GI x (cd prog GI y Q) S H):cW prog GI (.seq (.cond c x z) y) Q S H:=by
 simp only[cW,h];exact hx
def NP{x:ah}{Q:eh->au->aD->Prop}{S:au}{H:aD}(K:au->aD->Prop)(hx:cW prog GI x (aq K) S H)(hy:∀S' H',K S' H'->Q .normal S' H'):cW prog GI x Q S H:=by
 refine gx x (λe S H h=>?_) hx
 cases e with
 |normal=>exact hy S H h
 |exit id=>exact h.elim
 |ret=>exact h.elim
 |panic v=>exact h.elim
structure uJ(t:List UInt8)(R:List (List UInt8))(x:bw)(S:au)(H:aD):Prop where
 s0:S 0=.str t
 s2:S 2=.box 2 0
 e2:H 2=some jO
 s4:S 4=.box 4 0
 e4:H 4=some (jv x)
 s5:S 5=strs R
def abR(hG:aQ GI)(hT:TB GI)(t:List UInt8)(ht:t.length<=420):AC prog GI 52 [.str t] (.ret (xP (lr t))):=by
 have xw:=fZ 10 t
 have zU:∀p∈bL 10 t,p.length<=420:=λp hp=>by have:=fc hp;omega
 have xE:=og 10 t;have aby:=CZ (GI:=GI) hG t 10 zo;obtain⟨i28,mV,m_⟩:=iZ 29 10;obtain⟨fs,fw⟩:=uZ 29
 have NA:lr t=(if(bL 10 t).length<4 then .error []
  else c_ (kP (bL 32 ((bL 10 t)[0]?.getD [])).tail 2) λn=>c_ (kP (bL 32 ((bL 10 t)[1]?.getD [])).tail 5) λm=>
   c_ (dO fY { cn with wide:=at' n 0,rows:=at' n 1,fV:=at' m 0,fU:=at' m 1,ir:=at' m 2,iu:=at' m 3,dc:=at' m 4 } (((bL 10 t).drop 2).take ((bL 10 t).length-4)))
    λx=>if fb x=t then .ok x else .error []):=rfl
 rw[NA]
 generalize bL 10 t=R at*
 have ad4:br 1 (R.map AV.str)=true:=fN R;refine dF hG func52 ntmps52 c52 ?_;refine aY (λS H=>S 0=.str t/\S 2=.box 2 0/\H 2=some jO) (by simp[af,ae,jO]) ?_;rintro S H ⟨s0,s2,e2⟩;refine aY (λS H=>S 0=.str t/\S 2=.box 2 0/\H 2=some jO/\S 4=.box 4 0/\H 4=some (jv cn)) (by rw[AN];simp[af,ae,s0,s2,e2,jO]) ?_;clear s0 s2 e2 S H;rintro S H ⟨s0,s2,e2,s4,e4⟩;refine aY (uJ t R cn) ?_ ?_
 .simp[af,ae,s0];refine oc (by simpa using aby) ?_;simp[af,ae];exact⟨by simp[af,ae,s0],by simp[af,ae,s2],by simp[af,ae,e2],by simp[af,ae,s4],by simp[af,ae,e4],by simp[af,ae,strs]⟩
 clear s0 s2 e2 s4 e4 S H;rintro S H ⟨s0,s2,e2,s4,e4,s5⟩
 by_cases h4:R.length<4
 .rw[if_pos h4]
  have OT:(R.length:Int)<4:=zo
  simp[af,ae,s2,e2,s5,strs,OT,cD,mV,fw,m_,ef,jO,xP,dj,ai,cn,ints]
 rw[if_neg h4]
 have OT:¬(R.length:Int)<4:=zo
 refine aY (uJ t R cn) (by simp[af,ae,s5,strs,OT];exact⟨by simp[af,ae,s0],by simp[af,ae,s2],by simp[af,ae,e2],by simp[af,ae,s4],by simp[af,ae,e4],by simp[af,ae,s5,strs]⟩) ?_;clear s0 s2 e2 s4 e4 s5 S H;rintro S H ⟨s0,s2,e2,s4,e4,s5⟩
 have h0:0<R.length:=zo
 have h1:1<R.length:=zo
 have g0:R[0]?.getD []=R[0]:=by rw[ad_ h0];rfl
 have g1:R[1]?.getD []=R[1]:=by rw[ad_ h1];rfl
 have l0:R[0].length<=420:=zU _ (ad2 h0);have l1:R[1].length<=420:=zU _ (ad2 h1);rw[g0,g1];have b0:=CZ (GI:=GI) hG R[0] 32 zo;have b1:=CZ (GI:=GI) hG R[1] 32 zo;obtain⟨n0,t0,w0⟩:=qd 32 R[0];obtain⟨n1,t1,w1⟩:=qd 32 R[1]
 have c0:t0.length<=421/\∀p∈t0,p.length<1000000:=by
  have h1:=fZ 32 R[0];rw[w0]at h1;refine⟨by simp at h1;omega,λp hp=>?_⟩;have:=fc (c:=32) (l:=R[0]) (p:=p) (by rw[w0];exact aei _ hp);omega
 have c1:t1.length<=421/\∀p∈t1,p.length<1000000:=by
  have h1:=fZ 32 R[1];rw[w1]at h1;refine⟨by simp at h1;omega,λp hp=>?_⟩;have:=fc (c:=32) (l:=R[1]) (p:=p) (by rw[w1];exact aei _ hp);omega
 have d0:=EE (GI:=GI) hG t0 zo c0.2 2;have d1:=EE (GI:=GI) hG t1 zo c1.2 5;rw[w0]at b0⊢;rw[w1]at b1⊢;simp only[List.tail_cons];rw[uI,uI]
 have tk:∀{nm:List UInt8}{tl:List (List UInt8)},br 1 (AV.str nm::tl.map AV.str)=true/\(1:Int)<=(tl.length:Int)+1/\((tl.length:Int)+1).toNat=tl.length+1/\(tl.map AV.str).take tl.length=tl.map AV.str:=λ{nm tl}=>⟨fN (nm::tl),zo,zo,aee ah7⟩
 refine aY (λS H=>uJ t R cn S H/\S 6=vI (lT t0)/\S 7=.bool (me t0 2)) ?_ ?_
 .simp[af,ae,s5,strs,h0];refine oc (by simpa using b0) ?_;obtain⟨k1,k2,k3,k4⟩:=tk (nm:=n0) (tl:=t0);simp[af,ae,strs,bound,k1,k2,k3,k4];refine oc d0 ?_;simp[af,ae];exact⟨by simp[af,ae,s0],by simp[af,ae,s2],by simp[af,ae,e2],by simp[af,ae,s4],by simp[af,ae,e4],by simp[af,ae,s5,strs]⟩
 clear s0 s2 e2 s4 e4 s5 S H;rintro S H ⟨⟨s0,s2,e2,s4,e4,s5⟩,s6,s7⟩;refine aY (λS H=>uJ t R cn S H/\S 6=vI (lT t0)/\S 7=.bool (me t0 2)/\S 8=vI (lT t1)/\S 9=.bool (me t1 5)) ?_ ?_
 .simp[af,ae,s5,strs,h1];refine oc (by simpa using b1) ?_;obtain⟨k1,k2,k3,k4⟩:=tk (nm:=n1) (tl:=t1);simp[af,ae,strs,bound,k1,k2,k3,k4];refine oc d1 ?_;simp[af,ae,s6,s7];exact⟨by simp[af,ae,s0],by simp[af,ae,s2],by simp[af,ae,e2],by simp[af,ae,s4],by simp[af,ae,e4],by simp[af,ae,s5,strs]⟩
 clear s0 s2 e2 s4 e4 s5 s6 s7 S H;rintro S H ⟨⟨s0,s2,e2,s4,e4,s5⟩,s6,s7,s8,s9⟩
 cases q0:me t0 2 with
 |false=>
  rw[q0]at s7;simp[af,ae,s2,e2,s7,cD,mV,fw,m_,ef,jO,xP,dj,ai,cn,ints,c_]
 |true=>
 rw[q0]at s7
 cases q1:me t1 5 with
 |false=>
  rw[q1]at s9;simp[af,ae,s2,e2,s7,s9,cD,mV,fw,m_,ef,jO,xP,dj,ai,cn,ints,c_]
 |true=>
 rw[q1]at s9;have y0:=nU.1 q0;have y1:=nU.1 q1;obtain⟨v0,v1,hv⟩:=YB (l:=lT t0) (by rw[ll y0.1,aef];omega);obtain⟨u0,u1,u2,u3,u4,hu⟩:=X_ (l:=lT t1) (by rw[ll y1.1,aef];omega);rw[hv]at s6⊢;rw[hu]at s8⊢;simp only[aeH,c_]
 obtain⟨x0,X1⟩:∃x0:bw,({ cn with wide:=at' [v0,v1] 0,rows:=at' [v0,v1] 1,fV:=at' [u0,u1,u2,u3,u4] 0,fU:=at' [u0,u1,u2,u3,u4] 1,ir:=at' [u0,u1,u2,u3,u4] 2,iu:=at' [u0,u1,u2,u3,u4] 3,dc:=at' [u0,u1,u2,u3,u4] 4 }:bw)=x0:=⟨_,rfl⟩
 have Lh:j4 x0:=by
  have m0:fS [v0,v1]:=by rw[<-hv,ll y0.1];exact nX y0.1
  have m1:fS [u0,u1,u2,u3,u4]:=by rw[<-hu,ll y1.1];exact nX y1.1
  rw[<-X1];exact{ qW with wide:=eW m0 0,rows:=eW m0 1,fV:=eW m1 0,fU:=eW m1 1,ir:=eW m1 2,iu:=eW m1 3,dc:=eW m1 4 }
 have dI:Grown 421 x0 0:=by rw[<-X1];exact⟨(iU 421).bJ,(iU 421).bK,(iU 421).words,(iU 421).cb,(iU 421).dq⟩
 have hW0:jv x0=[.slice .nil [],.slice .nil [],.int .i64 u0,.int .i64 u1,.int .i64 u2,.int .i64 u3,.int .i64 u4,.slice .nil [],.int .i64 v0,.int .i64 v1]:=by
  rw[<-X1];simp[jv,cn,grow,ints,at']
 rw[X1];refine aY (λS H=>uJ t R cn S H/\S 6=vI [v0,v1]/\S 8=vI [u0,u1,u2,u3,u4]) ?_ ?_
 .simp[af,ae,s7,s9,s6,s8];exact⟨by simp[af,ae,s0],by simp[af,ae,s2],by simp[af,ae,e2],by simp[af,ae,s4],by simp[af,ae,e4],by simp[af,ae,s5,strs]⟩
 clear s0 s2 e2 s4 e4 s5 s6 s7 s8 s9 S H;rintro S H ⟨⟨s0,s2,e2,s4,e4,s5⟩,s6,s8⟩;rw[AN]at e4;refine aY (λS H=>S 0=.str t/\S 2=.box 2 0/\H 2=some jO/\S 4=.box 4 0/\H 4=some [.slice .nil [],.slice .nil [],.int .i64 0,.int .i64 0,.int .i64 0,.int .i64 0,.int .i64 0,.slice .nil [],.int .i64 v0,.int .i64 v1]/\S 5=strs R/\S 8=vI [u0,u1,u2,u3,u4]) ?_ ?_
 .simp[af,ae,s6,s8,s4,e4,jO,ints,s0,s2,e2,s5,strs]
 clear s0 s2 e2 s4 e4 s5 s6 s8 S H;rintro S H ⟨s0,s2,e2,s4,e4,s5,s8⟩;refine aY (uJ t R x0) ?_ ?_
 .simp[af,ae,s8,s4,e4,ints,cD];exact⟨by simp[af,ae,s0],by simp[af,ae,s2],by simp[af,ae,e2],by simp[af,ae,s4],by simp[af,ae,hW0],by simp[af,ae,s5,strs]⟩
 clear s0 s2 e2 s4 e4 s5 s8 S H;rintro S H hI
 obtain⟨L,hL⟩:∃L,(R.drop 2).take (R.length-4)=L:=⟨_,rfl⟩
 have N1:L.length=R.length-4:=by rw[<-hL];simp;omega
 rw[hL]
 have NR:∀p∈L,p.length<=420:=λp hp=>zU p (by rw[<-hL]at hp;exact agf (aeL hp))
 have hLs:(L.map λp=>p.length+1).sum<=421:=by
  have h2:(R.map λp=>p.length+1).sum=((R.take 2).map λp=>p.length+1).sum+((R.drop 2).map λp=>p.length+1).sum:=by
   rw[<-afz,<-aeB,afa]
  have h1:((R.drop 2).map λp=>p.length+1).sum=(L.map λp=>p.length+1).sum+(((R.drop 2).drop (R.length-4)).map λp=>p.length+1).sum:=by
   rw[<-hL,<-afz,<-aeB,afa]
  omega
 have hLg:∀k (h:k<L.length)(h':k+2<R.length),L[k]=R[k+2]:=by
  intro k h h';simp only[<-hL,ag0,afw,Nat.add_comm 2 k]
 have hwN:IntKind.i64.wrap ((R.length:Int)-2)=((L.length+2:Nat):Int):=by rw[bU zo];omega
 refine mS (λS H=>uJ t R x0 S H/\S 10=.int .i64 (2:Nat)) ?_ ?_
 .obtain⟨s0,s2,e2,s4,e4,s5⟩:=hI;simp[af,ae];exact⟨by simp[af,ae,s0],by simp[af,ae,s2],by simp[af,ae,e2],by simp[af,ae,s4],by simp[af,ae,e4],by simp[af,ae,s5,strs]⟩
 clear hI S H;rintro S H ⟨hI,cE⟩;refine zi ?_;refine EK 10 2 (L.length+2) (λi S H=>∃x,dO fY x0 (L.take (i-2))=.ok x/\Grown 421 x (i-2)/\j4 x/\uJ t R x S H/\S 10=.int .i64 (i:Nat)) zo (λi S H ⟨_,_,_,_,_,h⟩=>h) ⟨x0,rfl,dI,Lh,hI,cE⟩ ?_;clear hI cE S H;rintro i xy hi S H ⟨x,hf,iz,hN,⟨s0,s2,e2,s4,e4,s5⟩,cE⟩;refine mS (λS H=>uJ t R x S H/\S 10=.int .i64 (i:Nat)/\S 83=.bool (decide (i<L.length+2))) ?_ ?_
 .have hdI:decide ((i:Int)<((L.length+2:Nat):Int))=decide (i<L.length+2):=by rw[decide_eq_decide];omega
  simp only[Int.natCast_add,Int.cast_ofNat_Int]at hdI hwN;simp[af,ae,s5,cE,strs,hwN,hdI];exact⟨by simp[af,ae,s0],by simp[af,ae,s2],by simp[af,ae,e2],by simp[af,ae,s4],by simp[af,ae,e4],by simp[af,ae,s5,strs]⟩
 clear s0 s2 e2 s4 e4 s5 cE S H;rintro S H ⟨⟨s0,s2,e2,s4,e4,s5⟩,cE,V1⟩
 by_cases aN:i<L.length+2
 case neg=>
  have dV:i=L.length+2:=zo
  rw[dV,afS,aee (aed _)]at hf;rw[dV,afS]at iz;rw[hf];simp only[aN,agC]at V1;obtain⟨wJ,h3⟩:=Ac (b:=421) (λr hr=>by have:=NR r hr;omega) dI hf
  have TF:F' x:=⟨by have:=wJ.bJ;omega,by have:=wJ.bK;omega,by have:=wJ.words;omega,λw hw=>by have:=wJ.cb w hw;omega,λw hw=>by have:=wJ.dq w hw;omega⟩
  have a69:=YL hG x hN TF;have ad6:(L.map λp=>p.length+1).sum<=421:=hLs;simp[af,ae,V1,s4,e4,jv];refine oc a69 ?_
  by_cases FN:fb x=t
  .simp only[if_pos FN]
   have hb:(fb x !=t)=false:=by simpa using FN
   simp[af,ae,s0,s2,e2,s4,e4,hb,jv,mV,fw,m_,ef,jO,xP,dj,ai,vI]
  .simp only[if_neg FN]
   have hb:(fb x !=t)=true:=by simpa using FN
   simp[af,ae,s0,s2,e2,s4,e4,hb,cD,mV,fw,m_,ef,jO,xP,dj,ai,cn,ints]
 have hk:i-2<L.length:=zo
 have hiR:i<R.length:=zo
 simp only[aN,agK]at V1
 obtain⟨r,hr⟩:∃r,R[i]=r:=⟨_,rfl⟩
 have Xu:L[i-2]=r:=by rw[hLg (i-2) hk zo,<-hr];congr 1;omega
 have rG:=wO hk hf;rw[Xu,show i-2+1=i-1 by omega]at rG
 have El:∀e,fY x r=.error e->dO fY x0 L=.error e:=λe he=>si hk hf (by rw[Xu];exact he)
 have jj:∀y,fY x r=.ok y->Grown 421 y (i-1)/\j4 y:=λy hy=>by
  have h1:=(zF (b:=421) (r:=r) (by have:=NR _ (ad2 hk);rw[Xu]at this;omega) iz hy).1;exact⟨h1.mono zo,BX hN hy⟩
 have xl:r.length<=420:=by have:=NR _ (ad2 hk);rw[Xu]at this;exact this
 have b0:=CZ (GI:=GI) hG r 32 zo;obtain⟨nm,tl,xp⟩:=qd 32 r
 have c0:tl.length<=421/\∀p∈tl,p.length<=420:=by
  have h1:=fZ 32 r;rw[xp]at h1;refine⟨by simp at h1;omega,λp hp=>?_⟩;have:=fc (c:=32) (l:=r) (p:=p) (by rw[xp];exact aei _ hp);omega
 have d1:=EE (GI:=GI) hG tl zo (λp hp=>by have:=c0.2 p hp;omega) 1;have d4:=EE (GI:=GI) hG tl zo (λp hp=>by have:=c0.2 p hp;omega) 4;rw[xp]at b0
 have eB:fY x r=(if nm=lg/\tl.length=3 then c_ (lM (tl[1]?.getD [])) λa=>c_ (lM (tl[2]?.getD [])) λb=>.ok { x with words:=x.words++[⟨a,b,tl[0]?.getD []==[121,101,115]⟩] }
  else match kP tl 1 with
   |.ok n=>.ok { x with bJ:=x.bJ++[at' n 0] }
   |.error _=>c_ (kP tl 4) λn=>.ok { x with bK:=x.bK++[⟨at' n 0,at' n 1,at' n 2,at' n 3⟩] }):=by
  unfold fY;rw[xp];simp only[List.headD_cons,List.tail_cons,List.length_cons,List.getElem?_cons_succ,Nat.reduceEqDiff,Nat.add_right_cancel_iff]
  rfl
 rw[uI,uI,show me tl ((1:Nat):Int)=me tl 1 from rfl,show me tl ((4:Nat):Int)=me tl 4 from rfl]at eB
 generalize fY x r=st at*
 have hwI:IntKind.i64.wrap ((i:Int)+1)=i+1:=bU zo;have DR:i<L.length+2:=aN;refine AJ V1 (zi ?_);clear V1;refine aY (λS H=>uJ t R x S H/\S 10=.int .i64 (i:Nat)/\S 11=strs (nm::tl)) ?_ ?_
 .simp[af,ae,s5,cE,strs,hiR,hr];refine oc (by simpa using b0) ?_;simp[af,ae,strs,cE];exact⟨by simp[af,ae,s0],by simp[af,ae,s2],by simp[af,ae,e2],by simp[af,ae,s4],by simp[af,ae,e4],by simp[af,ae,s5,strs]⟩
 clear s0 s2 e2 s4 e4 s5 cE S H;rintro S H ⟨⟨s0,s2,e2,s4,e4,s5⟩,cE,cG⟩;refine mS (λS H=>uJ t R x S H/\S 10=.int .i64 (i:Nat)/\S 11=strs (nm::tl)/\S 99=.bool (decide (nm=lg/\tl.length=3))) ?_ ?_
 .have hl:((tl.length:Int)+1==4)=decide (tl.length=3):=by rw[aeW];simp;omega
  by_cases h:nm=lg
  .have hb:(nm==[119,111,114,100])=true:=by rw[h];rfl
   have yu:decide (nm=lg/\tl.length=3)=decide (tl.length=3):=by simp[h]
   rw[yu];simp[af,ae,cE,cG,strs,hb,hl];exact⟨by simp[af,ae,s0],by simp[af,ae,s2],by simp[af,ae,e2],by simp[af,ae,s4],by simp[af,ae,e4],by simp[af,ae,s5,strs]⟩
  .have hb:(nm==[119,111,114,100])=false:=by simpa[lg]using h
   have yu:decide (nm=lg/\tl.length=3)=false:=by simp[h]
   rw[yu];simp[af,ae,cE,cG,strs,hb];exact⟨by simp[af,ae,s0],by simp[af,ae,s2],by simp[af,ae,e2],by simp[af,ae,s4],by simp[af,ae,e4],by simp[af,ae,s5,strs]⟩
 clear s0 s2 e2 s4 e4 s5 cE cG S H;rintro S H ⟨⟨s0,s2,e2,s4,e4,s5⟩,cE,cG,SR⟩
 by_cases hw:nm=lg/\tl.length=3
 case pos=>
  rw[if_pos hw]at eB;simp only[hw,agK,and_self]at SR;obtain⟨w1,w2,w3,pB⟩:=YY hw.2;have a2:=Vh (GI:=GI) hG w2 (by have:=c0.2 w2 (by rw[pB];simp);omega);have a3:=Vh (GI:=GI) hG w3 (by have:=c0.2 w3 (by rw[pB];simp);omega);rw[pB]at eB cG;simp only[List.getElem?_cons_succ,List.getElem?_cons_zero,Option.getD_some,Lo]at eB;refine yH SR ?_;refine aY (λS H=>uJ t R x S H/\S 10=.int .i64 (i:Nat)/\S 11=strs [nm,w1,w2,w3]/\S 12=vI (su w2).1/\S 13=.bool (su w2).2) ?_ ?_
  .simp[af,ae,cG,strs];refine oc a2 ?_;simp[af,ae,cE,cG,strs];exact⟨by simp[af,ae,s0],by simp[af,ae,s2],by simp[af,ae,e2],by simp[af,ae,s4],by simp[af,ae,e4],by simp[af,ae,s5,strs]⟩
  clear s0 s2 e2 s4 e4 s5 cE cG SR S H;rintro S H ⟨⟨s0,s2,e2,s4,e4,s5⟩,cE,cG,dN,dY⟩;refine aY (λS H=>uJ t R x S H/\S 10=.int .i64 (i:Nat)/\S 11=strs [nm,w1,w2,w3]/\S 12=vI (su w2).1/\S 13=.bool (su w2).2/\S 14=vI (su w3).1/\S 15=.bool (su w3).2) ?_ ?_
  .simp[af,ae,cG,strs];refine oc a3 ?_;simp[af,ae,cE,cG,dN,dY,strs];exact⟨by simp[af,ae,s0],by simp[af,ae,s2],by simp[af,ae,e2],by simp[af,ae,s4],by simp[af,ae,e4],by simp[af,ae,s5,strs]⟩
  clear s0 s2 e2 s4 e4 s5 cE cG dN dY S H;rintro S H ⟨⟨s0,s2,e2,s4,e4,s5⟩,cE,cG,dN,dY,eQ,kc⟩
  generalize su w2=o2 at*
  generalize su w3=o3 at*
  obtain⟨l2,b2⟩:=o2;obtain⟨l3,b3⟩:=o3;simp only at dN dY eQ kc eB
  cases b2 with
  |false=>
   rw[El [] (by rw[eB];rfl)];simp[af,ae,dY,s2,e2,cD,mV,fw,m_,ef,jO,xP,dj,ai,cn,ints]
  |true=>
  cases b3 with
  |false=>
   rw[El [] (by rw[eB];rfl)];simp[af,ae,dY,kc,s2,e2,cD,mV,fw,m_,ef,jO,xP,dj,ai,cn,ints]
  |true=>
  simp only[aeH,c_]at eB;have dG:br 3 [AV.agg [.slice .view (ints l2),.slice .view (ints l3),.bool (w1==[121,101,115])]]=true:=rfl
  generalize pn:(w1==[121,101,115])=bb at*
  refine mS (λS H=>uJ t R x S H/\S 10=.int .i64 (i:Nat)/\S 11=strs [nm,w1,w2,w3]/\S 12=vI l2/\S 14=vI l3/\S 119=.bool false) ?_ ?_
  .simp[af,ae,cE,cG,dN,dY,eQ,kc,strs];exact⟨by simp[af,ae,s0],by simp[af,ae,s2],by simp[af,ae,e2],by simp[af,ae,s4],by simp[af,ae,e4],by simp[af,ae,s5,strs]⟩
  clear s0 s2 e2 s4 e4 s5 cE cG dN dY eQ kc S H;rintro S H ⟨⟨s0,s2,e2,s4,e4,s5⟩,cE,cG,dN,eQ,YZ⟩;refine D5 YZ ?_;refine aY (λS H=>uJ t R { x with words:=x.words++[⟨l2,l3,bb⟩] } S H/\S 10=.int .i64 (i:Nat)) ?_ ?_
  case refine_2=>
   clear s0 s2 e2 s4 e4 s5 cE cG dN eQ YZ S H;rintro S H ⟨⟨s0,s2,e2,s4,e4,s5⟩,cE⟩;simp[af,ae,cE,hwI];exact⟨DR,_,by rw[rG];exact eB,(jj _ eB).1,(jj _ eB).2,⟨by simp[af,ae,s0],by simp[af,ae,s2],by simp[af,ae,e2],by simp[af,ae,s4],by simp[af,ae,e4],by simp[af,ae,s5,strs]⟩⟩
  simp[cG,dN,eQ,s4,e4,strs,jv,cD,pn,dG,ints];refine jG (x.words.map dP) (dP ⟨l2,l3,bb⟩) (.own 48) ah7 (by simp[dP,vI,ints]) rfl (GL x.words) (by rw[aef];have:=iz.words;omega) ?_;intro S' sd dp;simp[sd,dp,s4,e4,jv,cE];exact⟨⟨by simp[af,ae,dp,s0],by simp[af,ae,dp,s2],by simp[af,ae,e2],by simp[af,ae,dp,s4],by simp[af,ae,e4,jv,dP,vI,ints,grow],by simp[af,ae,dp,s5,strs]⟩,by simp[af,ae,dp,cE]⟩
 rw[if_neg hw]at eB;simp only[hw,agC]at SR;refine D5 SR ?_;obtain⟨k1,k2,k3,k4⟩:=tk (nm:=nm) (tl:=tl);refine aY (λS H=>uJ t R x S H/\S 10=.int .i64 (i:Nat)/\S 11=strs (nm::tl)/\S 16=vI (lT tl)/\S 17=.bool (me tl 1)) ?_ ?_
 .simp[af,ae,cG,strs,bound,k1,k2,k3,k4];refine oc d1 ?_;simp[af,ae,cE,cG,strs];exact⟨by simp[af,ae,s0],by simp[af,ae,s2],by simp[af,ae,e2],by simp[af,ae,s4],by simp[af,ae,e4],by simp[af,ae,s5,strs]⟩
 clear s0 s2 e2 s4 e4 s5 cE cG SR S H;rintro S H ⟨⟨s0,s2,e2,s4,e4,s5⟩,cE,cG,gk,jJ⟩;refine aY (λS H=>uJ t R x S H/\S 10=.int .i64 (i:Nat)/\S 16=vI (lT tl)/\S 17=.bool (me tl 1)/\S 18=vI (lT tl)/\S 19=.bool (me tl 4)) ?_ ?_
 .simp[af,ae,cG,strs,bound,k1,k2,k3,k4];refine oc d4 ?_;simp[af,ae,cE,gk,jJ];exact⟨by simp[af,ae,s0],by simp[af,ae,s2],by simp[af,ae,e2],by simp[af,ae,s4],by simp[af,ae,e4],by simp[af,ae,s5,strs]⟩
 clear s0 s2 e2 s4 e4 s5 cE cG gk jJ S H;rintro S H ⟨⟨s0,s2,e2,s4,e4,s5⟩,cE,gk,jJ,kJ,pj⟩
 cases p1:me tl 1 with
 |true=>
  rw[p1]at jJ;have z1:=nU.1 p1;obtain⟨v,hv⟩:=Cb (l:=lT tl) (by rw[ll z1.1,aef];omega);rw[hv]at gk eB;simp only[p1,aeH]at eB;have dG:br 1 [AV.int .i64 v]=true:=rfl;refine NP (λS H=>uJ t R { x with bJ:=x.bJ++[v] } S H/\S 10=.int .i64 (i:Nat)) ?_ ?_
  case refine_2=>
   clear s0 s2 e2 s4 e4 s5 cE gk jJ kJ pj S H;rintro S H ⟨⟨s0,s2,e2,s4,e4,s5⟩,cE⟩;simp[af,ae,cE,hwI];exact⟨DR,_,by rw[rG];exact eB,(jj _ eB).1,(jj _ eB).2,⟨by simp[af,ae,s0],by simp[af,ae,s2],by simp[af,ae,e2],by simp[af,ae,s4],e4,by simp[af,ae,s5,strs]⟩⟩
  simp[jJ,gk,s4,e4,jv,ints,dG];refine jG (ints x.bJ) (.int .i64 v) (.own 3) (by simp[ints]) (by simp[ints]) rfl (HA x.bJ) (by rw[aG];have:=iz.bJ;omega) ?_;intro S' sd dp;simp[sd,dp,s4,e4,jv,cE];exact⟨⟨by simp[af,ae,dp,s0],by simp[af,ae,dp,s2],by simp[af,ae,e2],by simp[af,ae,dp,s4],by simp[af,ae,e4,jv,ints,grow,at'],by simp[af,ae,dp,s5,strs]⟩,by simp[af,ae,dp,cE]⟩
 |false=>
 rw[p1]at jJ;simp only[p1,aek,aeA]at eB
 cases p4:me tl 4 with
 |false=>
  rw[p4]at pj;simp only[p4,aek,aeA,c_]at eB;rw[El [] eB];simp[af,ae,jJ,pj,s2,e2,cD,mV,fw,m_,ef,jO,xP,dj,ai,cn,ints]
 |true=>
 rw[p4]at pj;have z1:=nU.1 p4;obtain⟨a,b,c,d,hv⟩:=YQ (l:=lT tl) (by rw[ll z1.1,aef];omega);rw[hv]at kJ eB;simp only[p4,aeH,c_]at eB;have dG:br 4 [AV.agg [.int .i64 a,.int .i64 b,.int .i64 c,.int .i64 d]]=true:=rfl;refine NP (λS H=>uJ t R { x with bK:=x.bK++[⟨a,b,c,d⟩] } S H/\S 10=.int .i64 (i:Nat)) ?_ ?_
 case refine_2=>
  clear s0 s2 e2 s4 e4 s5 cE gk jJ kJ pj S H;rintro S H ⟨⟨s0,s2,e2,s4,e4,s5⟩,cE⟩;simp[af,ae,cE,hwI];exact⟨DR,_,by rw[rG];exact eB,(jj _ eB).1,(jj _ eB).2,⟨by simp[af,ae,s0],by simp[af,ae,s2],by simp[af,ae,e2],by simp[af,ae,s4],e4,by simp[af,ae,s5,strs]⟩⟩
 simp[jJ,pj,kJ,s4,e4,jv,ints,cD,dG];refine jG (x.bK.map eH) (.agg [.int .i64 a,.int .i64 b,.int .i64 c,.int .i64 d]) (.own 141) ah7 ah7 rfl (GM x.bK) (by rw[aef];have:=iz.bK;omega) ?_;intro S' sd dp;simp[sd,dp,s4,e4,jv,cE];exact⟨⟨by simp[af,ae,dp,s0],by simp[af,ae,dp,s2],by simp[af,ae,e2],by simp[af,ae,dp,s4],by simp[af,ae,e4,jv,at',eH,ints,grow],by simp[af,ae,dp,s5,strs]⟩,by simp[af,ae,dp,cE]⟩
end Go.Proofs.Tryz
namespace Go.Proofs.Tryz
open Go.AL
def tU{l:List Int}(h:fS l):kP (l.map bW) l.length=.ok l:=by
 unfold kP;rw[if_pos ⟨(pD h).1,ah7⟩,(pD h).2]
def x6{l:List Int}(h:fS l):lM (gh l)=.ok l:=by
 unfold lM
 by_cases hl:l=[]
 .subst hl;rfl
 .obtain⟨h1,h2⟩:=Ak h hl;rw[if_neg h1,h2,if_pos (pD h).1,(pD h).2]
def zg{t:List UInt8}{x:bw}(h:lr t=.ok x):fb x=t/\j4 x:=by
 unfold lr at h;simp only at h;split at h
 .cases h
 .obtain⟨n,hn,h⟩:=eO h;obtain⟨m,hm,h⟩:=eO h;obtain⟨y,hy,h⟩:=eO h;have hn:=uN hn;have hm:=uN hm;split at h
  .rename_i ht;cases h;refine⟨ht,y_ (I:=j4) (λa b a' ha uT=>BX ha uT) ?_ hy⟩;exact{ qW with wide:=eW hn 0,rows:=eW hn 1,fV:=eW hm 0,fU:=eW hm 1,ir:=eW hm 2,iu:=eW hm 3,dc:=eW hm 4 }
  .cases h
def Mk{x:bw}{n:Int}(h:eE n):fY x (gG n)=.ok { x with bJ:=x.bJ++[n] }:=by
 unfold fY;rw[Cj h];have:=tU (l:=[n]) (cz h fK);simp only[aer,aeF,List.length_cons,List.length_nil]at this;simp[this,at']
def K0{x:bw}{p:k_}(h:eE p.l/\eE p.r/\eE p.lo/\eE p.hi):fY x (ji p)=.ok { x with bK:=x.bK++[p] }:=by
 unfold fY;rw[BU h];obtain⟨h1,h2,h3,h4⟩:=h;have:=tU (l:=[p.l,p.r,p.lo,p.hi]) (cz h1 (cz h2 (cz h3 (cz h4 fK))));simp only[aer,aeF,List.length_cons,List.length_nil]at this
 have n1:kP [bW p.l,bW p.r,bW p.lo,bW p.hi] 1=.error []:=by
  unfold kP;rw[if_neg ah7]
 simp[this,n1,c_,at']
def KC{x:bw}{w:Word}(h:fS w.cb/\fS w.dq):fY x (iV w)=.ok { x with words:=x.words++[w] }:=by
 unfold fY;rw[CK h];simp[x6 h.1,x6 h.2,c_,ur]
def J6{l:List Int}(h:fS l):∀{x:bw},dO fY x (l.map gG)=.ok { x with bJ:=x.bJ++l }:=by
 induction l with
 |nil=>intro x;simp[dO]
 |cons n l ih=>
  intro x;show c_ (fY x (gG n)) (λa=>dO fY a (l.map gG))=_;rw[Mk (h n aen)];show dO fY _ _=_;rw[ih (λk hk=>h k (aei _ hk))];simp
def I6{l:List k_}(h:∀p∈l,eE p.l/\eE p.r/\eE p.lo/\eE p.hi):∀{x:bw},dO fY x (l.map ji)=.ok { x with bK:=x.bK++l }:=by
 induction l with
 |nil=>intro x;simp[dO]
 |cons n l ih=>
  intro x;show c_ (fY x (ji n)) (λa=>dO fY a (l.map ji))=_;rw[K0 (h n aen)];show dO fY _ _=_;rw[ih (λk hk=>h k (aei _ hk))];simp
def IX{l:List Word}(h:∀w∈l,fS w.cb/\fS w.dq):∀{x:bw},dO fY x (l.map iV)=.ok { x with words:=x.words++l }:=by
 induction l with
 |nil=>intro x;simp[dO]
 |cons n l ih=>
  intro x;show c_ (fY x (iV n)) (λa=>dO fY a (l.map iV))=_;rw[KC (h n aen)];show dO fY _ _=_;rw[ih (λk hk=>h k (aei _ hk))];simp
def O1{s:bw}(h:j4 s):lr (fb s)=.ok s:=by
 have hs:bL 10 (fb s)=fF s++[nc (dM 0 (fF s) % 173),[]]:=B5 (Cu h);have e1:=tU (l:=[s.wide,s.rows]) (cz h.wide (cz h.rows fK));have e2:=tU (l:=[s.fV,s.fU,s.ir,s.iu,s.dc]) (cz h.fV (cz h.fU (cz h.ir (cz h.iu (cz h.dc fK)))));simp only[aer,aeF,List.length_cons,List.length_nil]at e1 e2;unfold lr;simp only;rw[hs];generalize nc (dM 0 (fF s) % 173)=e;have hl:fF s=fW s::h_ s::(s.bJ.map gG++(s.bK.map ji++s.words.map iV)):=rfl;generalize hb:s.bJ.map gG++(s.bK.map ji++s.words.map iV)=B at hl;rw[hl,if_neg ah7];show c_ (kP (bL 32 (fW s)).tail 2) (λn=>c_ (kP (bL 32 (h_ s)).tail 5) λm=>_)=_;rw[Au h,BY h];simp only[List.tail_cons,e1,e2]
 have hd:((fW s::h_ s::B++[e,[]]).drop 2).take ((fW s::h_ s::B++[e,[]]).length-4)=B:=by
  show(B++[e,[]]).take _=B;rw[show(fW s::h_ s::B++[e,[]]).length-4=B.length by simp];exact agj
 show c_ (dO fY _ _) _=_;rw[hd,<-hb,pE (J6 h.bJ),pE (I6 h.bK),IX h.words];simp[cn,c_,at']
def ux{t:List UInt8}{x:bw}:lr t=.ok x↔jq t=.ok x:=by
 constructor
 .intro h;obtain⟨h1,h2⟩:=zg h;rw[<-h1];exact IV h2
 .intro h;obtain⟨h1,h2⟩:=P_ h;rw[<-h1];exact O1 h2
end Go.Proofs.Tryz
namespace Go.Proofs.Tryz
open Go.AL
variable{s:bw}{x y:List End}
def iI(s:bw):List End->List End->Bool:=LB List.length (BM s [])
end Go.Proofs.Tryz
namespace Go.Proofs.Tryz
open Go Go.AL Go.RowKit Go.Proofs Go.Proofs.Tram
attribute [local simp] aU bB bm aO aV aJ aK av az aW aw ao bO bP an ar ev aM.S aM.H bj aF bl AL.start AV.cells AV.storable AV.aZ aP bt bV bu HR.okB post bQ bG bH AV.out AV.aX aG aL fz cL AV.vw bT vI int a_ aq bD bq cd cj bZ bI aI AV.bC AV.dE
variable{GI:World->Prop}
def Fb(s:bw):(cw s).map AV.dE=cw s:=by
 simp[cw,ai,dL,vI,ints,AV.dE]
def Co(s:bw):(cw s).length=11:=rfl
def Js(s:bw):AV.agg ((cw s).take 10|>.map AV.dE)=dj s:=by
 simp[cw,ai,dj,vI,ints,AV.dE]
def Mr{s:bw}(h:cN s=true):ss s:=by
 have hF:=ja h;refine⟨by have:=hF.TE;omega,by have:=hF.Yr;omega,by have:=hF.words;omega,λw hw=>?_,λw hw=>?_⟩
 .have:=(o7 h hw).Ck;omega
 .have f:=o7 h hw;have:=AK f.dq (by have:=f.Cb;omega);have:=f.Ck;omega
def Xt(hG:aQ GI)(s:bw)(gC:cN s=true)(out:List Int)(ho:out.length<=1000):yT prog GI 165 [.ref (cw s),.ref [vI out]] ((DF s out s.rows.toNat).map (cU out)):=by
 have hr:=(ja gC).rows;have he:=EA gC out;refine aa7 hG (oE:=.view) (all:=nn s out) (rows:=s.rows.toNat) zo zo ho (Co s) ?_ ?_ ?_
 .intro x hx;simp[cw,ai]at hx
  rcases hx with rfl|rfl|rfl|rfl|rfl|rfl|rfl|rfl|rfl|rfl<;>exact⟨rfl,rfl,rfl⟩
 .show some (AV.int .i64 s.rows)=some (.int .i64 (s.rows.toNat:Nat));rw[aia zo]
 .rw[Js];exact aag hG s (Mr gC) out zo
def Ft{s:bw}(gC:cN s=true){out:List Int}(kl:iP s out=true){es:List End}(h:es∈DF s out s.rows.toNat):nD s out es=true/\es.length<=3:=by
 have hr:=(ja gC).rows;obtain⟨h1,h2⟩:=(HG gC kl).1 h;exact⟨h1,zo⟩
def Wk(hG:aQ GI)(s:bw)(gC:cN s=true)(out:List Int)(ho:out.length<=1000)(kl:iP s out=true){es:List End}(h:es∈DF s out s.rows.toNat):AC prog GI 153 [.agg ((cw s).map AV.dE),cU out es,.int .i64 0] (.ret (.bool (mc s out es 0))):=by
 obtain⟨h1,h2⟩:=Ft gC kl h;rw[Fb];exact TC hG s gC out zo es zo (AH gC h1) zo zo
def QN(hG:aQ GI)(s:bw)(gC:cN s=true)(out:List Int)(ho:out.length<=1000)(kl:iP s out=true):AC prog GI 140 [jf s,vI out] (.ret (.slice .view ((mj s out).map (cU out)))):=by
 have hr:=(ja gC).rows;have hl:=Hd gC out (m:=s.rows.toNat) zo;refine AC.nB (o:=if(mj s out).isEmpty then .nil else .view) ?_
 exact aa0 hG (Co s) (by
  intro x hx;simp[cw,ai]at hx
  rcases hx with rfl|rfl|rfl|rfl|rfl|rfl|rfl|rfl|rfl|rfl|rfl<;>rfl) zo (λes h=>by have:=(Ft gC kl h).2;omega) (by rw[Fb];exact Xt hG s gC out ho) (λes h=>Wk hG s gC out ho kl h)
def Zt(hG:aQ GI)(s:bw)(gC:cN s=true){a b:List End}(ha:nD s [] a=true)(hb:nD s [] b=true)(j9:a.length<=10)(nh:b.length<=10):AC prog GI 142 [cU [] a,cU [] b,.ref (cw s)] (.ret (.bool (iI s a b))):=by
 have ga:=P2 hG s gC [] ah7 a zo (AH gC ha);have gb:=P2 hG s gC [] ah7 b zo (AH gC hb);refine dF hG func142 ntmps142 c142 ?_;refine aY (λS H=>S 2=.ref (cw s)/\S 3=.box 3 0/\S 4=.box 4 0/\H 3=some [vI [],.slice .view (a.map dz)]/\H 4=some [vI [],.slice .view (b.map dz)]) (by simp[cU,ct]) ?_;rintro S H ⟨s2,s3,s4,e3,e4⟩;refine aY (λS H=>S 2=.ref (cw s)/\S 3=.box 3 0/\S 4=.box 4 0/\H 3=some [vI [],.slice .view (a.map dz)]/\H 4=some [vI [],.slice .view (b.map dz)]/\S 6=.int .i64 a.length/\S 7=.int .i64 b.length) (by simp[s2,s3,s4,e3,e4]) ?_;clear s2 s3 s4 e3 e4 S H;rintro S H ⟨s2,s3,s4,e3,e4,s6,s7⟩;unfold iI LB
 by_cases aN:a.length<b.length
 .have od:(a.length:Int)<b.length:=zo
  simp[s2,s3,s4,e3,e4,s6,s7,aN,od]
 by_cases he:a.length=b.length
 case neg=>
  have od:¬(a.length:Int)<b.length:=zo
  have pF:((a.length:Int)==b.length)=false:=by simp;omega
  have IM:(a.length==b.length)=false:=by simpa using he
  simp[s2,s3,s4,e3,e4,s6,s7,aN,od,pF,IM]
 simp[s2,s3,s4,e3,e4,s6,s7,he,cw,ai,dL];refine oc ga ?_;simp[s2,s3,s4,e3,e4,s6,s7,he,cw,ai,dL];refine oc gb ?_;simp[s2,s3,s4,e3,e4,s6,s7,he,cw,ai,dL]
def V7(l:List (List End)):br 2 (l.map (cU []))=true:=iJ λa=>⟨rfl,rfl⟩
def Nj{α:Type}(better:α->α->Bool)(x:α){l:List α}{i:Nat}(h:i<l.length):lA better x (l.take (i+1))=if better l[i] (lA better x (l.take i))then l[i]else lA better x (l.take i):=by
 unfold lA;rw[aec h,aff];rfl
def uO{α:Type}(better:α->α->Bool):∀(l:List α)(x:α),lA better x l∈x::l
 |[],x=>aen
 |a::l,x=>by
  show lA better (if better a x then a else x) l∈_;have:=uO better l (if better a x then a else x);rcases aeD.1 this with e|h
  .rw[e];split<;>simp
  .exact aei _ (aei _ h)
def Y1(hG:aQ GI)(s:bw)(gC:cN s=true)(x:List End)(l:List (List End))(hl:l.length<100000)(h:∀a∈x::l,nD s [] a=true/\a.length<=10):AC prog GI 141 [.slice .view ((x::l).map (cU [])),.func (.func 142) [] [.ref (cw s)]] (.ret (cU [] (lA (iI s) x l))):=by
 have df:=V7 (x::l);obtain⟨it,hit,cM⟩:=iZ 176 2;have hT:List.take l.length (l.map (cU []))=l.map (cU []):=aee ah7;have hm:(x::l).map (cU [])=cU [] x::l.map (cU []):=rfl
 have Nx:∀d,lD d (.ref (cw s))=false:=λd=>rfl
 have Ez:∀a,cU [] a=.agg [vI [],.slice .view (a.map dz)]:=λ_=>rfl
 refine dF hG func141 ntmps141 c141 ?_;refine aY (λS H=>S 4=.box 4 0/\S 0=.slice .view (cU [] x::l.map (cU []))/\S 1=.func (.func 142) [] [.ref (cw s)]/\H 4=some [.slice .nil [],.slice .nil []]) (by simp[Nx]) ?_;rintro S H ⟨s4,s0,s1,e4⟩;refine aY (λS H=>S 4=.box 4 0/\S 0=.slice .view (cU [] x::l.map (cU []))/\S 1=.func (.func 142) [] [.ref (cw s)]/\H 4=some [.slice .nil [],.slice .nil []]/\S 5=.box 5 0/\H 5=some [vI [],.slice .view (x.map dz)]) (by simp[s4,s0,s1,e4,Ez,Nx]) ?_;clear s4 s0 s1 e4 S H;rintro S H ⟨s4,s0,s1,e4,s5,e5⟩;rw[hm]at df;refine aY (λS H=>S 4=.box 4 0/\H 4=some [.slice .nil [],.slice .nil []]/\S 5=.box 5 0/\H 5=some [vI [],.slice .view ((lA (iI s) x l).map dz)]) ?_ ?_
 .have h1:(1:Int)<=l.length+1:=zo
  simp[s4,s0,s1,e4,s5,e5,bound,df,h1];refine cK 14 l.length (λi S H=>S 1=.func (.func 142) [] [.ref (cw s)]/\S 4=.box 4 0/\H 4=some [.slice .nil [],.slice .nil []]/\S 5=.box 5 0/\H 5=some [vI [],.slice .view ((lA (iI s) x (l.take i)).map dz)]/\S 12=.slice .view (l.map (cU []))/\S 13=.int .i64 l.length/\S 14=.int .i64 (i:Nat)) (λi S H h=>h.2.2.2.2.2.2.2) ⟨by simp[s1],by simp[s4],by simp[e4],by simp[s5],by simp[e5,lA],by simp[hT],ah7,ah7⟩ ?_;clear s4 s0 s1 e4 s5 e5 S H;rintro i hi S H ⟨s1,s4,e4,s5,e5,dN,dY,eQ⟩
  by_cases aN:i<l.length
  case neg=>
   have dV:i=l.length:=zo
   subst dV;rw[aee (aed _)]at e5;simp[s1,s4,e4,s5,e5,dN,dY,eQ]
  have hw:IntKind.i64.wrap ((i:Int)+1)=i+1:=bU zo;have G8:=uO (iI s) (l.take i) x
  have hb:=h (lA (iI s) x (l.take i)) (by
   rcases aeD.1 G8 with e|e
   .rw[e];exact aen
   .exact aei _ (aeL e))
  have eJ:=h l[i] (aei _ (ad2 aN));have a99:=Zt hG s gC eJ.1 hb.1 eJ.2 hb.2;rw[Nj _ _ aN];generalize lA (iI s) x (l.take i)=o at e5 a99⊢;simp[s1,s4,e4,s5,e5,dN,dY,eQ,aN,Ez,Nx];refine oc a99 ?_;cases iI s l[i] o
  .simp[s1,s4,e4,s5,e5,dN,dY,eQ,aN,Ez,Nx,hw]
  .simp[s1,s4,e4,s5,e5,dN,dY,eQ,aN,Ez,Nx,hw]
 clear s4 s0 s1 e4 s5 e5 S H;rintro S H ⟨s4,e4,s5,e5⟩;simp[s4,e4,s5,e5,Ez,hit,cM,ef]
def zI(s:bw):List AV:=if cN s then match mj s []with
 |[]=>[cU [] [],.int .i64 0,.int .i64 5]
 |x::l=>[cU [] (lA (iI s) x l),.int .i64 (BM s [] (lA (iI s) x l)),.int .i64 0]
 else[cU [] [],.int .i64 0,.int .i64 2]
def Np{s:bw}(gC:cN s=true){a:List End}(h:a∈mj s []):nD s [] a=true/\a.length<=3/\mc s [] a 0=true:=by
 have hr:=(ja gC).rows;obtain⟨h1,h2⟩:=(yi gC (Bx gC)).1 h;refine⟨h1,?_,h2⟩;unfold mc at h2;simp only[aeb,aej]at h2;omega
def HI(hG:aQ GI)(s:bw)(hs:ss s)(iX:cN s=false\/mj s []=[]):AC prog GI 117 [dj s] (.ret (.ea (zI s))):=by
 obtain⟨it,hit,cM⟩:=iZ 176 2
 have Ez:∀a,cU [] a=.agg [vI [],.slice .view (a.map dz)]:=λ_=>rfl
 refine dF hG func117 ntmps117 c117 ?_;refine aY (λS H=>S 1=.box 1 0/\S 2=.box 2 0/\H 1=some (ai s)/\H 2=some [.slice .nil [],.slice .nil []]) (by simp[dj,ai]) ?_;rintro S H ⟨s1,s2,e1,e2⟩;unfold zI;cases gC:cN s
 .simp[s1,s2,e1,e2,ai];refine⟨_,zk,HK hG s hs,λ_=>rfl,?_⟩;rw[gC];simp[s1,s2,e1,e2,ai,hit,cM,ef,Ez,cD,ints]
 have hg:mj s []=[]:=by
  rcases iX with h|h
  .rw[h]at gC;cases gC
  .exact h
 simp[s1,s2,e1,e2,ai];refine⟨_,zk,HK hG s hs,λ_=>rfl,?_⟩;rw[gC];simp[s1,s2,e1,e2,ai];refine oc (Q3 hG s gC) ?_;simp[s1,s2,e1,e2,jf,cw,ai,dL];refine oc (QN hG s gC [] ah7 (Bx gC)) ?_;rw[hg];simp[s1,s2,e1,e2,hit,cM,ef,Ez,cD,ints]
def Us(hG:aQ GI)(s:bw)(hs:ss s):AC prog GI 117 [dj s] (.ret (.ea (zI s))):=by
 cases gC:cN s with
 |false=>exact HI hG s hs (.inl gC)
 |true=>
 cases hg:mj s []with
 |nil=>exact HI hG s hs (.inr hg)
 |cons x l=>
 obtain⟨it,hit,cM⟩:=iZ 176 2
 have Ez:∀a,cU [] a=.agg [vI [],.slice .view (a.map dz)]:=λ_=>rfl
 have hl:=Oa gC [];rw[hg]at hl;simp at hl
 have eu:∀a∈x::l,nD s [] a=true/\a.length<=10:=λa ha=>by
  have:=Np gC (a:=a) (by rw[hg];exact ha);exact⟨this.1,zo⟩
 have a98:=Y1 hG s gC x l zo eu;have hb:=eu _ (uO (iI s) l x);have a87:=P2 hG s gC [] ah7 (lA (iI s) x l) zo (AH gC hb.1)
 have vC:((l.length:Int)+1==0)=false:=by simp;omega
 have ho:zI s=[cU [] (lA (iI s) x l),.int .i64 (BM s [] (lA (iI s) x l)),.int .i64 0]:=by
  unfold zI;rw[gC,if_pos rfl,hg]
 rw[ho];refine AC.Sg hG d_ 5 5 func117 rfl ntmps117 ah7 (ac:=c117) zk ?_;refine vG (λS H=>S 1=.box 1 0/\S 2=.box 2 0/\H 1=some (ai s)/\H 2=some [.slice .nil [],.slice .nil []]) (by simp[dj,ai]) ?_;rintro S H ⟨s1,s2,e1,e2⟩;refine vG (λS H=>S 1=.box 1 0/\S 2=.box 2 0/\H 1=some (ai s)/\H 2=some [.slice .nil [],.slice .nil []]) ?_ ?_
 .simp[s1,s2,e1,e2,ai];refine⟨_,zk,HK hG s hs,λ_=>rfl,?_⟩;rw[gC];simp[s1,s2,e1,e2,ai]
 clear s1 s2 e1 e2 S H;rintro S H ⟨s1,s2,e1,e2⟩;refine vG (λS H=>S 2=.box 2 0/\H 2=some [.slice .nil [],.slice .nil []]/\S 5=.box 5 0/\H 5=some (cw s)) ?_ ?_
 .simp[s1,s2,e1,e2,ai];refine oc (Q3 hG s gC) ?_;simp[s1,s2,e1,e2,jf,cw,ai,dL]
 clear s1 s2 e1 e2 S H;rintro S H ⟨s2,e2,s5,e5⟩;refine vG (λS H=>S 2=.box 2 0/\H 2=some [.slice .nil [],.slice .nil []]/\S 5=.box 5 0/\H 5=some (cw s)/\S 6=.slice .view ((x::l).map (cU []))) ?_ ?_
 .have a97:=QN hG s gC [] ah7 (Bx gC);rw[hg]at a97;simp[s2,e2,s5,e5,cw,ai,dL];refine oc a97 ?_;simp[s2,e2,s5,e5,cw,ai,dL]
 clear s2 e2 s5 e5 S H;rintro S H ⟨s2,e2,s5,e5,s6⟩;refine vG (λS H=>S 2=.box 2 0/\H 2=some [.slice .nil [],.slice .nil []]/\S 5=.box 5 0/\H 5=some (cw s)/\S 6=.slice .view ((x::l).map (cU []))) (by simp[s2,e2,s5,e5,s6,vC]) ?_;clear s2 e2 s5 e5 s6 S H;rintro S H ⟨s2,e2,s5,e5,s6⟩;refine Qu (cw s) (λS H=>S 2=.box 2 0/\H 2=some [.slice .nil [],.slice .nil []]/\S 5=.ref (cw s)/\S 6=.slice .view ((x::l).map (cU []))) e5 ⟨by simp[s2,xB],by simp[aF,e2],by simp[s5,xB,cw,ai,dL,AV.bC,vI],by simp[s6,xB,bt]⟩ ?_;clear s2 e2 s5 e5 s6 S H;rintro S H ⟨s2,e2,s5,s6⟩;refine aY (λS H=>S 2=.box 2 0/\H 2=some [.slice .nil [],.slice .nil []]/\S 5=.ref (cw s)/\S 7=.box 7 0/\H 7=some [vI [],.slice .view ((lA (iI s) x l).map dz)]) ?_ ?_
 .simp[s2,e2,s5,s6];refine⟨_,zk,a98,by simp[bT,sW],?_⟩;simp[s2,e2,s5,s6,Ez]
 clear s2 e2 s5 s6 S H;rintro S H ⟨s2,e2,s5,s7,e7⟩;simp[s2,e2,s5,s7,e7,cw,ai,dL];refine oc a87 ?_;simp[s2,e2,s5,s7,e7,hit,cM,ef,Ez]
def kU(s:bw):Option (List End):=match mj s []with
 |[]=>none
 |x::l=>some (lA (iI s) x l)
def pX(es:List End)(i n:Nat):Nat:=es.countP λe=>decide (e.1=((i:Nat):Int))&&decide (e.2<((n:Nat):Int))
def BB(s:bf)(es:List End)(i:Nat):Int:=s.fh*eT s.name i+s.eF*pX es i (eT s.name i)
def dw(s:bf)(es:List End):List Int:=(List.range s.name.words.length).map (BB s es)
def cV(s:bf)(ba:List Int):List AV:=bh s++[vI ba]
def eM(s:bf)(ba:List Int):AV:=.agg (cV s ba)
def sE(n:Int):AV:=.iface 131 (.agg [.int .i64 n])
structure jx(s:bf):Prop where
 cells:1<=s.cells.length/\s.cells.length<=12
 A4:∀c∈s.cells,1<=c.lo/\c.lo<=c.hi/\c.hi<=20
 pos:1<=s.pos/\s.pos<=s.cells.length
 reach:1<=s.reach/\s.reach<=12
 fh:1<=s.fh/\s.fh<=9
 eF:0<=s.eF/\s.eF<=9
 name:cN s.name=true
def i_{s:bf}(h:eb s=true):jx s:=by
 simp only[eb,aeb,ee,aej,ae_,ae9]at h;obtain⟨⟨⟨⟨⟨⟨⟨h1,h2⟩,h3⟩,h4,h5⟩,h6,h7⟩,h8,h9⟩,oL,VU⟩,h12⟩:=h;refine⟨⟨zo,zo⟩,λc hc=>?_,⟨h4,h5⟩,⟨h6,h7⟩,⟨h8,h9⟩,⟨oL,VU⟩,h12⟩;have:=h3 c hc;simp[kK,ee]at this;omega
def kZ{s:bw}(gC:cN s=true){es:List End}(h:kU s=some es):es.length<=3:=by
 unfold kU at h
 cases hg:mj s []with
 |nil=>rw[hg]at h;cases h
 |cons x l=>
  rw[hg]at h;cases h;exact(Np gC (by rw[hg];exact uO (iI s) l x)).2.1
def QY(es:List End)(i n:Nat):pX es i n<=es.length:=List.countP_le_length
def B7{s:bf}(h:jx s){es:List End}(he:es.length<=3){i:Nat}(hi:eT s.name i<=6):0<=BB s es i/\BB s es i<=81:=by
 have h1:=QY es i (eT s.name i);have hp:=h.fh;have ht:=h.eF;unfold BB;have a1:0<=s.fh*(eT s.name i:Int):=ae3 zo zo;have a2:s.fh*(eT s.name i:Int)<=9*6:=ae6 zo zo zo zo;have a3:0<=s.eF*(pX es i (eT s.name i):Int):=ae3 zo zo;have a4:s.eF*(pX es i (eT s.name i):Int)<=9*3:=ae6 zo zo zo zo;omega
def Qf(s:bf)(es:List End)(i:Nat)(S:au)(H:aD):Prop:=
 S 1=.box 1 0/\H 1=some (bh s)/\S 2=.box 2 0/\(∃z,H 2=some z/\z.length=16)/\S 3=.box 3 0/\H 3=some [vI [],.slice .view (es.map dz)]/\S 6=.box 6 0/\H 6=some (bh s++[grow 3 (ints ((dw s es).take i))])/\
 S 31=.slice .view (s.name.words.map dP)/\S 32=.int .i64 s.name.words.length/\S 33=.int .i64 (i:Nat)
def Mt(hG:aQ GI)(s:bf)(hs:gY s)(h:jx s)(iX:kU s.name=none):AC prog GI 69 [cH s] (.panic (sE s.name.words.length)):=by
 have VY:=Us hG s.name hs.name
 have iG:zI s.name=[cU [] [],.int .i64 0,.int .i64 5]:=by
  unfold kU at iX;unfold zI;rw[if_pos h.name];split at iX
  .rename_i hg;first|rw[hg]|rfl
  .cases iX
 rw[iG]at VY;refine dF hG func69 ntmps69 c69 ?_;simp[c69,cH,bh,ai];refine oc VY ?_;simp[cU,ct,sE,cD,cQ,cy]
def Wf(hG:aQ GI)(s:bf)(hs:gY s)(h:jx s){es:List End}(oI:kU s.name=some es):AC prog GI 69 [cH s] (.ret (eM s (dw s es))):=by
 have VY:=Us hG s.name hs.name
 have iG:∃m:Int,zI s.name=[cU [] es,.int .i64 m,.int .i64 0]:=by
  unfold kU at oI;unfold zI;rw[if_pos h.name];split at oI
  .cases oI
  .rename_i x l hg;cases oI;(try rw[hg]);exact⟨_,rfl⟩
 obtain⟨m,iG⟩:=iG;rw[iG]at VY;have hle:=kZ h.name oI;have hF:=ja h.name
 have hlen:∀i,eT s.name i<=6:=λi=>by
  unfold eT;split
  .rename_i x hx;obtain⟨aN,rfl⟩:=aey.1 hx;exact(o7 h.name (ad2 aN)).Ck
  .omega
 obtain⟨i100,yw,yZ⟩:=iZ 87 16;obtain⟨fs,fw⟩:=uZ 87;refine dF hG func69 ntmps69 c69 ?_;refine aY (λS H=>S 1=.box 1 0/\H 1=some (bh s)/\S 2=.box 2 0/\∃z,H 2=some z/\z.length=16) (by simp[cH,bh,ai]) ?_;rintro S H ⟨s1,h1,s2,z,h2,hz⟩;refine aY (λS H=>S 1=.box 1 0/\H 1=some (bh s)/\S 2=.box 2 0/\(∃z,H 2=some z/\z.length=16)/\S 3=.box 3 0/\H 3=some [vI [],.slice .view (es.map dz)]/\S 5=.int .i64 0) ?_ ?_
 .simp[bh,ai,s1,h1,s2,h2,hz];refine oc VY ?_;simp[cU,ct,cD,s1,h1,s2,h2,hz]
  try rfl
 clear s1 h1 s2 h2 hz z S H;rintro S H ⟨s1,h1,s2,⟨z,h2,hz⟩,s3,h3,s5⟩;refine aY (λS H=>S 1=.box 1 0/\H 1=some (bh s)/\S 2=.box 2 0/\(∃z,H 2=some z/\z.length=16)/\S 3=.box 3 0/\H 3=some [vI [],.slice .view (es.map dz)]) ?_ ?_
 .simp[bh,ai,s1,h1,s2,h2,hz,s3,h3,s5]
  try rfl
 clear s1 h1 s2 h2 hz z s3 h3 s5 S H;rintro S H ⟨s1,h1,s2,⟨z,h2,hz⟩,s3,h3⟩;refine aY (λS H=>S 1=.box 1 0/\H 1=some (bh s)/\S 2=.box 2 0/\(∃z,H 2=some z/\z.length=16)/\S 3=.box 3 0/\H 3=some [vI [],.slice .view (es.map dz)]/\S 6=.box 6 0/\H 6=some (bh s++[.slice .nil []])) ?_ ?_
 .simp[bh,ai,s1,h1,s2,h2,hz,s3,h3,cD]
  try rfl
 clear s1 h1 s2 h2 hz z s3 h3 S H;rintro S H ⟨s1,h1,s2,⟨z,h2,hz⟩,s3,h3,s6,h6⟩
 have SH:(dw s es).length=s.name.words.length:=by simp[dw]
 have yt:=hF.words;refine aY (Qf s es s.name.words.length) ?_ ?_
 .refine aY (Qf s es 0) ?_ ?_
  .have hg:grow 3 (ints ([]:List Int))=.slice .nil []:=rfl;simp[bh,ai,s1,h1,s2,h2,hz,s3,h3,s6,h6,Qf,hg]
   try rfl
  clear s1 h1 s2 h2 hz z s3 h3 s6 h6 S H;intro S H hF0;refine cK 33 s.name.words.length (Qf s es) (λi S H h=>h.2.2.2.2.2.2.2.2.2.2) hF0 ?_;clear hF0 S H;rintro i hi S H ⟨s1,h1,s2,⟨z,h2,hz⟩,s3,h3,s6,h6,ko,lH,yJ⟩
  by_cases aN:i<s.name.words.length
  case neg=>
   have dV:i=s.name.words.length:=zo
   subst dV;simp[s1,h1,s2,h2,hz,s3,h3,s6,h6,ko,lH,yJ,Qf]
  have hw:IntKind.i64.wrap ((i:Int)+1)=i+1:=bU zo;simp[s1,h1,s2,h2,hz,s3,h3,s6,h6,ko,lH,yJ,aN,bh,ai,dP,cD];have KE:=hlen i
  have ad5:s.name.words[i].cb.length<=6:=by rw[<-lS aN];exact KE
  have hp:=h.fh;have ht:=h.eF;have Zm:0<=s.fh*(s.name.words[i].cb.length:Int):=ae3 zo zo;have Zs:s.fh*(s.name.words[i].cb.length:Int)<=9*6:=ae6 zo zo zo zo;have U6:IntKind.i64.wrap (s.fh*(s.name.words[i].cb.length:Int))=s.fh*(s.name.words[i].cb.length:Int):=bU zo
  refine cK 47 es.length (λj S H=>S 1=.box 1 0/\H 1=some (bh s)/\S 2=.box 2 0/\(∃z,H 2=some z/\z.length=16)/\S 3=.box 3 0/\H 3=some [vI [],.slice .view (es.map dz)]/\S 6=.box 6 0/\H 6=some (bh s++[grow 3 (ints ((dw s es).take i))])/\
   S 31=.slice .view (s.name.words.map dP)/\S 32=.int .i64 s.name.words.length/\S 33=.int .i64 (i:Nat)/\S 7=.int .i64 (i:Nat)/\S 8=.box 8 0/\H 8=some [vI s.name.words[i].cb,vI s.name.words[i].dq,.bool s.name.words[i].free]/\
   S 9=.int .i64 (s.fh*(s.name.words[i].cb.length:Int)+s.eF*(pX (es.take j) i s.name.words[i].cb.length:Int))/\S 45=.slice .view (es.map dz)/\S 46=.int .i64 es.length/\S 47=.int .i64 (j:Nat)) (λj S H h=>h.2.2.2.2.2.2.2.2.2.2.2.2.2.2.2.2.2) ?_ ?_
  .simp[s1,h1,s2,h2,hz,s3,h3,s6,h6,ko,lH,yJ,bh,ai,U6,pX]
  clear s1 h1 s2 h2 hz z s3 h3 s6 h6 ko lH yJ S H;rintro j hj S H ⟨s1,h1,s2,⟨z,h2,hz⟩,s3,h3,s6,h6,ko,lH,yJ,s7,s8,h8,s9,MK,VD,BI⟩;have Wr:=QY (es.take j) i s.name.words[i].cb.length
  have hc4:(es.take j).length<=3:=by simp;omega
  have XO:0<=s.eF*(pX (es.take j) i s.name.words[i].cb.length:Int):=ae3 zo zo;have V5:s.eF*(pX (es.take j) i s.name.words[i].cb.length:Int)<=9*3:=ae6 zo zo zo zo
  by_cases rD:j<es.length
  case pos=>
   have mg:IntKind.i64.wrap ((j:Int)+1)=j+1:=bU zo;have pB:IntKind.i64.wrap (s.fh*(s.name.words[i].cb.length:Int)+s.eF*(pX (es.take j) i s.name.words[i].cb.length:Int)+s.eF)=s.fh*(s.name.words[i].cb.length:Int)+s.eF*(pX (es.take j) i s.name.words[i].cb.length:Int)+s.eF:=bU zo
   have ni:pX (es.take (j+1)) i s.name.words[i].cb.length=pX (es.take j) i s.name.words[i].cb.length+if es[j].1=((i:Nat):Int)/\es[j].2<((s.name.words[i].cb.length:Nat):Int)then 1 else 0:=by
    rw[agY,ad_ rD];unfold pX;rw[Option.toList_some,List.countP_append,List.countP_singleton]
    by_cases q1:es[j].1=((i:Nat):Int)<;>by_cases q2:es[j].2<((s.name.words[i].cb.length:Nat):Int)<;>simp[q1,q2]
   by_cases c1:es[j].1=((i:Nat):Int)
   .by_cases c2:es[j].2<((s.name.words[i].cb.length:Nat):Int)
    .rw[if_pos ⟨c1,c2⟩]at ni;simp[s1,h1,s2,h2,hz,s3,h3,s6,h6,ko,lH,yJ,s7,s8,h8,s9,MK,VD,BI,rD,bh,ai,dz,cD,mg,pB,c1,c2,ni];rw[Int.mul_add,Int.mul_one,Int.add_assoc]
    .rw[if_neg (λh=>c2 h.2)]at ni;simp[s1,h1,s2,h2,hz,s3,h3,s6,h6,ko,lH,yJ,s7,s8,h8,s9,MK,VD,BI,rD,bh,ai,dz,cD,mg,pB,c1,c2,ni]
   .rw[if_neg (λh=>c1 h.1)]at ni
    have c1':(es[j].1==((i:Nat):Int))=false:=by simpa using c1
    simp[s1,h1,s2,h2,hz,s3,h3,s6,h6,ko,lH,yJ,s7,s8,h8,s9,MK,VD,BI,rD,bh,ai,dz,cD,mg,pB,c1,c1',ni]
  case neg=>
   have ab8:j=es.length:=zo
   subst ab8;have hT:es.take es.length=es:=aee (aed _);rw[hT]at s9
   have WH:(dw s es).take (i+1)=(dw s es).take i++[s.fh*(s.name.words[i].cb.length:Int)+s.eF*(pX es i s.name.words[i].cb.length:Int)]:=by
    rw[agY,ad_ (by rw[SH];exact aN)];simp[dw,BB,lS aN]
   have df:br 1 (ints ((dw s es).take i))=true:=rR _
   have kI:ints ((dw s es).take i)++[.int .i64 (s.fh*(s.name.words[i].cb.length:Int)+s.eF*(pX es i s.name.words[i].cb.length:Int))]=ints ((dw s es).take (i+1)):=by rw[WH];simp[ints]
   have dR:ints ((dw s es).take (i+1))≠[]:=by rw[<-kI];simp
   have xn:grow 3 (ints ((dw s es).take (i+1)))=.slice (.own 3) (ints ((dw s es).take (i+1))):=by unfold grow;rw[if_neg dR]
   have dG:br 1 [.int .i64 (s.fh*(s.name.words[i].cb.length:Int)+s.eF*(pX es i s.name.words[i].cb.length:Int))]=true:=rfl
   have Um:min i (dw s es).length+1<1048576:=zo
   by_cases h0:ints ((dw s es).take i)=[]
   .have JE:grow 3 (ints ((dw s es).take i))=.slice .nil []:=by unfold grow;rw[if_pos h0,h0]
    rw[JE]at h6;rw[h0,List.nil_append]at kI;simp[s1,h1,s2,h2,hz,s3,h3,s6,h6,ko,lH,yJ,s7,s8,h8,s9,MK,VD,BI,bh,ai,hw,dG,Qf,xn,<-kI];rw[kI];exact xn.symm
   .have JE:grow 3 (ints ((dw s es).take i))=.slice (.own 3) (ints ((dw s es).take i)):=by unfold grow;rw[if_neg h0]
    rw[JE]at h6;simp[s1,h1,s2,h2,hz,s3,h3,s6,h6,ko,lH,yJ,s7,s8,h8,s9,MK,VD,BI,bh,ai,hw,dG,df,Um,Qf,xn,<-kI];rw[kI];exact xn.symm
 clear s1 h1 s2 h2 hz z s3 h3 s6 h6 S H;rintro S H ⟨s1,h1,s2,⟨z,h2,hz⟩,s3,h3,s6,h6,ko,lH,yJ⟩;have hT:(dw s es).take s.name.words.length=dw s es:=aee zo;rw[hT]at h6
 have iz:∃o,grow 3 (ints (dw s es))=.slice o (ints (dw s es)):=⟨_,rfl⟩
 obtain⟨o,iz⟩:=iz;rw[iz]at h6
 have pc:aP z 0 (bh s++[.slice .view (ints (dw s es))])=bh s++[.slice .view (ints (dw s es))]:=by simp[aP,hz,bh,ai]
 simp[s1,h1,s2,h2,hz,s3,h3,s6,h6,ko,lH,yJ,yw,yZ,fw,bh,ai,eM,cV,ef]
 cases o<;>rfl
def vq(s:bf)(i:Nat):Bool:=match s.cells[i]? with|some c=>c.hid|none=>false
def mF(s:bf):Nat:=(s.pos-s.reach).toNat
def ij(s:bf)(i:Nat):Bool:=decide (mF s<=i)&&(decide (i<s.pos.toNat)&&!vq s i)
def py(s:bf)(i:Nat):List (Int×Value):=(List.range' (mF s) (i-mF s)).map λj:Nat=>((j:Int),Value.bool (!vq s j))
def fl(s:bf):List End:=(ic (ij s) s.cells.length).map λv=>((v.1:Int),(v.2:Int))
def Ss(s:bf){i:Nat}:pN (i:Int) (py s i) 0=none:=BR λx hx=>by
 obtain⟨j,hj,rfl⟩:=aew.1 hx;have:=agz.1 hj;simp only;omega
def Pb(s:bf){i:Nat}(h:mF s<=i):py s (i+1)=py s i++[((i:Int),Value.bool (!vq s i))]:=by
 unfold py
 have e:mF s+1*(i-mF s)=i:=zo
 rw[show i+1-mF s=(i-mF s)+1 by omega,agO,aeB,e]
 rfl
def zK(f:Nat->Bool)(i:Nat):∀(n a k:Nat),((pN (i:Int) ((List.range' a n).map λj:Nat=>((j:Int),Value.bool (f j))) k).map (·.2)).getD (.bool false)=.bool (decide (a<=i)&&(decide (i<a+n)&&f i))
 |0,a,k=>by
  have:¬(a<=i/\i<a+0):=zo
  simp[pN];intro h1 h2;omega
 |n+1,a,k=>by
  rw[afJ,aer];unfold pN
  by_cases h:i=a
  .subst h;simp
  .have hb:((i:Int)==(a:Int))=false:=by simp;omega
   rw[hb];simp only[aek,aeA];rw[zK f i n (a+1) (k+1)]
   congr 1
   rw[aeW];simp
   constructor
   .rintro⟨h1,h2,h3⟩;exact⟨zo,zo,h3⟩
   .rintro⟨h1,h2,h3⟩;exact⟨zo,zo,h3⟩
def Oe(s:bf)(hp:mF s<=s.pos.toNat)(i:Nat):((pN (i:Int) (py s s.pos.toNat) 0).map (·.2)).getD (.bool false)=.bool (ij s i):=by
 unfold py;rw[zK (λj=>!vq s j)]
 congr 1
 unfold ij;rw[show mF s+(s.pos.toNat-mF s)=s.pos.toNat by omega]
def Kg(b:Nat):Value:=.map (some b)
def Hl{α β:Type}[BEq α][LawfulBEq α]{t:α}{v:β}:∀{l:List (α×β)},l.lookup t=some v->(t,v)∈l
 |[],h=>by cases h
 |(a,b)::l,h=>by
  rw[List.lookup_cons]at h
  by_cases ht:(t==a)=true
  .rw[ht]at h;have:=eq_of_beq ht;cases h;subst this;exact aen
  .have vt:(t==a)=false:=by simpa using ht
   rw[vt]at h;exact aei _ (Hl h)
def eD(s:bf)(i:Nat):Nat×List (Nat×Nat):=(List.range i).foldl (fy (ij s)) (0,[])
def qe(s:bf)(i:Nat):eD s (i+1)=fy (ij s) (eD s i) i:=by
 unfold eD;rw[afs,aff]
 rfl
def Fi(s:bf):∀(d i:Nat),∃t,(eD s (i+d)).2=(eD s i).2++t
 |0,i=>⟨[],ah7⟩
 |d+1,i=>by
  obtain⟨t,ht⟩:=Fi s d i;rw[show i+(d+1)=i+d+1 by omega,qe];unfold fy;split
  .exact⟨t,ht⟩
  .simp only;split
   .exact⟨t++[((eD s (i+d)).1,i+d-1)],by rw[ht,aeU]⟩
   .exact⟨t,ht⟩
def Hr(s:bf):∀i,(eD s i).1<=i
 |0=>aed _
 |i+1=>by
  rw[qe];unfold fy;have:=Hr s i;split
  .omega
  .simp
variable{l:Nat}{xs:List AV}
def rY(l:Nat)(s:bf)(bM:Nat)(ex:List (Nat×AV)):au:=λt=>if t=0 then .val (.func (.yield l) #[] #[])else if t=1 then .ref (bh s)else if t=3 then .val (Kg bM)else match ex.lookup t with|some v=>v|none=>.cT
structure VS(C:Cons prog GI l xs)(s:bf)(cX:Value)(bM:Nat)(ex:List (Nat×AV))(l':List (Int×Value))(k:Nat)(a:Act)(w:World):Prop where
 size:a.tmps.size=54
 defers:a.defers=[]
 t0:a.tmps.getD 0 undef=.func (.yield l) #[] #[]
 t1:a.tmps.getD 1 undef=cX
 t3:a.tmps.getD 3 undef=Kg bM
 ex:∀p∈ex,4<=p.1/\jl p.2=true/\RD (λ_ _=>False) w p.2 (a.tmps.getD p.1 undef)
 st:∃M Pr,C.J k M Pr w/\(∀b,M b->b<w.heap.size)/\M bM/\(∃es clock,w.heap[bM]?=some (.map es clock)/\Cp (.int .i64) es l')/\RD Pr w (.ref (bh s)) cX
variable{C:Cons prog GI l xs}{s:bf}{cX:Value}{bM:Nat}{ex Ah:List (Nat×AV)}{l':List (Int×Value)}{k:Nat}{a:Act}{w:World}
def VS.jP(h:VS C s cX bM ex l' k a w):∀t,t<54->(rY l s bM ex t).bC=rY l s bM ex t/\RV (λb _=>b≠bM) dW w (rY l s bM ex t) (a.tmps.getD t undef):=by
 intro t ht;obtain⟨M,Pr,hj,aN,hM,_,hx⟩:=h.st;unfold rY
 by_cases t0:t=0
 .subst t0;simp only[aeH];rw[h.t0];exact⟨rfl,.data _ _ (.val _ rfl)⟩
 rw[if_neg t0]
 by_cases t1:t=1
 .subst t1;simp only[aeH];rw[h.t1];exact⟨rfl,.data _ _ (hx.mono (cC.same λb k _ hp=>by rintro rfl;exact C.apart hj _ k hM hp))⟩
 rw[if_neg t1]
 by_cases t3:t=3
 .subst t3;simp only[aeH];rw[h.t3];exact⟨rfl,.data _ _ (.val _ rfl)⟩
 rw[if_neg t3]
 cases hl:ex.lookup t with
 |none=>exact⟨rfl,.cT _⟩
 |some v=>
  have hm:(t,v)∈ex:=Hl hl;obtain⟨_,h2,h3⟩:=h.ex _ hm;refine⟨?_,.data _ _ (h3.jl h2)⟩
  cases v<;>first|rfl|cases h2
def VS.grow (h:VS C s cX bM ex l' k a w) {a':Act} {w':World} (hb:Below w.heap.size w w') (cM:a'.tmps.size=54) (fq:a'.defers=[]) (h0:∀ t,t < 4→a'.tmps.getD t undef=a.tmps.getD t undef)
  (hex:∀p∈Ah,4<=p.1/\jl p.2=true/\RD (λ_ _=>False) w' p.2 (a'.tmps.getD p.1 undef)):VS C s cX bM Ah l' k a' w':=by
 obtain⟨M,Pr,hj,aN,hM,⟨es,clock,hm,he⟩,hx⟩:=h.st
 refine⟨cM,fq,(h0 0 zd).trans h.t0,(h0 1 zd).trans h.t1,(h0 3 zd).trans h.t3,hex,M,Pr,C.eF hj (mY.wV hb) λb iY=>⟨ae4 (aN b iY) hb.size,.inl iY⟩,λb iY=>ae4 (aN b iY) hb.size,hM,
  ⟨es,clock,(hb.block bM (aN bM hM)).trans hm,he⟩,hx.mono (cC.jK (λb h=>hb.block b h) λ_ _ _ h=>h)⟩
def W4:Nat->Bool:=λt=>decide (4<=t)
def VS.region (hG:aQ GI) {C:Cons prog GI l xs} (h:VS C s cX bM ex l' k a w) {id:Nat} {ops:Array Oper} {ac:ah} {Q:Exit→Act→World→Prop} {m:Nat} (hc:lX (.region id ops false)=true) (pA:ez prog 54 (.region id ops false)=ac) (hW:kv ops W4=true)
  (Ah:List (Nat×AV)) (hs:Ah.all (λp=>decide (4<=p.1)&&(decide (p.1<54)&&jl p.2))=true) (BE:cW prog GI ac (aq λS' _=>∀p∈Ah,S' p.1=p.2) (rY l s bM ex) (λ_=>none)) (hk:∀a' w',VS C s cX bM Ah l' k a' w'->Q .normal a' w'):(Code.region id ops false).wpIn (FR none) m prog Q a w:=by
 obtain⟨M,Pr,hj,aN,hM,O0,hx⟩:=h.st;refine dS hG d_ hc pA hW (C.gi hj) (λb _=>b≠bM) (rY l s bM ex) h.size h.defers h.jP BE ?_;intro g S' H' a' w' hg R1 hK cP;refine hk a' w' (h.grow (by have:=R1.below;rwa [R1.base]at this) R1.size (by rw[R1.defers,hg];rfl) (λt ht=>cP t (by simp[W4];omega)) λp hp=>?_);have wu:=aeh.1 hs p hp;simp only[aeb,aej]at wu;refine⟨wu.1,wu.2.2,?_⟩;have r:=R1.slot p.1 wu.2.1 (λh=>h);rw[hK p hp]at r;exact(r.eP (by have:=wu.2.2;revert this;cases p.2<;>simp[Go.AL.jl,AV.aX])).jl wu.2.2
def VS.bool(h:VS C s cX bM ex l' k a w){t:Nat}{b:Bool}(hm:(t,AV.bool b)∈ex):a.tmps.getD t undef=.bool b:=(RV.data (al:=dW) _ _ (h.ex _ hm).2.2).gK
def VS.int(h:VS C s cX bM ex l' k a w){t:Nat}{b:Int}(hm:(t,AV.int .i64 b)∈ex):a.tmps.getD t undef=.int .i64 b:=(RV.data (al:=dW) _ _ (h.ex _ hm).2.2).int_eq
def VS.cg (h:VS C s cX bM ex l' k a w) {a':Act} {w':World} (N:Nat) (hN:4≤N) (hb:Below w.heap.size w w') (cM:a'.tmps.size=54) (fq:a'.defers=[]) (h0:∀ t,t < N→a'.tmps.getD t undef=a.tmps.getD t undef)
  (hex:ex.all (λp=>decide (p.1<N))=true):VS C s cX bM ex l' k a' w':=
 h.grow hb cM fq (λt ht=>h0 t zo) λp hp=>by
  obtain⟨q1,q2,q3⟩:=h.ex p hp;have:=aeh.1 hex p hp;rw[h0 p.1 (by simpa using this)];exact⟨q1,q2,q3.jl q2⟩
def VS.sub(h:VS C s cX bM ex l' k a w)(abM:∀p∈Ah,p∈ex):VS C s cX bM Ah l' k a w:=
 ⟨h.size,h.defers,h.t0,h.t1,h.t3,λp hp=>h.ex p (abM p hp),h.st⟩
def VS.put(h:VS C s cX bM ex l' k a w)(t:Nat)(v:Value)(ht:4<=t)(hex:ex.all (λp=>p.1 !=t)=true):VS C s cX bM ex l' k (a.put (some t) v) w:=by
 have f_:∀k,k≠t->(a.put (some t) v).tmps.getD k undef=a.tmps.getD k undef:=λk hk=>by
  simp[Act.put,aem (ae0 hk)]
 refine⟨by simp[Act.put,h.size],h.defers,(f_ 0 zo).trans h.t0,(f_ 1 zo).trans h.t1,(f_ 3 zo).trans h.t3,λp hp=>?_,h.st⟩;have:=aeh.1 hex p hp;rw[f_ p.1 (by simpa using this)];exact h.ex p hp
noncomputable def R_:ah:=ah.qb c113.qb.qa.qb.qb
noncomputable def Aa:ah:=ah.qb c113.qb.qb.qb.qb.qb
def PM(hG:aQ GI)(s:bf)(h:jx s):yT prog GI 113 [.ref (bh s)] ((fl s).map dz):=by
 intro l C w Pr dn hJ hlen hr;obtain⟨cX,rfl⟩:∃cX,dn=#[cX]:=tg (by simpa using hlen.symm);have hrX:=hr 0 ah7 ah7;simp only[List.getElem_cons_zero,List.getElem_toArray]at hrX;refine(jD (ro:=none) (m:=0)).1 (aht func113 rfl trivial ?_);refine iS (λa=>a.tmps.size=54/\a.defers=[]/\a.tmps.getD 0 undef=.func (.yield l) #[] #[]/\a.tmps.getD 1 undef=cX) ⟨by simp[ntmps113],rfl,dQ _ _ 0 ah7,dQ _ _ 1 ah7⟩ ?_;rintro a ⟨cM,fq,e0,e1⟩
 have f_:∀(a:Act)(d t:Nat)(c:Value),t≠d->(a.put (some d) c).tmps.getD t undef=a.tmps.getD t undef:=λa d t c h=>by
  simp[Act.put,aem (ae0 h)]
 have jj:∀(a:Act)(d:Nat)(c:Value),a.tmps.size=54->d<54->(a.put (some d) c).tmps.getD d undef=c:=λa d c h hd=>by
  simp[Act.put,h,hd]
 have ld:∀(a:Act)(d:Option Nat)(c:Value),(a.put d c).tmps.size=a.tmps.size:=λa d c=>by cases d<;>simp[Act.put]
 refine aeq (aeG ?_);show wpOpsIn _ _ _ _ _ [0,1] a w;refine cI rfl rfl zr (run_makeMap (t:=167) rfl) ?_
 obtain⟨bM,XI⟩:∃b,w.heap.size=b:=⟨_,rfl⟩
 obtain⟨w1,qk⟩:∃w1,w.alloc (.map #[] 0)=w1:=⟨_,rfl⟩
 have s1:w1.heap.size=bM+1:=by rw[<-qk];simp[XI]
 have n1:w1.heap[bM]?=some (.map #[] 0):=by rw[<-qk,<-XI];exact ae8 w _
 have b1:Below w.heap.size w w1:=by rw[<-qk];exact(afb _ _).alloc (aed _) _
 show wpOpsIn _ _ _ _ _ [1] (a.put (some 7) (.map (some w.heap.size))) (w.alloc (.map #[] 0));rw[qk,XI];have h7:(a.put (some 7) (.map (some bM))).eval (.tmp 7)=.map (some bM):=jj _ _ _ cM zd;refine cI rfl rfl zr (run_assign (x:=.tmp 7) w1 rfl) ?_;rw[h7];show Code.wpIn _ _ _ _ _ ((a.put (some 7) (.map (some bM))).put (some 3) (.map (some bM))) w1
 have vs:VS C s cX bM [] [] 0 ((a.put (some 7) (.map (some bM))).put (some 3) (.map (some bM))) w1:=by
  refine⟨by rw[ld,ld];exact cM,fq,by rw[f_ _ _ _ _ zd,f_ _ _ _ _ zd];exact e0,by rw[f_ _ _ _ _ zd,f_ _ _ _ _ zd];exact e1,jj _ _ _ (by rw[ld];exact cM) zd,λp hp=>(by cases hp),λb=>b=bM,Pr,C.eF hJ (mY.wV b1) λb hb=>?_,λb hb=>?_,rfl,⟨#[],0,n1,rfl,λi hi=>(by simp at hi)⟩,?_⟩
  .exact⟨zo,.inr zo⟩
  .omega
  .exact(hrX.eP rfl).mono (cC.jK (λb h=>b1.block b h) λ_ _ _ h=>h)
 generalize(a.put (some 7) (.map (some bM))).put (some 3) (.map (some bM))=a1 at vs⊢;clear h7 e0 e1 fq cM n1 s1 b1 qk XI hJ hr hrX hlen a
 obtain⟨p,hp⟩:∃p:Nat,s.pos=p:=⟨s.pos.toNat,by have:=h.pos;omega⟩
 have zU:s.pos.toNat=p:=zo
 have ky:=h.pos;have adI:=h.reach;have XK:=h.cells
 have Xr:mF s<=p:=by unfold mF;omega
 have qU:IntKind.i64.wrap (s.pos-s.reach)=s.pos-s.reach:=bU zo
 have acd:max 0 (s.pos-s.reach)=(mF s:Int):=by unfold mF;omega
 have adJ:(if s.pos-s.reach<=0 then(0:Int)else s.pos-s.reach)=(mF s:Int):=by unfold mF;split<;>omega
 refine aeq (aeq ?_);refine vs.region hG (ac:=ah.qa c113.qb.qa) zk zk zk [(4,.int .i64 (mF s))] rfl ?_ ?_
 .simp[c113,ah.qa,ah.qb,rY,List.lookup,bh,qU];exact acd
 clear vs;intro a w vs
 have T':VS C s cX bM [(4,.int .i64 ((mF s:Nat):Int))] (py s (mF s)) 0 a w:=by
  have:py s (mF s)=[]:=by simp[py]
  rw[this];exact vs
 clear vs;show Code.wpIn _ _ _ _ _ a w;refine afD (ahM (λa w=>∃i,mF s<=i/\i<=p/\VS C s cX bM [(4,.int .i64 (i:Nat))] (py s i) 0 a w) (λa _=>match a.tmps.getD 4 undef with|.int _ i=>p-i.toNat|_=>0) ⟨mF s,aed _,Xr,T'⟩ ?_);clear T' a w;rintro a w ⟨i,hli,zL,vs⟩;have h4:a.tmps.getD 4 undef=.int .i64 (i:Nat):=vs.int ah7;refine aeq (aeq ?_);refine vs.region hG (ac:=ah.qa R_.qa) zk zk zk [(4,.int .i64 (i:Nat)),(17,.bool (decide (i<p)))] rfl ?_ ?_
 .simp[c113,R_,ah.qa,ah.qb,rY,List.lookup,bh,hp]
 clear vs;intro a2 w2 vs;show Code.wpIn _ _ _ _ _ a2 w2;refine ae7 (t:=decide (i<p)) (vs.bool ah7) ?_
 by_cases aN:i<p
 case neg=>
  simp only[aN,agC,aek,aeA];refine ags ?_
  have adz:i=p:=zo
  subst adz;show Code.wpIn _ _ _ _ _ a2 w2;clear hli zL h4 aN a w
  have aar:py s i=py s s.pos.toNat:=by rw[zU]
  refine aeq ?_;refine vs.region hG (ac:=ah.qa c113.qb.qb) zk zk zk [(5,.int .i64 0)] rfl ?_ ?_
  .simp[c113,ah.qa,ah.qb,rY,List.lookup]
  clear vs;intro a w vs;show Code.wpIn _ _ _ _ _ a w;have hwn:IntKind.i64.wrap ((s.cells.length:Int)+1)=s.cells.length+1:=bU zo;refine aeq ?_;refine vs.region hG (ac:=ah.qa c113.qb.qb.qb) zk zk zk [(5,.int .i64 ((0:Nat):Int)),(32,.int .i64 (s.cells.length+1)),(33,.int .i64 ((0:Nat):Int))] rfl ?_ ?_
  .simp[c113,ah.qa,ah.qb,rY,List.lookup,bh,hwn]
  clear vs;intro a w vs;show Code.wpIn _ _ _ _ _ a w;refine afD (ahM (λa w=>∃j,j<=s.cells.length+1/\VS C s cX bM [(5,.int .i64 ((eD s j).1:Nat)),(32,.int .i64 (s.cells.length+1)),(33,.int .i64 (j:Nat))] (py s i) (eD s j).2.length a w) (λa _=>match a.tmps.getD 33 undef with|.int _ j=>s.cells.length+1-j.toNat|_=>0) ⟨0,ae2 _,vs⟩ ?_);clear vs a w;rintro a w ⟨j,hj,vs⟩;have h33:a.tmps.getD 33 undef=.int .i64 (j:Nat):=vs.int ah7;refine aeq ?_;refine vs.region hG (ac:=ah.qa Aa) zk zk zk [(5,.int .i64 ((eD s j).1:Nat)),(32,.int .i64 (s.cells.length+1)),(33,.int .i64 (j:Nat)),(34,.bool (decide (j<s.cells.length+1)))] rfl ?_ ?_
  .simp[c113,Aa,ah.qa,ah.qb,rY,List.lookup];omega
  clear vs;intro a3 w3 vs;show Code.wpIn _ _ _ _ _ a3 w3;refine aeq (ae7 (t:=decide (j<s.cells.length+1)) (vs.bool ah7) ?_)
  by_cases rD:j<s.cells.length+1
  case neg=>
   simp only[rD,agC,aek,aeA];refine ags ?_
   have OQ:j=s.cells.length+1:=zo
   subst OQ
   change bodyPost prog f113 (λe w'=>∃v M fE,e=Ending.returned v/\(C.J (List.map dz (fl s)).length M fE w'\/C.X M fE w')) .normal a3 w3
   obtain⟨M,fE,eX,_⟩:=vs.st
   have hl:((fl s).map dz).length=(eD s (s.cells.length+1)).2.length:=by simp[fl,ic,eD]
   refine⟨vs.defers,.tuple #[],?_,.tuple #[],M,fE,rfl,.inl (by rw[hl];exact eX)⟩;simp[results,results113]
  simp only[rD,agK,aeH];refine afG ?_;show Code.wpIn _ _ _ _ _ a3 w3;refine aeq (afR (Q:=λe a w=>(e=.normal/\VS C s cX bM [(5,.int .i64 ((eD s (j+1)).1:Nat)),(32,.int .i64 (s.cells.length+1)),(33,.int .i64 (j:Nat))] (py s i) (eD s (j+1)).2.length a w)\/(e=.ret/\a.defers=[]/\∃M Pr,C.X M Pr w)) ?_ ?_)
  .refine afD ?_;refine aeq ?_;refine vs.region hG (ac:=ah.qa Aa.qb.qb.qa.qb) zk zk zk [(5,.int .i64 ((eD s j).1:Nat)),(32,.int .i64 (s.cells.length+1)),(33,.int .i64 (j:Nat)),(6,.int .i64 (j:Nat))] rfl ?_ ?_
   .simp[c113,Aa,ah.qa,ah.qb,rY,List.lookup]
   clear vs;intro a4 w4 vs;show Code.wpIn _ _ _ _ _ a4 w4;refine aeq (aeq ?_);obtain⟨M,fE,eX,vj,hM,⟨es,clock,hm,he⟩,hx⟩:=vs.st
   refine my hG (GI:=GI) (p:=2) (l2:=[2]) rfl zk zk (l:=(Aa.qb.qb.qa.qb.qb.qa.qa.dl).take 2) zk zd (W:=λt=>decide (36<=t)) zk (C.gi eX) (λb _=>b≠bM) (rY l s bM [(5,.int .i64 ((eD s j).1:Nat)),(32,.int .i64 (s.cells.length+1)),(33,.int .i64 (j:Nat)),(6,.int .i64 (j:Nat))]) vs.size vs.defers vs.jP
    (K:=λS _=>S 36=.val (Kg bM)/\S 37=.int .i64 (j:Nat)) ?_ ?_
   .simp[c113,Aa,ah.qa,ah.qb,ah.dl,rY,List.lookup]
   intro g S' H' a5 w5 hg R1 ⟨q36,q37⟩ cP
   have PY:Below w4.heap.size w4 w5:=by have:=R1.below;rwa [R1.base]at this
   have e36:a5.eval (.tmp 36)=.map (some bM):=by
    have:=R1.slot 36 zd (λh=>h);rw[q36]at this;exact this.jT
   have e37:a5.eval (.tmp 37)=.int .i64 (j:Nat):=wT R1 zd q37;have I8:=vs.cg 36 zd PY R1.size (by rw[R1.defers,hg];rfl) (λt ht=>cP t (by simp;omega)) rfl;have hm5:w5.heap[bM]?=some (.map es clock):=(PY.block bM (vj bM hM)).trans hm
   have hmt:prog.underlying 167=some (.map 3 4):=zk
   have ZH:prog.underlying 3=some (.int .i64):=zk
   obtain⟨i4,hi4,SG⟩:=af3.1 (show(prog.info? 4).bind (·.zero)=some (.bool false) by kernel_rfl);refine cI rfl rfl zr (v:=.bool (ij s j)) (w':=w5) ((IK (t:=167) (x1:=.tmp 36) (x2:=.tmp 37) rfl hmt ZH hi4 SG e36 e37 hm5 he).trans (congrArg (λv=>Result.ok (Next.value v) w5) (by rw[aar];exact Oe s zo j))) ?_;show Code.wpIn _ _ _ _ _ (a5.put (some 38) (.bool (ij s j))) w5;have JS:=I8.put 38 (.bool (ij s j)) zd rfl;have JV:(a5.put (some 38) (.bool (ij s j))).tmps.getD 38 undef=.bool (ij s j):=jj _ _ _ I8.size zd;generalize a5.put (some 38) (.bool (ij s j))=a6 at JS JV⊢;clear vs I8 eX vj hM hm he hx M fE es clock PY R1 cP hg q36 q37 e36 e37 hm5;refine ae7 (t:=ij s j) JV ?_
   cases hsj:ij s j with
   |true=>
    simp only[aeH]
    have hf:eD s (j+1)=eD s j:=by rw[qe];unfold fy;rw[if_pos hsj]
    refine ags (.inl ⟨rfl,?_⟩);rw[hf]
    exact JS.sub λq hq=>by simp at hq⊢;rcases hq with rfl|rfl|rfl<;>simp
   |false=>
    simp only[aek,aeA];refine afG ?_;show Code.wpIn _ _ _ _ _ a6 w5;have pJ:=Hr s j
    have hf:eD s (j+1)=(j+1,if(eD s j).1<j then(eD s j).2++[((eD s j).1,j-1)]else(eD s j).2):=by
     rw[qe];unfold fy;rw[if_neg (by rw[hsj];simp)]
    refine aeq (afR (Q:=λe a w=>(e=.normal/\VS C s cX bM [(5,.int .i64 ((eD s j).1:Nat)),(32,.int .i64 (s.cells.length+1)),(33,.int .i64 (j:Nat)),(6,.int .i64 (j:Nat))] (py s i) (eD s (j+1)).2.length a w)\/(e=.ret/\a.defers=[]/\∃M Pr,C.X M Pr w)) ?_ ?_)
    .refine aeq ?_
     by_cases XU:(eD s j).1<j
     case neg=>
      have Ad:(eD s (j+1)).2=(eD s j).2:=by rw[hf];simp[XU]
      refine JS.region hG (ac:=ah.qa Aa.qb.qb.qa.qb.qb.qb.qa) zk zk zk [(5,.int .i64 ((eD s j).1:Nat)),(32,.int .i64 (s.cells.length+1)),(33,.int .i64 (j:Nat)),(6,.int .i64 (j:Nat)),(50,.bool false)] rfl ?_ ?_
      .have:¬((eD s j).1:Int)<j:=zo
       simp[c113,Aa,ah.qa,ah.qb,rY,List.lookup,XU]
      intro a7 w7 De;show Code.wpIn _ _ _ _ _ a7 w7;refine ae7 (t:=false) (De.bool ah7) ?_;simp only[aek,aeA];refine afG (.inl ⟨rfl,?_⟩);rw[Ad]
      exact De.sub λq hq=>by simp at hq⊢;rcases hq with rfl|rfl|rfl|rfl<;>simp
     case pos=>
      have Ad:(eD s (j+1)).2=(eD s j).2++[((eD s j).1,j-1)]:=by rw[hf];simp[XU]
      obtain⟨M,fE,eX,vj,hM,⟨es,clock,hm,he⟩,hx⟩:=JS.st
      have hwj:IntKind.i64.wrap ((j:Int)-1)=((j-1:Nat):Int):=by rw[bU zo];omega
      have od:((eD s j).1:Int)<j:=zo
      refine my hG (GI:=GI) (p:=9) (l2:=[9,10,11]) rfl zk zk (l:=(Aa.qb.qb.qa.qb.qb.qb.qa.qa.dl).take 9) zk zd (W:=λt=>decide (39<=t)) zk (C.gi eX) (λb _=>b≠bM) (rY l s bM [(5,.int .i64 ((eD s j).1:Nat)),(32,.int .i64 (s.cells.length+1)),(33,.int .i64 (j:Nat)),(6,.int .i64 (j:Nat))]) JS.size JS.defers JS.jP
       (K:=λS _=>S 42=.bool true/\S 43=.val (.func (.yield l) #[] #[])/\S 47=.agg [.int .i64 ((eD s j).1:Nat),.int .i64 ((j-1:Nat):Int)]) ?_ ?_
      .simp[c113,Aa,ah.qa,ah.qb,ah.dl,rY,List.lookup,XU,hwj,cD]
      intro g S' H' a7 w7 hg R1 ⟨q42,UC,q47⟩ cP
      have hb7:Below w5.heap.size w5 w7:=by have:=R1.below;rwa [R1.base]at this
      have Zj:a7.tmps.getD 42 undef=.bool true:=by
       have:=R1.slot 42 zd (λh=>h);rw[q42]at this;exact this.gK
      have FU:a7.eval (.tmp 43)=.func (.yield l) #[] #[]:=by
       have:=R1.slot 43 zd (λh=>h);rw[UC]at this;exact this.jT
      have e47:a7.eval (.tmp 47)=.agg #[.int .i64 ((eD s j).1:Nat),.int .i64 ((j-1:Nat):Int)]:=by
       have:=R1.slot 47 zd (λh=>h);rw[q47]at this;exact aaB this
      have De:=JS.cg 39 zd hb7 R1.size (by rw[R1.defers,hg];rfl) (λt ht=>cP t (by simp;omega)) rfl;clear JS eX vj hM hm he hx M fE es clock hb7 R1 cP hg q42 UC q47 JV;obtain⟨M,fE,eX,vj,hM,⟨es,clock,hm,he⟩,hx⟩:=De.st;have hz7:=De.size
      have ab7:a7.tmps[42]?=some (.bool true):=by
       have h2:a7.tmps[42]?=some (a7.tmps.getD 42 undef):=by simp[hz7]
       rw[h2,Zj]
      obtain⟨tl,AE⟩:=Fi s (s.cells.length+1-(j+1)) (j+1);rw[show j+1+(s.cells.length+1-(j+1))=s.cells.length+1 by omega,Ad]at AE
      have rE:(fl s).map dz=((eD s (s.cells.length+1)).2.map λv=>dz ((v.1:Int),(v.2:Int))):=by simp[fl,ic,eD]
      have K8:(eD s j).2.length<((fl s).map dz).length:=by
       rw[rE,AE];simp
      have Kx:((fl s).map dz)[(eD s j).2.length]=dz (((eD s j).1:Int),((j-1:Nat):Int)):=by
       have:((fl s).map dz)[(eD s j).2.length]?=some (dz (((eD s j).1:Int),((j-1:Nat):Int))):=by
        rw[rE,AE];simp
       rw[ad_ K8]at this;exact aeE this
      have ec:RD (λb j=>fE b j\/((λ_=>False) b/\j<(λ_=>0) b)) w7 ((fl s).map dz)[(eD s j).2.length] (a7.eval (.tmp 47)):=by
       rw[Kx,e47];refine .agg _ _ rfl (λi hi=>?_) (λi hi eJ=>?_)
       .match i,hi with
        |0,_|1,_=>rfl
       .match i,hi with
        |0,_|1,_=>exact .int _ _
      obtain⟨ff,tmps,Xk,bd,JZ,As⟩:=C.round K8 (λ_=>False) (λ_=>0) _ eX (λb hb=>hb.elim) ec;refine Ks rfl (by simp[Region.wanted,yielded,Et,ab7]) zr ((tv (f:=.tmp 43) (x:=.tmp 47) w7 rfl rfl rfl FU).trans JZ) As ?_;rintro e w8 ⟨WY,Pr8,IN,zm⟩
      have Zc:(eD s (j+1)).2.length=(eD s j).2.length+1:=by rw[Ad];simp
      obtain⟨b,rfl,hT,hF⟩:∃b:Bool,e=.returned (.bool b)/\(b=true->VS C s cX bM [(5,.int .i64 ((eD s j).1:Nat)),(32,.int .i64 (s.cells.length+1)),(33,.int .i64 (j:Nat)),(6,.int .i64 (j:Nat))] (py s i) (eD s (j+1)).2.length a7 w8)/\(b=false->∃M Pr,C.X M Pr w8):=by
       rcases zm with⟨rfl,hj8⟩|⟨rfl,hX8⟩
       .refine⟨true,rfl,λ_=>?_,λh=>(by cases h)⟩
        have QW:∀b,M b->w8.heap[b]?=w7.heap[b]?:=λb hb=>WY b hb (λh=>h)
        refine⟨De.size,De.defers,De.t0,De.t1,De.t3,λq hq=>?_,λb=>M b/\¬(λ_=>False) b,Pr8,by rw[Zc];exact hj8,λb hb=>?_,⟨hM,λh=>h⟩,⟨es,clock,(QW bM hM).trans hm,he⟩,hx.mono IN⟩
        .obtain⟨q1,q2,q3⟩:=De.ex q hq;exact⟨q1,q2,q3.jl q2⟩
        .have h1:=QW b hb.1;rw[aeC (vj b hb.1)]at h1;exact(aea.1 h1).1
       .exact⟨false,rfl,λh=>(by cases h),λ_=>⟨_,_,hX8⟩⟩
      refine⟨_,rfl,?_⟩;show wpOpsIn _ _ _ _ _ [10,11] (a7.put (some 48) (.bool b)) w8
      have z8:(a7.put (some 48) (.bool b)).tmps.size=54:=by rw[ld];exact hz7
      have h48:(a7.put (some 48) (.bool b)).eval (.tmp 48)=.bool b:=jj _ _ _ hz7 zd
      have h42:(a7.put (some 48) (.bool b)).tmps[42]?=some (.bool true):=by
       have h2:(a7.put (some 48) (.bool b)).tmps[42]?=some ((a7.put (some 48) (.bool b)).tmps.getD 42 undef):=by simp[z8]
       rw[h2,f_ _ _ _ _ zd,Zj]
      refine P7 rfl (by simp[Region.wanted,yielded,Et,h42]) zr (SK (x:=.tmp 48) rfl h48) ?_;show wpOpsIn _ _ _ _ _ [11] ((a7.put (some 48) (.bool b)).put (some 49) (.bool !b)) w8;have h49:((a7.put (some 48) (.bool b)).put (some 49) (.bool !b)).eval (.tmp 49)=.bool !b:=jj _ _ _ z8 zd
      have adh:((a7.put (some 48) (.bool b)).put (some 49) (.bool !b)).eval (.tmp 42)=.bool true:=by
       show Array.getD _ _ _=_;rw[f_ _ _ _ _ zd,f_ _ _ _ _ zd,Zj]
      have z9:((a7.put (some 48) (.bool b)).put (some 49) (.bool !b)).tmps.size=54:=by rw[ld];exact z8
      have hpk:∀o:Oper,o.op=.pick (.tmp 42) (.tmp 49) (.const (.bool false))->(execOp ((a7.put (some 48) (.bool b)).put (some 49) (.bool !b)).eval o).run prog w8=.ok (.value (.bool !b)) w8:=by
       intro o ho;unfold execOp;simp[ho,adh,h49,asBool]
      refine cI rfl rfl zr (hpk _ rfl) ?_;show Code.wpIn _ _ _ _ _ (((a7.put (some 48) (.bool b)).put (some 49) (.bool !b)).put (some 50) (.bool !b)) w8;refine ae7 (t:=!b) (jj _ _ _ z9 zd) ?_
      cases b with
      |true=>
       simp only[ah3,aek,aeA];exact afG (.inl ⟨rfl,(((hT rfl).put 48 _ zd rfl).put 49 _ zd rfl).put 50 _ zd rfl⟩)
      |false=>
       simp only[ahn,aeH];exact aga (.inr ⟨rfl,De.defers,hF rfl⟩)
    .rintro e a w (⟨rfl,vs⟩|⟨rfl,hd,M,fE,hX⟩)
     .show Code.wpIn _ _ _ _ _ a w
      refine vs.region hG (ac:=ah.qb Aa.qb.qb.qa.qb.qb.qb) zk zk zk [(5,.int .i64 ((eD s (j+1)).1:Nat)),(32,.int .i64 (s.cells.length+1)),(33,.int .i64 (j:Nat))] rfl ?_ λa w vs=>.inl ⟨rfl,vs⟩
      have hw:IntKind.i64.wrap ((j:Int)+1)=j+1:=bU zo;simp[c113,Aa,ah.qa,ah.qb,rY,List.lookup,hw,hf]
     .exact .inr ⟨rfl,hd,M,fE,hX⟩
  .rintro e a w (⟨rfl,vs⟩|⟨rfl,hd,M,fE,hX⟩)
   .show Code.wpIn _ _ _ _ _ a w;refine vs.region hG (ac:=ah.qb Aa.qb.qb) zk zk zk [(5,.int .i64 ((eD s (j+1)).1:Nat)),(32,.int .i64 (s.cells.length+1)),(33,.int .i64 ((j+1:Nat):Int))] rfl ?_ ?_
    .have hw:IntKind.i64.wrap ((j:Int)+1)=j+1:=bU zo;simp[c113,Aa,ah.qa,ah.qb,rY,List.lookup,hw]
    intro a5 w5 I8;have abz:a5.tmps.getD 33 undef=.int .i64 ((j+1:Nat):Int):=I8.int ah7;refine⟨⟨j+1,zo,I8⟩,?_⟩;simp only[abz,h33];simp;omega
   .change bodyPost prog f113 (λe w'=>∃v M fE,e=Ending.returned v/\(C.J (List.map dz (fl s)).length M fE w'\/C.X M fE w')) .ret a w
    refine⟨hd,.tuple #[],?_,.tuple #[],M,fE,rfl,.inr hX⟩;simp[results,results113]
 case pos=>
  simp only[aN,agK,aeH];refine afG ?_;show Code.wpIn _ _ _ _ _ a2 w2
  have hic:i<s.cells.length:=zo
  have acG:vq s i=s.cells[i].hid:=by unfold vq;rw[ad_ hic]
  refine aeq (afD ?_);obtain⟨M,Pr,hj,vj,hM,⟨es,clock,hm,he⟩,hx⟩:=vs.st
  refine my hG (GI:=GI) (p:=9) (l2:=[9]) rfl zk zk (l:=(R_.qb.qa.qb.dl).take 9) zk zd (W:=W4) zk (C.gi hj) (λb _=>b≠bM) (rY l s bM [(4,.int .i64 (i:Nat)),(17,.bool (decide (i<p)))]) vs.size vs.defers vs.jP
   (K:=λS _=>S 20=.val (Kg bM)/\S 21=.int .i64 (i:Nat)/\S 28=.bool (!vq s i)/\S 4=.int .i64 (i:Nat)) ?_ ?_
  .simp[c113,R_,ah.qa,ah.qb,ah.dl,rY,List.lookup,bh,hic,acG,gD]
  intro g S' H' a3 w3 hg R1 ⟨Vx,q21,Sr,q4⟩ cP
  have pK:Below w2.heap.size w2 w3:=by have:=R1.below;rwa [R1.base]at this
  have e20:a3.eval (.tmp 20)=.map (some bM):=by
   have:=R1.slot 20 zd (λh=>h);rw[Vx]at this;exact this.jT
  have e21:a3.eval (.tmp 21)=.int .i64 (i:Nat):=wT R1 zd q21
  have yR:a3.eval (.tmp 28)=.bool (!vq s i):=by
   have:=R1.slot 28 zd (λh=>h);rw[Sr]at this;exact this.gK
  have e4:a3.tmps.getD 4 undef=.int .i64 (i:Nat):=wT R1 zd q4
  have O5:VS C s cX bM [(4,.int .i64 (i:Nat))] (py s i) 0 a3 w3:=vs.grow pK R1.size (by rw[R1.defers,hg];rfl) (λt ht=>cP t (by simp[W4];omega)) λq hq=>by
   rw[aev]at hq;subst hq;exact⟨aed _,rfl,by rw[e4];exact .int _ _⟩
  clear vs hj vj hM hm he hx M Pr es clock pK R1 cP hg Vx q21 Sr q4;obtain⟨M,Pr,hj,vj,hM,⟨es,clock,hm,he⟩,hx⟩:=O5.st
  have hmt:prog.underlying 167=some (.map 3 4):=zk
  have ZH:prog.underlying 3=some (.int .i64):=zk
  refine fD rfl rfl zr (Ih (t:=167) (x1:=.tmp 20) (x2:=.tmp 21) (x3:=.tmp 28) rfl hmt ZH e20 e21 hm he (Ss s)) ?_;rw[yR]
  obtain⟨w4,oz⟩:∃w4,w3.putObj bM (.map (es.push { key:=.int .i64 (i:Nat),val:=.bool (!vq s i),born:=clock }) (clock+1))=w4:=⟨_,rfl⟩
  show Code.wpIn _ _ _ _ _ a3 (w3.putObj bM (.map (es.push { key:=.int .i64 (i:Nat),val:=.bool (!vq s i),born:=clock }) (clock+1)));rw[oz];have abD:=vj bM hM
  have oL:w4.heap[bM]?=some (.map (es.push { key:=.int .i64 (i:Nat),val:=.bool (!vq s i),born:=clock }) (clock+1)):=by rw[<-oz];exact ahO abD
  have BV:mY M w3 w4:=by
   rw[<-oz];exact⟨rfl,rfl,rfl,by simp[World.putObj],λb _ hb=>ahJ (by rintro rfl;exact hb hM)⟩
  have MY:w4.heap.size=w3.heap.size:=by rw[<-oz];simp[World.putObj]
  have vs4:VS C s cX bM [(4,.int .i64 (i:Nat))] (py s (i+1)) 0 a3 w4:=by
   refine⟨O5.size,O5.defers,O5.t0,O5.t1,O5.t3,λq hq=>?_,M,Pr,C.eF hj BV λb hb=>⟨by rw[MY];exact vj b hb,.inl hb⟩,λb hb=>by rw[MY];exact vj b hb,hM,⟨_,_,oL,?_⟩,hx.mono (cC.rA λb k _ hp=>BV.block b ?_ ?_)⟩
   .obtain⟨q1,q2,q3⟩:=O5.ex q hq;exact⟨q1,q2,q3.jl q2⟩
   .rw[Pb s hli];exact he.push (i:Int) (.bool (!vq s i)) clock
   .assumption
   .intro Ul;exact C.apart hj _ k Ul hp
  refine vs4.region hG (ac:=ah.qb R_.qb) zk zk zk [(4,.int .i64 ((i+1:Nat):Int))] rfl ?_ ?_
  .have hw:IntKind.i64.wrap ((i:Int)+1)=i+1:=bU zo;simp[c113,R_,ah.qa,ah.qb,rY,List.lookup,hw]
  intro a5 w5 I8;have Ur:a5.tmps.getD 4 undef=.int .i64 ((i+1:Nat):Int):=I8.int ah7;refine⟨⟨i+1,zo,zo,I8⟩,?_⟩;simp only[Ur,h4];simp;omega
end Go.Proofs.Tryz
namespace Go.Proofs.Tryz
open Go Go.AL Go.RowKit Go.Proofs Go.Proofs.Tram
attribute [local simp] aU bB bm aO aV aJ aK av az aW aw ao bO bP an ar ev aM.S aM.H bj aF bl AL.start AV.cells AV.storable AV.aZ aP bt bV bu HR.okB post bQ bG bH AV.out AV.aX aG aL fz cL AV.vw bT vI int a_ aq bD bq cd cj bZ bI aI AV.bC AV.dE
variable{GI:World->Prop}
def Yc(hG:aQ GI)(l:List Int)(hl:l.length<100000)(h:∀x∈l,0<=x/\x<=1000):AC prog GI 62 [vI l] (.ret (.int .i64 l.sum)):=by
 refine dF hG func62 ntmps62 c62 ?_;simp[c62];refine cK 8 l.length (λi S H=>S 6=vI l/\S 7=.int .i64 l.length/\S 8=.int .i64 (i:Nat)/\S 3=.int .i64 (l.take i).sum) (λi S H h=>h.2.2.1) ⟨ah7,ah7,ah7,ah7⟩ ?_;rintro i hi S H ⟨s6,s7,s8,s3⟩
 by_cases aN:i<l.length
 .have hb:=vL (l:=l.take i) λx hx=>h x (aeL hx)
  have hx:=h l[i] (ad2 aN);rw[aes]at hb;have hw:IntKind.i64.wrap ((i:Int)+1)=i+1:=bU zo;have mg:IntKind.i64.wrap ((l.take i).sum+l[i])=(l.take i).sum+l[i]:=bU zo;rw[G' aN];generalize(l.take i).sum=y at s3 mg⊢;simp[s6,s7,s8,s3,aN,hw,mg]
 .have dV:i=l.length:=zo
  subst dV;rw[afu]at s3;simp[s6,s7,s8,s3]
def kB(l:List Int)(i:Nat):Int:=l.getD i 0
def Mb(l:List Int){a b:Nat}(uT:a<=b)(hb:b<=l.length):((l.take b).drop a).sum=nw (kB l) a b:=by
 unfold nw
 congr 1
 apply afA;intro i;rw[aeK]
 by_cases hi:i<b-a
 .rw[agr,agP zo,ad_ zo,ad_ (by simpa using hi)];simp[kB,aeY,show a+i<l.length by omega]
 .rw[aez (by simp;omega),aez (by simp;omega)]
  rfl
def Tz(hG:aQ GI)(s:bf):AC prog GI 55 [cH s] (.ret (.func (.func 113) [] [.ref (bh s)])):=by
 refine AC.Hb hG d_ func55 rfl ntmps55 ah7 (ac:=c55) zk ?_;simp[c55,cH,bh,ai,cW,cQ,an,cy,ar,bD,ev,aM.S,aM.H,aF,bl,AL.start,AV.bC,AV.cells,AV.storable,bt,lD,bj,vI];refine⟨2,.func 113,[],[.box 1 0],rfl,zd,by simp[aF],?_⟩;simp[aF,fz,cL,AV.dE]
def UN:ah:=.ops [⟨(some 6),none,.alloc 26 [(.int .i64 0),(.int .i64 0)]⟩,⟨none,none,.store .any 2 (.t 6) (.t 11)⟩]
def VF : ah := .block 1 <| .seq (.ops [⟨(some 12), none, .load .any false 1 (.t 3)⟩,
    ⟨(some 13),none,.fieldAddr 0 (.t 6)⟩,
    ⟨(some 14),none,.load .any false 1 (.t 13)⟩,
    ⟨(some 15),none,.fieldAddr 1 (.t 6)⟩,
    ⟨(some 16),none,.load .any false 1 (.t 15)⟩,
    ⟨(some 17),none,.bin .add (.t 16) (.c (.int .i64 1))⟩,
    ⟨(some 18),none,.oR 1 (.t 12) (some (.t 14)) (some (.t 17))⟩,
    ⟨(some 19),none,.call 62 [(.t 18)]⟩,
    ⟨(some 7),none,.mv true (.t 19)⟩])<|
  .block 2<|.loop<|
   .seq (.seq (.ops [⟨(some 20),none,.load .any false 1 (.t 5)⟩,
     ⟨(some 21),none,.fieldAddr 15 (.t 2)⟩,
     ⟨(some 22),none,.load .any false 1 (.t 21)⟩,
     ⟨(some 23),none,.lK (.t 22)⟩,
     ⟨(some 24),none,.bin .lss (.t 20) (.t 23)⟩,
     ⟨(some 25),none,.mv false (.t 24)⟩,
     ⟨(some 26),(some (25,true)),.fieldAddr 15 (.t 2)⟩,
     ⟨(some 27),(some (25,true)),.load .any false 1 (.t 26)⟩,
     ⟨(some 28),(some (25,true)),.load .any false 1 (.t 5)⟩,
     ⟨(some 29),(some (25,true)),.indexAddr 1 (.t 27) (.t 28)⟩,
     ⟨(some 30),(some (25,true)),.load .any false 1 (.t 29)⟩,
     ⟨(some 31),(some (25,true)),.mv false (.t 7)⟩,
     ⟨(some 32),(some (25,true)),.bin .leq (.t 30) (.t 31)⟩,
     ⟨(some 33),none,.pick (.t 25) (.t 32) (.c (.bool false))⟩])<|
   .cond (.t 33)
    (.skip)
    (.exit 2))<|
   .block 3 <| .seq (.ops [⟨(some 34),none,.mv false (.t 7)⟩,
      ⟨(some 35),none,.fieldAddr 15 (.t 2)⟩,
      ⟨(some 36),none,.load .any false 1 (.t 35)⟩,
      ⟨(some 37),none,.load .any false 1 (.t 5)⟩,
      ⟨(some 38),none,.indexAddr 1 (.t 36) (.t 37)⟩,
      ⟨(some 39),none,.load .any false 1 (.t 38)⟩,
      ⟨(some 40),none,.bin .sub (.t 34) (.t 39)⟩,
      ⟨(some 7),none,.mv true (.t 40)⟩])<|
    .ops [⟨(some 41),none,.load .any false 1 (.t 5)⟩,
      ⟨(some 42),none,.bin .add (.t 41) (.c (.int .i64 1))⟩,
      ⟨none,none,.store .any 1 (.t 5) (.t 42)⟩]
def Q0:ah :=
   .seq (.seq (.ops [⟨(some 20),none,.load .any false 1 (.t 5)⟩,
     ⟨(some 21),none,.fieldAddr 15 (.t 2)⟩,
     ⟨(some 22),none,.load .any false 1 (.t 21)⟩,
     ⟨(some 23),none,.lK (.t 22)⟩,
     ⟨(some 24),none,.bin .lss (.t 20) (.t 23)⟩,
     ⟨(some 25),none,.mv false (.t 24)⟩,
     ⟨(some 26),(some (25,true)),.fieldAddr 15 (.t 2)⟩,
     ⟨(some 27),(some (25,true)),.load .any false 1 (.t 26)⟩,
     ⟨(some 28),(some (25,true)),.load .any false 1 (.t 5)⟩,
     ⟨(some 29),(some (25,true)),.indexAddr 1 (.t 27) (.t 28)⟩,
     ⟨(some 30),(some (25,true)),.load .any false 1 (.t 29)⟩,
     ⟨(some 31),(some (25,true)),.mv false (.t 7)⟩,
     ⟨(some 32),(some (25,true)),.bin .leq (.t 30) (.t 31)⟩,
     ⟨(some 33),none,.pick (.t 25) (.t 32) (.c (.bool false))⟩])<|
   .cond (.t 33)
    (.skip)
    (.exit 2))<|
   .block 3 <| .seq (.ops [⟨(some 34),none,.mv false (.t 7)⟩,
      ⟨(some 35),none,.fieldAddr 15 (.t 2)⟩,
      ⟨(some 36),none,.load .any false 1 (.t 35)⟩,
      ⟨(some 37),none,.load .any false 1 (.t 5)⟩,
      ⟨(some 38),none,.indexAddr 1 (.t 36) (.t 37)⟩,
      ⟨(some 39),none,.load .any false 1 (.t 38)⟩,
      ⟨(some 40),none,.bin .sub (.t 34) (.t 39)⟩,
      ⟨(some 7),none,.mv true (.t 40)⟩])<|
    .ops [⟨(some 41),none,.load .any false 1 (.t 5)⟩,
      ⟨(some 42),none,.bin .add (.t 41) (.c (.int .i64 1))⟩,
      ⟨none,none,.store .any 1 (.t 5) (.t 42)⟩]
def WO {s:bf} {ba:List Int} {n p_:Nat} {T:Int} (hn:∀ x∈ba,0≤x∧x≤1000) (SH:ba.length≤1000) (VT:n≤ba.length) (hT:0≤T∧T≤100000) (Ha:(eZ (ba.drop n) T).1=p_) {S:au} {H:aD} {x3:AV} {Q:eh→au→aD→Prop}
  (s2:S 2=.box 2 0) (h2:H 2=some (cV s ba)) (h3:H 3=some [x3]) (s5:S 5=.box 5 0) (h5:H 5=some [.int .i64 (n:Nat)]) (s7:S 7=.int .i64 T)
  (hQ:∀S H,H 2=some (cV s ba)->H 3=some [x3]->H 5=some [.int .i64 ((n+p_:Nat):Int)]->Q (.exit 2) S H):cW prog GI (.loop Q0) Q S H:=by
 have AE:p_<=ba.length-n:=by rw[<-Ha];have:=wQ (ba.drop n) T;simpa using this
 refine⟨λS H=>∃m:Nat,m<=p_/\S 2=.box 2 0/\H 2=some (cV s ba)/\H 3=some [x3]/\S 5=.box 5 0/\H 5=some [.int .i64 ((n+m:Nat):Int)]/\S 7=.int .i64 (T-((ba.drop n).take m).sum)/\T-((ba.drop n).take m).sum<=T/\0<=T-((ba.drop n).take m).sum,
  λS H=>match H 5 with|some [.int _ j]=>(ba.length-j).toNat|_=>0,⟨0,ae2 _,s2,h2,h3,s5,h5,by simpa using s7,ah7,by simpa using hT.1⟩,?_⟩
 clear h5 h3 h2 s2 s5 s7 S H;rintro S H ⟨m,hm,s2,h2,h3,s5,h5,s7,pn,jo⟩;have pc:=yS (ba.drop n) T m zo;rw[agA]at pc
 have QV:p_=m+(eZ (ba.drop (n+m)) (T-((ba.drop n).take m).sum)).1:=by
  rw[<-Ha,pc]
 obtain⟨left,aaP⟩:∃left,T-((ba.drop n).take m).sum=left:=⟨_,rfl⟩
 rw[aaP]at QV s7 pn jo
 have h5':H 5=some [.int .i64 ((n:Int)+m)]:=by rw[h5];simp
 by_cases Db:n+m<ba.length
 case neg=>
  have Zm:(eZ (ba.drop (n+m)) left).1=0:=by
   have:=wQ (ba.drop (n+m)) left;simp at this;omega
  have U4:¬((n:Int)+m<ba.length):=zo
  have Zo:p_=m:=zo
  subst Zo;have hq:=hQ;simp[Q0,cV,bh,ai,s2,h2,h3,s5,h5,s7,Db,U4];refine hq _ _ ?_ ?_ ?_
  .rw[h2]
  .rw[h3]
  .rw[h5]
 have hd:ba.drop (n+m)=ba[n+m]::ba.drop (n+m+1):=afT Db;have hx:=hn ba[n+m] (ad2 Db)
 have U4:(n:Int)+m<ba.length:=zo
 have vC:(0:Int)<=(n:Int)+m:=zo
 have WE:((n:Int)+m).toNat=n+m:=zo
 by_cases hle:ba[n+m]<=left
 case neg=>
  have Zm:(eZ (ba.drop (n+m)) left).1=0:=by rw[hd,eZ,if_neg hle]
  have Zo:p_=m:=zo
  subst Zo;simp[Q0,cV,bh,ai,s2,h2,h3,s5,h5,s7,Db,U4,vC,WE,hle];refine hQ _ _ ?_ ?_ ?_
  .rw[h2]
  .rw[h3]
  .rw[h5]
 case pos=>
  have Zs:m+1<=p_:=by rw[hd,eZ,if_pos hle]at QV;omega
  have qk:IntKind.i64.wrap (left-ba[n+m])=left-ba[n+m]:=bU zo;have mg:IntKind.i64.wrap ((n:Int)+m+1)=n+m+1:=bU zo
  have Z':T-((ba.drop n).take (m+1)).sum=left-ba[n+m]:=by
   rw[aec (by simp;omega),afz];simp;omega
  simp[Q0,cV,bh,ai,s2,h2,h3,s5,h5,s7,Db,U4,vC,WE,hle,qk,mg];refine⟨⟨m+1,Zs,zo,by rw[Z'],zo,zo⟩,zo⟩
def nT(s:bf)(ba dK:List Int)(k:Nat):Nat:=gX ba (kB dK) ((ic (ij s) s.cells.length).take k)
def TY (hG:aQ GI) (s:bf) (h:jx s) (ba:List Int) (hn:∀ x∈ba,0≤x∧x≤1000) (SH:ba.length≤1000) (dK:List Int) (hr:dK.length=s.cells.length) (zu:∀ x∈dK,0≤x∧x≤1000) :
  AC prog GI 59 [eM s ba,vI dK] (.ret (.int .i64 (gX ba (kB dK) (ic (ij s) s.cells.length)))):=by
 have XK:=h.cells
 refine AC.j7 func59 rfl ntmps59 ah7 λcc w=>?_
 refine eR hG c59.qa (λS' H'=>S' 2=.box 2 0/\H' 2=some (cV s ba)/\S' 3=.box 3 0/\H' 3=some [vI dK]) ?_ ?_
 .simp[c59,ah.qa,eM,cV,bh,ai]
 rintro S1 H1 ⟨s2,h2,s3,h3⟩;refine eR hG c59.qb.qa (λS' H'=>S' 2=.box 2 0/\H' 2=some (cV s ba)/\S' 3=.box 3 0/\H' 3=some [vI dK]/\S' 5=.box 5 0/\H' 5=some [.int .i64 0]) ?_ ?_
 .simp[c59,ah.qa,ah.qb,cV,bh,ai,s2,h2,s3,h3]
  try rfl
 clear s2 h2 s3 h3;rintro S2 H2 ⟨s2,h2,s3,h3,s5,h5⟩;refine SW.seq (eR hG c59.qb.qb.qa.qa (λS' H'=>S' 2=.box 2 0/\H' 2=some (cV s ba)/\S' 3=.box 3 0/\H' 3=some [vI dK]/\S' 5=.box 5 0/\H' 5=some [.int .i64 0]/\S' 10=.func (.func 113) [] [.ref (bh s)]) ?_ ?_)
 .simp[c59,ah.qa,ah.qb,cV,bh,ai,s2,h2,s3,h3,s5,h5];refine oc (Tz hG s) ?_;simp[s2,h2,s3,h3,s5,h5,cV,bh,ai]
  try rfl
 clear s2 h2 s3 h3 s5 h5;rintro S3 H3 ⟨s2,h2,s3,h3,s5,h5,cE⟩
 have Gs:qm (λd=>d==6) (S3 2)=.box 2 0:=by rw[s2];rfl
 have W0:qm (λd=>d==6) (S3 3)=.box 3 0:=by rw[s3];rfl
 have rm:qm (λd=>d==6) (S3 5)=.box 5 0:=by rw[s5];rfl
 refine SW.block (SW.range hG d_ (Ph:=.tmp 10) (y:=.t 10) (p:=11) (f:=113) (caps:=[.ref (bh s)]) (xs:=(fl s).map dz) rfl cE zk rfl (PM hG s h) zd (λx hx=>by obtain⟨e,_,rfl⟩:=aew.1 hx;rfl)
  (λd=>d==6) (aa:=UN) (ab:=VF) zk zk (by simp[UN,ah.names,db.j5,fg.j5]) (by simp[VF,ah.names,db.j5,fg.j5]) (λ_ _ h=>h) zk zk
  (λk H'=>H' 2=some (cV s ba)/\H' 3=some [vI dK]/\H' 5=some [.int .i64 (nT s ba dK k:Nat)]) (λ_ _=>False) ⟨h2,h3,by rw[h5];rfl⟩ ?_ ?_ ?_)
 .rintro k hk H' ⟨h2,h3,h5⟩
  have dp:k<(ic (ij s) s.cells.length).length:=by simpa[fl]using hk
  obtain⟨f,t,Zg⟩:∃f t,(ic (ij s) s.cells.length)[k]=(f,t):=⟨_,_,rfl⟩
  have Kx:((fl s).map dz)[k]=.agg [.int .i64 (f:Nat),.int .i64 (t:Nat)]:=by simp[fl,Zg,dz]
  have iX:ij s s.cells.length=false:=by
   have:=h.pos;unfold ij
   have:¬s.cells.length<s.pos.toNat:=zo
   simp[this]
  have df:=(GQ iX).1 (f,t) (by rw[<-Zg];exact ad2 dp);simp only at df;obtain⟨adM,adO⟩:=df;have hw:IntKind.i64.wrap ((t:Int)+1)=t+1:=bU zo;have xE:=Mb dK (a:=f) (b:=t+1) zo zo;have nq:=Yc hG ((dK.take (t+1)).drop f) (by simp;omega) (λx hx=>zu x (aeL (agf hx)));have hT0:=vL (l:=(dK.take (t+1)).drop f) (λx hx=>zu x (aeL (agf hx)))
  have hTl:((dK.take (t+1)).drop f).length<=12:=by simp;omega
  have ni:nT s ba dK (k+1)=nT s ba dK k+(eZ (ba.drop (nT s ba dK k)) (nw (kB dK) f (t+1))).1:=by
   unfold nT;rw[aec dp,Zg,sU]
  rw[<-xE]at ni;have VT:nT s ba dK k<=ba.length:=Bc _ _ _;rw[Kx];generalize hTT:((dK.take (t+1)).drop f).sum=T at nq hT0 ni;generalize nT s ba dK k=n at ni VT h5
  have i1:((t:Int)+1).toNat=t+1:=zo
  have i2:t+1<=dK.length:=zo
  have i3:f<=t+1:=zo
  have j1:(f:Int)<=(t:Int)+1:=zo
  have j2:(t:Int)+1<=dK.length:=zo
  have xw:List.drop f (List.take (t+1) (ints dK))=ints (List.drop f (List.take (t+1) dK)):=by simp[ints,ahr,af1]
  have dG:br 1 (ints dK)=true:=rR _;simp[UN,VF,cV,bh,ai,Gs,h2,W0,h3,rm,h5,hw,i1,i2,i3,j1,j2,bound,xw,dG];refine oc nq ?_;simp[cV,bh,ai,Gs,h2,W0,h3,rm,h5]
  obtain⟨p_,Ha⟩:∃p_,(eZ (ba.drop n) T).1=p_:=⟨_,rfl⟩
  rw[Ha]at ni
  have AE:p_<=ba.length-n:=by rw[<-Ha];have:=wQ (ba.drop n) T;simpa using this
  refine WO (s:=s) (x3:=vI dK) hn SH VT ⟨hT0.1,zo⟩ Ha (by simp[Gs]) (by simp[aF,h2]) (by simp[aF,h3]) (by simp[rm]) (by simp[aF,h5]) (by simp[aF]) ?_;intro S H q2 q3 q5;simp only[bq,aeH,tS];refine⟨?_,?_,?_⟩
  .rw[q2];rfl
  .rw[q3];rfl
  .rw[q5,ni]
 .rintro D H' hD ⟨h2,h3,h5⟩;show SW prog GI 44 none (.seq _ .ret) _ _ _ _
  have qp:nT s ba dK ((fl s).map dz).length=gX ba (kB dK) (ic (ij s) s.cells.length):=by
   unfold nT;rw[aee (by simp[fl])]
  rw[qp]at h5;refine eR hG c59.qb.qb.qb.qa (λS' _=>S' 4=.int .i64 (gX ba (kB dK) (ic (ij s) s.cells.length))) ?_ ?_
  .simp[c59,ah.qa,ah.qb,rm,h5]
  intro S4 H4 s4;refine SW.ret ⟨(e_.plain rfl).mark hD,rfl,_,?_,rfl⟩;show bQ prog 44 [.tmp 4] S4 H4=_;simp[bQ,bG,bH,s4,AV.aX,AV.out]
  try rfl
 .exact λ_ _ _ _ _ h=>h.elim
def I1(l:List End):AV:=.slice (if l.isEmpty then .nil else .own 26) (l.map dz)
def qX(l:List End):AV:=.slice (if l.isEmpty then .nil else .view) (l.map dz)
def JL(s:bf):AV:=.func (.func 113) [] [.ref (bh s)]
noncomputable def Ku:ah:=.ops [⟨some 5,none,.alloc 26 [(.int .i64 0),(.int .i64 0)]⟩,⟨none,none,.store .any 2 (.t 5) (.t 7)⟩]
noncomputable def Jj:ah:=.block 1<|.ops [⟨some 8,none,.loadT .any (.t 2)⟩,⟨some 9,none,.load .any true 2 (.t 5)⟩,⟨some 10,none,.buildSlice 52 26 2 [.t 9]⟩,⟨some 11,none,.append 52 26 2 16 (.t 8) (.t 10)⟩,⟨none,none,.store .any 1 (.t 2) (.t 11)⟩]
def ZM (hG:aQ GI) (s:bf) {ps:List End} (hlen:ps.length≤1000000) (hit:yT prog GI 113 [.ref (bh s)] (ps.map dz)) :
  AC prog GI 112 [.slice .nil [],JL s] (.ret (qX ps)):=by
 refine AC.j7 func112 rfl ntmps112 ah7 λcc w=>?_
 refine eR hG c112.qa (λS' H'=>S' 1=JL s/\S' 2=.box 2 0/\H' 2=some [.slice .nil []]) ?_ ?_
 .simp[c112,JL,ah.qa,cW,cQ,an,cy,ar,ev,aM.S,aM.H,aF,bl,AL.start,AV.bC,AV.cells,AV.storable,bt,lD,bj,vI,dz,aq]
 rintro S1 H1 ⟨s1,s2,h2⟩;refine SW.seq (eR hG c112.qb.qa.qa (λS' H'=>S' 2=.box 2 0/\S' 6=JL s/\H' 2=some [.slice .nil []]) ?_ ?_)
 .simp[c112,JL,ah.qa,ah.qb,cW,cQ,an,cy,ar,ev,aM.S,aM.H,aF,bl,s2,h2,aq,AV.bC]
  rw[s1]<;>rfl
 rintro S3 H3 ⟨s2,s6,h2⟩
 refine SW.block (SW.range hG d_ (Ph:=.tmp 6) (y:=.t 6) (p:=7) (f:=113) (caps:=[.ref (bh s)]) (xs:=ps.map dz) rfl s6 zk rfl hit zd (λx hx=>by obtain⟨e,_,rfl⟩:=aew.1 hx;rfl)
  (λd=>d==5) (aa:=Ku) (ab:=Jj)
  zk zk (by simp[Ku,ah.names,db.j5,fg.j5]) (by simp[Jj,ah.names,db.j5,fg.j5]) (λ_ _ h=>h) zk zk
  (λk H'=>H' 2=some [I1 (ps.take k)]) (λ_ _=>False) h2 ?_ ?_ ?_)
 .rintro k hk H' h2
  have dp:k<ps.length:=by simpa using hk
  have Kx:(ps.map dz)[k]=dz ps[k]:=ah7
  have qp:ps.take (k+1)=ps.take k++[ps[k]]:=by rw[aec dp]
  have Gs:qm (λd=>d==5) (S3 2)=.box 2 0:=by rw[s2]<;>rfl
  rw[Kx,qp]
  have hL:(List.take k ps).length<=1000000:=by simp;omega
  generalize List.take k ps=L at hL h2⊢
  cases L with
  |nil=>simp[Ku,Jj,Gs,h2,dz,tS,I1,br,HR.okB,aP]
  |cons x L=>
   have pq:L.length+1+1<1048576:=by simp at hL;omega
   have df:br 2 (dz x::L.map dz)=true:=by simp[br,vI,dz,AV.storable,AV.cells]
   simp[Ku,Jj,Gs,h2,dz,tS,I1,br,HR.okB,aP,pq]
 .rintro D H' hD h2;show SW prog GI 13 none (.seq _ .ret) _ _ _ _
  have Gs:qm (λd=>d==5) (S3 2)=.box 2 0:=by rw[s2]<;>rfl
  have qp:List.take (ps.map dz).length ps=ps:=aee ah7;rw[qp]at h2;refine eR hG c112.qb.qb.qa (λS' _=>S' 4=qX ps) ?_ ?_
  .cases ps<;>simp[c112,ah.qa,ah.qb,cW,cQ,an,cy,ar,ev,aM.S,aM.H,aF,bl,bu,Gs,h2,HR.okB,aq,I1,qX,AV.bC,bj]
  intro S4 H4 s4;refine SW.ret ⟨(e_.plain rfl).mark hD,rfl,_,?_,rfl⟩;show bQ prog 13 [.tmp 4] S4 H4=_;simp[bQ,bG,bH,s4,qX,AV.aX,AV.out]
 .exact λ_ _ _ _ _ h=>h.elim
def Yq(hG:aQ GI)(s:bf){ps:List End}(hlen:ps.length<=1000000)(hit:yT prog GI 113 [.ref (bh s)] (ps.map dz)):AC prog GI 54 [JL s] (.ret (qX ps)):=by
 refine AC.j7 func54 rfl ntmps54 ah7 λcc w=>?_
 refine eR hG c54.qa (λS' H'=>S' 0=JL s) ?_ ?_
 .simp[c54,JL,ah.qa,cW,cQ,an,cy,ar,ev,aM.S,aM.H,aF,bl,AL.start,AV.bC,aq,bj]
 intro S1 H1 s0
 refine SW.seq (SW.hand hG (p:=1) (lm:=[1]) (l2:=[2]) (lh:=[_]) (oh:=[_]) (oA:=[_]) rfl rfl rfl rfl zk (λ_ h=>h)
  (po:=(c54.qb.qa.dl).take 1) (ox:=(c54.qb.qa.dl).drop 2) zk zk zk zk
  (K1:=λS _=>S 3=JL s) (K2:=λo S _=>o=Old.plain cc w/\S 4=qX ps) (K3:=λo S _=>o=Old.plain cc w/\S 2=qX ps) ?_ ?_ ?_ ?_)
 .simp[c54,ah.qa,ah.qb,ah.dl,cQ,an,cy,ar,aM.S,aM.H,ev,aF,bl]
  rw[s0]<;>rfl
 .rintro w0 g S2 H2 a w' m dI ho R s3;have r3:=R.slot 3 zd id;rw[s3]at r3
  refine il rfl rfl zr (ia (k:=112) (args:=#[.slice none 0 0,a.tmps.getD 3 undef]) w' rfl rfl ?_ zk) (ZM hG s hlen hit w' (gz g false) #[.slice none 0 0,a.tmps.getD 3 undef] (hG w0 w' dI (by have:=R.below;rwa [R.base]at this)) rfl (λi h h'=>by
   match i,h with
   |0,_=>exact .data _ _ (.jm _)
   |1,_=>exact(r3.dW rfl).mono (cC.same λb k _ hp=>.inl hp) λ_ _ h=>h)) ?_
  .simp only[aeN,aer,aeF,Act.eval]
  rintro e w2 ⟨jo,hi,rI,c,rfl,Qr,dX⟩;refine⟨_,rfl,?_⟩;obtain⟨g',q1,q2,R'⟩:=R.call (some 4) (λt ht=>by cases ht;exact⟨zd,id⟩) false jo rI Qr dX (λh=>by cases h);exact⟨g',_,_,R',q2.trans ho,bX _ _ _⟩
 .rintro o S2 H2 ⟨rfl,s4⟩;refine⟨λ_ h=>h,?_⟩
  cases ps<;>simp[c54,ah.qa,ah.qb,ah.dl,cQ,an,cy,ar,aM.S,aM.H,ev,aF,bl,s4,qX,bj]
 .rintro o S2 H2 ⟨rfl,s2⟩;refine SW.ret ⟨e_.plain rfl,rfl,_,?_,rfl⟩;show bQ prog 5 [.tmp 2] S2 H2=_;simp[bQ,bG,bH,s2,qX,AV.aX,AV.out]
def DM(s:bf):∀i,(eD s i).2.length<=i
 |0=>aed _
 |i+1=>by
  have ih:=DM s i;rw[qe];unfold fy;split
  .omega
  .simp only;split
   .simp;omega
   .omega
def BP(s:bf):(fl s).length<=s.cells.length+1:=by
 have:=DM s (s.cells.length+1);simpa[fl,ic,eD]using this
def J1(s:bf):List AV:=if eb s then[.slice .view (ct (fl s)),.int .i64 0]else[.slice .view [],.int .i64 2]
def ac3(hG:aQ GI)(s:bf)(hs:gY s):AC prog GI 18 [cH s] (.ret (.ea (J1 s))):=by
 have qo:=tf hG s hs;unfold J1
 cases hI:eb s with
 |false=>
  rw[hI]at qo;refine dF hG func18 ntmps18 c18 ?_;simp[c18,cH,bh,ai];refine oc qo ?_;simp
 |true=>
  rw[hI]at qo;have hg:=i_ hI;have MD:=Tz hG s;have tX:=Yq hG s (ps:=fl s) (by have:=BP s;have:=hg.cells;omega) (PM hG s hg);have tX:=AC.nB (o:=if(fl s).isEmpty then .nil else .view) tX;refine dF hG func18 ntmps18 c18 ?_;simp[c18,cH,bh,ai];refine oc qo ?_;simp;refine oc MD ?_;simp;refine⟨_,zk,tX,by simp[bT,sW],?_⟩;simp[ct]
def abc(hG:aQ GI)(a b:End):AC prog GI 66 [dz a,dz b] (.ret (.bool (decide (a.2<b.2)))):=by
 refine dF hG func66 ntmps66 c66 ?_;simp[c66,dz]
def mR(x:End)(l:List End):End:=l.foldl (λo y=>if y.2<o.2 then y else o) x
def J8(x:End)(l:List End){i:Nat}(h:i<l.length):mR x (l.take (i+1))=if l[i].2<(mR x (l.take i)).2 then l[i]else mR x (l.take i):=by
 unfold mR;rw[agY,ad_ h,aff]
 rfl
def adt(hG:aQ GI)(x:End)(l:List End)(hl:l.length<1000000):AC prog GI 65 [.slice .view (ct (x::l)),.func (.func 66) [] []] (.ret (dz (mR x l))):=by
 obtain⟨iT,VN,VI⟩:=iZ 103 2;obtain⟨fs,fw⟩:=uZ 103;have df:br 2 (ct (x::l))=true:=vW (x::l);refine dF hG func65 ntmps65 c65 ?_;refine aY (λS H=>S 0=.slice .view (ct (x::l))/\S 1=.func (.func 66) [] []/\S 4=.box 4 0/\H 4=some [.int .i64 0,.int .i64 0]) ah7 ?_;rintro S H ⟨s0,s1,s4,h4⟩;refine aY (λS H=>S 0=.slice .view (ct (x::l))/\S 1=.func (.func 66) [] []/\S 4=.box 4 0/\H 4=some [.int .i64 0,.int .i64 0]/\S 5=.box 5 0/\H 5=some [.int .i64 x.1,.int .i64 x.2]) (by simp[s0,s1,s4,h4,ct,dz,cD]) ?_;clear s0 s1 s4 h4 S H;rintro S H ⟨s0,s1,s4,h4,s5,h5⟩
 have hd:(ct (x::l)).drop 1=ct l:=by simp[ct]
 have hlen:(ct (x::l)).length=l.length+1:=by simp[ct]
 have Bw:(1:Int)<=(l.length:Int)+1:=zo
 have qp:List.take (l.length+1) (ct (x::l))=ct (x::l):=aee zo;generalize ct (x::l)=L at s0 hd hlen qp df
 have TJ:((l.length:Int)+1).toNat=l.length+1:=zo
 simp[bound,s0,s1,s4,h4,s5,h5,hd,hlen,Bw,qp,df,TJ];refine cK 14 l.length (λi S H=>S 1=.func (.func 66) [] []/\S 4=.box 4 0/\H 4=some [.int .i64 0,.int .i64 0]/\S 5=.box 5 0/\H 5=some [.int .i64 (mR x (l.take i)).1,.int .i64 (mR x (l.take i)).2]/\S 12=.slice .view (ct l)/\S 13=.int .i64 l.length/\S 14=.int .i64 (i:Nat)) (λi S H h=>h.2.2.2.2.2.2.2) ⟨by simp[s1],by simp[s4],by simp[h4],by simp[s5],by simp[h5,mR],ah7,by simp[ct],ah7⟩ ?_;clear s0 s1 s4 h4 s5 h5 S H;rintro i hi S H ⟨s1,s4,h4,s5,h5,dN,dY,eQ⟩
 by_cases aN:i<l.length
 .have hw:IntKind.i64.wrap ((i:Int)+1)=i+1:=bU zo
  have hn:¬(i:Int)<0:=zo
  have hs:=J8 x l aN;have Ya:=abc hG l[i] (mR x (l.take i))
  generalize mR x (l.take i)=o at*
  by_cases hc:l[i].2<o.2
  .rw[if_pos hc]at hs;rw[hs];simp[s1,s4,h4,s5,h5,dN,dY,eQ,aN,hn,ct,dz,cD];refine oc Ya ?_;simp[s1,s4,h4,s5,h5,dN,dY,eQ,hc,hw,ct,dz]
  .rw[if_neg hc]at hs;rw[hs]
   have wP:o.2<=l[i].2:=zo
   simp[s1,s4,h4,s5,h5,dN,dY,eQ,aN,hn,ct,dz,cD];refine oc Ya ?_;simp[s1,s4,h4,s5,h5,dN,dY,eQ,hc,wP,hw,ct,dz]
 .have dV:i=l.length:=zo
  subst dV;rw[afu]at h5;simp[s1,s4,h4,s5,h5,dN,dY,eQ,VN,VI,fw,ef,dz]
def Rq{a:Act}{w:World}{o:Oper}{x:Operand}{t ty:TypeId}{n:Nat}(ho:o.op=.binOp .shr t x (.const (.int .u64 1)) ty)(hx:a.eval x=.int .u64 (n:Nat)):(execOp a.eval o).run prog w=.ok (.value (.int .u64 ((n/2:Nat):Int))) w:=by
 unfold execOp;have hc:a.eval (.const (.int .u64 1))=.int .u64 1:=rfl
 have hf:((n:Int)).fdiv 2=((n/2:Nat):Int):=by
  rw[Int.fdiv_eq_ediv_of_nonneg _ zd];omega
 simp[ho,hx,hc,Go.binOp,Op.shift,eqGuard,IntKind.bits,hf]
def TN{x:Int}(h:0<=x/\x<1000000000):IntKind.u64.wrap x=x:=by
 unfold IntKind.wrap;simp[IntKind.bits,IntKind.signed];omega
noncomputable def qz:ah:=ah.qb c63.qb.qb.qa.qb
def ack (hG:aQ GI) {n:Nat} (hn:n < 100000) (k:Nat) (u v x:List AV) (hk:eU prog k=true) {p:Nat→Bool} (hm:∀ x y,x≤y→p x=true→p y=true) (h:∀ y:Nat,y < n→AC prog GI k [.int .i64 (y:Nat),.ref u,.ref v,.ref x] (.ret (.bool (p y)))) {m:Nat} (hl:rU p n m) :
  AC prog GI 63 [.int .i64 (n:Nat),.func (.func k) [] [.ref u,.ref v,.ref x]] (.ret (.int .i64 (m:Nat))):=by
 refine AC.j7 func63 rfl ntmps63 ah7 λcc w=>?_
 refine eR hG c63.qa (λS H=>S 0=.int .i64 (n:Nat)/\S 1=.func (.func k) [] [.ref u,.ref v,.ref x]) ?_ ?_
 .simp[c63,ah.qa]
 rintro S1 H1 ⟨s0,s1⟩;refine eR hG c63.qb.qa (λS H=>S 1=.func (.func k) [] [.ref u,.ref v,.ref x]/\S 5=.int .i64 ((0:Nat):Int)/\S 6=.int .i64 (n:Nat)) ?_ ?_
 .simp[c63,ah.qa,ah.qb,s0,s1]
 clear s0 s1;rintro S2 H2 ⟨s1,s5,s6⟩;show SW prog GI 26 none (.seq (.block 0 (.loop _)) (.seq _ .ret)) _ _ _ _;refine SW.seq (SW.block (SW.loop (λo S H=>∃i j:Nat,o=Old.plain cc w/\i<=j/\j<=n/\(∀y,y<i->p y=false)/\(∀y,j<=y->y<n->p y=true)/\S 1=.func (.func k) [] [.ref u,.ref v,.ref x]/\S 5=.int .i64 (i:Nat)/\S 6=.int .i64 (j:Nat)) (λS _=>match S 5,S 6 with|.int _ i,.int _ j=>(j-i).toNat|_,_=>0) ⟨0,n,rfl,ae2 _,aed _,λy hy=>absurd hy zo,λy h1 h2=>absurd h1 zo,s1,s5,s6⟩ ?_));clear s1 s5 s6;rintro o S3 H3 ⟨i,j,rfl,th,yk,vv,AU,s1,s5,s6⟩;have m5:=s5;have m6:=s6;show SW prog GI 26 none (.seq (.seq _ (.cond _ _ _)) (.block 1 (.seq _ (.seq _ (.cond _ _ _))))) _ _ _ _;refine SW.seq (eR hG qz.qa.qa (λS H=>S 1=.func (.func k) [] [.ref u,.ref v,.ref x]/\S 5=.int .i64 (i:Nat)/\S 6=.int .i64 (j:Nat)/\S 11=.bool (decide (i<j))) ?_ ?_)
 .simp[c63,qz,ah.qa,ah.qb,s1,s5,s6]
 clear s1 s5 s6;rintro S4 H4 ⟨s1,s5,s6,cG⟩
 by_cases aN:i<j
 case neg=>
  refine SW.cond rfl false (by show S4 11=_;rw[cG];simp[aN]) (SW.exit ?_)
  have gL:i=j:=zo
  subst gL;have him:i=m:=rU.unique (k:=n) (p:=p) ⟨yk,vv,λh=>AU i (aed _) h⟩ hl;subst him;show SW prog GI 26 none (.seq _ .ret) _ _ _ _;refine eR hG c63.qb.qb.qb.qa (λS H=>S 4=.int .i64 (i:Nat)) ?_ ?_
  .simp[c63,ah.qa,ah.qb,s5]
  intro S5 H5 s4;refine SW.ret ⟨e_.plain rfl,rfl,_,?_,rfl⟩;show bQ prog 26 [.tmp 4] S5 H5=_;simp[bQ,bG,bH,s4,AV.aX,AV.out]
 refine SW.cond rfl true (by show S4 11=_;rw[cG];simp[aN]) (SW.skip ?_);show SW prog GI 26 none (.block 1 (.seq _ (.seq _ (.cond _ _ _)))) _ _ _ _;obtain⟨g1,g2,g3⟩:=W2 hm aN vv
 obtain⟨q,hq⟩:∃q,(i+j)/2=q:=⟨_,rfl⟩
 rw[hq]at g1 g2 g3
 have qk:IntKind.i64.wrap ((i:Int)+j)=((i+j:Nat):Int):=by rw[bU zo];omega
 have mg:IntKind.u64.wrap ((i+j:Nat):Int)=((i+j:Nat):Int):=TN zo
 have ach:IntKind.u64.wrap ((i:Int)+j)=((i+j:Nat):Int):=by rw[TN zo];omega
 have pB:IntKind.i64.wrap (q:Nat)=(q:Nat):=bU zo
 refine SW.block (SW.seq (SW.hand hG (p:=4) (lm:=[4]) (l2:=[5,6]) (lh:=[_,_,_,_]) (oh:=[_]) (oA:=[_,_]) rfl rfl rfl rfl zk (λ_ h=>h)
  (po:=(qz.qb.qb.qa.dl).take 4) (ox:=(qz.qb.qb.qa.dl).drop 5) zk zk zk zk
  (K1:=λS H=>S 1=.func (.func k) [] [.ref u,.ref v,.ref x]/\S 5=.int .i64 (i:Nat)/\S 6=.int .i64 (j:Nat)/\S 15=.int .u64 ((i+j:Nat):Int))
  (K2:=λo S H=>o=Old.plain cc w/\S 1=.func (.func k) [] [.ref u,.ref v,.ref x]/\S 5=.int .i64 (i:Nat)/\S 6=.int .i64 (j:Nat)/\S 16=.int .u64 (q:Nat))
  (K3:=λo S H=>o=Old.plain cc w/\S 1=.func (.func k) [] [.ref u,.ref v,.ref x]/\S 5=.int .i64 (i:Nat)/\S 6=.int .i64 (j:Nat)/\S 7=.int .i64 (q:Nat)) ?_ ?_ ?_ ?_))
 .simp[c63,qz,ah.qa,ah.qb,ah.dl,s1,s5,s6,qk,mg,ach]
 .rintro w0 g S5 H5 a w' m dI ho R ⟨s1,s5,s6,kc⟩
  have IP:a.eval (.tmp 15)=.int .u64 ((i+j:Nat):Int):=by
   have t15:=R.slot 15 zd (λh=>h);rw[kc]at t15;exact t15.int_eq
  refine cI rfl rfl zr (Rq rfl IP) ?_;rw[hq];exact⟨_,_,_,R.put 16 (.int .u64 (q:Nat)) _ zd (.data _ _ (.int _ _)) trivial,ho,by simp[aF,s1],by simp[aF,s5],by simp[aF,s6],by simp[aF]⟩
 .rintro o S5 H5 ⟨rfl,s1,s5,s6,gk⟩;refine⟨λ_ h=>h,?_⟩;simp[c63,qz,ah.qa,ah.qb,ah.dl,s1,s5,s6,gk,pB]
 clear s1 s5 s6 cG;rintro o S5 H5 ⟨rfl,s1,s5,s6,s7⟩;show SW prog GI 26 none (.seq _ (.cond _ _ _)) _ _ _ _;have hc:=h q zo;refine eR hG qz.qb.qb.qb.qa (λS H=>S 1=.func (.func k) [] [.ref u,.ref v,.ref x]/\S 5=.int .i64 (i:Nat)/\S 6=.int .i64 (j:Nat)/\S 7=.int .i64 (q:Nat)/\S 21=.bool (!p q)) ?_ ?_
 .simp[c63,qz,ah.qa,ah.qb,s1,s5,s6,s7];refine⟨_,hk,hc,by simp[bT,sW],?_⟩;simp[s1,s5,s6,s7]
 clear s1 s5 s6 s7;rintro S6 H6 ⟨s1,s5,s6,s7,jH⟩
 cases hp:p q with
 |true=>
  refine SW.cond rfl false (by show S6 21=_;rw[jH,hp]<;>rfl) ?_;refine SW.last hG d_ zk (ac:=ah.qb qz.qb.qb.qb.qb) zk (λ_ _ h=>h) (λS H=>S 1=.func (.func k) [] [.ref u,.ref v,.ref x]/\S 5=.int .i64 (i:Nat)/\S 6=.int .i64 (q:Nat)) ?_ ?_
  .simp[c63,qz,ah.qa,ah.qb,s1,s5,s6,s7]
  rintro S7 H7 ⟨s1,s5,s6⟩;refine⟨⟨i,q,rfl,g1,zo,vv,λy JZ hy2=>hm q y JZ hp,s1,s5,s6⟩,?_⟩;show(match S7 5,S7 6 with|.int _ i,.int _ j=>(j-i).toNat|_,_=>0)<(match S3 5,S3 6 with|.int _ i,.int _ j=>(j-i).toNat|_,_=>0);rw[s5,s6,m5,m6];simp only;omega
 |false=>
  refine SW.cond rfl true (by show S6 21=_;rw[jH,hp]<;>rfl) ?_
  have oz:IntKind.i64.wrap ((q:Int)+1)=((q+1:Nat):Int):=by rw[bU zo];omega
  refine SW.last hG d_ zk (ac:=ah.qa qz.qb.qb.qb.qb) zk (λ_ _ h=>h) (λS H=>S 1=.func (.func k) [] [.ref u,.ref v,.ref x]/\S 5=.int .i64 ((q+1:Nat):Int)/\S 6=.int .i64 (j:Nat)) ?_ ?_
  .simp[c63,qz,ah.qa,ah.qb,s1,s5,s6,s7,oz]
  rintro S7 H7 ⟨s1,s5,s6⟩;refine⟨⟨q+1,j,rfl,zo,yk,g3 hp,AU,s1,s5,s6⟩,?_⟩;show(match S7 5,S7 6 with|.int _ i,.int _ j=>(j-i).toNat|_,_=>0)<(match S3 5,S3 6 with|.int _ i,.int _ j=>(j-i).toNat|_,_=>0);rw[s5,s6,m5,m6];simp only;omega
def Rl{P:Program}{x y:ah}{Q:eh->au->aD->Prop}{S:au}{H:aD}(K:au->aD->Prop)(hx:cW P GI x (bD K Q) S H)(hy:∀S' H',K S' H'->cW P GI y Q S' H'):cW P GI (.seq x y) Q S H:=
 gx x (nZ (λS H h=>hy S H h) (λ_ _ _ h=>h)) hx
def Bz{P:Program}{K:au->aD->Prop}{Qp:AV->Prop}{l2:List db}:∀(l1:List db)(S:au)(H:aD),cQ P GI l1 (cQ P GI l2 K Qp) Qp S H->cQ P GI (l1++l2) K Qp S H
 |[],S,H,h=>h
 |o::rest,S,H,h=>by
  simp only[List.cons_append,cQ]at h⊢;split at h
  .exact qg (λS H=>Bz rest S H) (λ_ h=>h) h
  .exact Bz rest _ _ h
  .exact h
def rO{P:Program}{l:List db}{K:au->aD->Prop}{Qp:AV->Prop}{S:au}{H:aD}(n:Nat)(I:au->aD->Prop)(h1:cQ P GI (l.take n) I Qp S H)(h2:∀S H,I S H->cQ P GI (l.drop n) K Qp S H):cQ P GI l K Qp S H:=by
 rw[<-afa n l];exact Bz _ _ _ (tO h2 (λ_ h=>h) _ _ _ h1)
def EP(hG:aQ GI)(n lo hi:Int):AC prog GI 34 [.int .i64 n,.int .i64 lo,.int .i64 hi] (.ret (.bool (ee n lo hi))):=by
 refine dF hG func34 ntmps34 c34 ?_
 by_cases h1:lo<=n<;>by_cases h2:n<=hi<;>simp[c34,ee,h1,h2]
def adf(hG:aQ GI)(n:Int):AC prog GI 36 [.int .i64 n] (.ret (.bool (ee n 1 12))):=by
 refine dF hG func36 ntmps36 c36 ?_;simp[c36];refine oc (EP hG n 1 12) ?_;simp
def abH(hG:aQ GI)(n:Int):AC prog GI 37 [.int .i64 n] (.ret (.bool (ee n 1 9))):=by
 refine dF hG func37 ntmps37 c37 ?_;simp[c37];refine oc (EP hG n 1 9) ?_;simp
def ac1(hG:aQ GI)(n:Int):AC prog GI 38 [.int .i64 n] (.ret (.bool (ee n 0 9))):=by
 refine dF hG func38 ntmps38 c38 ?_;simp[c38];refine oc (EP hG n 0 9) ?_;simp
def abX(hG:aQ GI)(s:bf)(n:Int):AC prog GI 35 [cH s,.int .i64 n] (.ret (.bool (ee n 1 s.cells.length))):=by
 refine dF hG func35 ntmps35 c35 ?_;simp[c35,cH,bh,ai];refine oc (EP hG n 1 s.cells.length) ?_;simp
def ac9(hG:aQ GI)(s:bf)(hs:gY s):AC prog GI 9 [cH s] (.ret (.bool (eb s))):=by
 refine dF hG func9 ntmps9 c9 ?_;refine aY (λS H=>S 1=.box 1 0/\H 1=some (bh s)) (by simp[cH,bh,ai]) ?_;rintro S H ⟨s1,h1⟩;refine Rl (λS H=>S 1=.box 1 0/\H 1=some (bh s)/\s.cells.any kK=false) ?_ ?_
 .simp[s1,h1,bh,ai];refine cK 3 s.cells.length (λi S H=>S 1=.box 1 0/\H 1=some (bh s)/\S 3=.int .i64 (i:Nat)/\∀j (h:j<s.cells.length),j<i->kK s.cells[j]=false) (λi S H h=>h.2.2.1) ⟨by simp[s1],by simp[h1,bh,ai],ah7,ah7⟩ ?_;clear s1 h1 S H;rintro i hi S H ⟨s1,h1,s3,hb⟩
  by_cases aN:i<s.cells.length
  .have hw:IntKind.i64.wrap ((i:Int)+1)=i+1:=bU (by have:=hs.cells;omega)
   have hn:¬(i:Int)<0:=zo
   have wP:¬(s.cells.length:Int)<=i:=zo
   have Yw:kK s.cells[i]=true->eb s=false:=λh=>by
    have:s.cells.any kK=true:=afC.2 ⟨_,ad2 aN,h⟩;simp[eb,this]
   simp[s1,h1,s3,aN,hn,wP,gD,bh,ai];refine oc (EP hG _ _ _) ?_;cases e1:ee s.cells[i].lo 1 20
   .have hr:=Yw (by simp[kK,e1]);simp[s1,h1,s3,hr]
   simp[s1,h1,s3,aN,hn,wP,gD,bh,ai];refine oc (EP hG _ _ _) ?_;cases e2:ee s.cells[i].hi s.cells[i].lo 20
   .have hr:=Yw (by simp[kK,e2]);simp[s1,h1,s3,hr]
   simp[s1,h1,s3,hw,aN,bh,ai];intro j hj gL
   by_cases e:j=i
   .subst e;simp[kK,e1,e2]
   .exact hb j hj zo
  .have dV:i=s.cells.length:=zo
   subst dV
   have ha:s.cells.any kK=false:=by
    rw[<-oq,lC λj hj=>hb j hj hj];simp
   simp[s1,h1,s3,ha,bh,ai]
   all_goals (intro x hx;obtain⟨j,hj,rfl⟩:=ae5 hx;exact hb j hj hj)
 clear s1 h1 S H;rintro S H ⟨s1,h1,ha⟩;simp only[aU];refine rO 4 (λS H=>S 1=.box 1 0/\H 1=some (bh s)/\S 41=.bool (ee s.cells.length 1 12)) ?_ ?_
 .simp[s1,h1,bh,ai];refine oc (EP hG s.cells.length 1 12) ?_;simp[s1,h1,bh,ai]
 have hT:eb s=(((((ee s.cells.length 1 12&&ee s.pos 1 s.cells.length)&&ee s.reach 1 12)&&ee s.fh 1 9)&&ee s.eF 0 9)&&cN s.name):=by
  simp[eb,ha]
 rw[hT];clear hT;generalize ee s.cells.length 1 12=b1;rintro S1 H1 ⟨s1,h1,Qs⟩;refine rO 6 (λS H=>S 1=.box 1 0/\H 1=some (bh s)/\S 47=.bool (b1&&ee s.pos 1 s.cells.length)) ?_ ?_
 .cases b1
  .simp[s1,h1,Qs]
  .simp[s1,h1,Qs,bh,ai];refine oc (abX hG s s.pos) ?_;simp[s1,h1,Qs,bh,ai]
 generalize(b1&&ee s.pos 1 s.cells.length)=b2;clear s1 h1 Qs;rintro S2 H2 ⟨s1,h1,BI⟩;refine rO 5 (λS H=>S 1=.box 1 0/\H 1=some (bh s)/\S 52=.bool (b2&&ee s.reach 1 12)) ?_ ?_
 .cases b2
  .simp[s1,h1,BI]
  .simp[s1,h1,BI,bh,ai];refine oc (adf hG s.reach) ?_;simp[s1,h1,BI,bh,ai]
 generalize(b2&&ee s.reach 1 12)=b3;clear s1 h1 BI;rintro S3 H3 ⟨s1,h1,DP⟩;refine rO 5 (λS H=>S 1=.box 1 0/\H 1=some (bh s)/\S 57=.bool (b3&&ee s.fh 1 9)) ?_ ?_
 .cases b3
  .simp[s1,h1,DP]
  .simp[s1,h1,DP,bh,ai];refine oc (abH hG s.fh) ?_;simp[s1,h1,DP,bh,ai]
 generalize(b3&&ee s.fh 1 9)=b4;clear s1 h1 DP;rintro S4 H4 ⟨s1,h1,Sy⟩;refine rO 5 (λS H=>S 1=.box 1 0/\H 1=some (bh s)/\S 62=.bool (b4&&ee s.eF 0 9)) ?_ ?_
 .cases b4
  .simp[s1,h1,Sy]
  .simp[s1,h1,Sy,bh,ai];refine oc (ac1 hG s.eF) ?_;simp[s1,h1,Sy,bh,ai]
 generalize(b4&&ee s.eF 0 9)=b5;clear s1 h1 Sy;rintro S5 H5 ⟨s1,h1,s62⟩;cases b5
 .simp[s1,h1,s62]
 .simp[s1,h1,s62,bh,ai];refine oc (acg hG s.name hs.name) ?_;simp[s1,h1,s62]
def RL(a b:End):(a.1=b.1/\a.2=b.2)↔a=b:=by
 obtain⟨a1,a2⟩:=a;obtain⟨b1,b2⟩:=b;simp
def aa'(hG:aQ GI)(a b:List End)(ha:a.length<1000000):AC prog GI 31 [.slice .view (a.map dz),.slice .view (b.map dz)] (.ret (.bool (a==b))):=by
 refine dF hG func31 ntmps31 c31 ?_
 by_cases hl:a.length=b.length
 case neg=>
  have pk:((a.length:Int)!=b.length)=true:=by simp;omega
  have dR:(a==b)=false:=by
   rw[aeO];intro e;exact hl (by rw[e])
  simp[c31,pk,dR]
 have pk:((a.length:Int)!=b.length)=false:=by simp;omega
 simp[c31,pk];refine cK 5 a.length (λi S H=>S 0=.slice .view (a.map dz)/\S 1=.slice .view (b.map dz)/\S 5=.int .i64 (i:Nat)/\∀j (hj:j<a.length),j<i->a[j]=b[j]' zo) (λi S H h=>h.2.2.1) ⟨ah7,ah7,ah7,λj _ h=>absurd h (ahi _)⟩ ?_;rintro i hi S H ⟨s0,s1,s5,hb⟩
 by_cases aN:i<a.length
 case neg=>
  have he:(a==b)=true:=by
   rw[aeS]
   exact ag6 hl λj h1 h2=>hb j h1 zo
  have hn:¬(i:Int)<a.length:=zo
  simp[s0,s1,s5,hn,he]
 have hw:IntKind.i64.wrap ((i:Int)+1)=i+1:=bU zo
 have Fc:i<b.length:=zo
 by_cases he:a[i]=b[i]
 .simp[s0,s1,s5,aN,Fc,hw,he,dz,FC];intro j hj gL
  by_cases e:j=i
  .subst e;exact he
  .exact hb j hj zo
 .have dR:(a==b)=false:=by
   rw[aeO];intro e;subst e;exact he rfl
  have pF:¬(a[i].1=b[i].1/\a[i].2=b[i].2):=λh=>he ((RL _ _).1 h)
  have jo:([a[i].1,a[i].2]!=[b[i].1,b[i].2])=true:=by
   rw[agU];intro e;simp at e;exact pF e
  simp[s0,s1,s5,aN,Fc,dz,FC,dR,jo]
end Go.Proofs.Tryz
namespace Go.Proofs.Tryz
open Go Go.AL Go.RowKit Go.Proofs Go.Proofs.Tram
variable{GI:World->Prop}
def uz(a:Act)(d:Nat)(c c':Value):(a.put (some d) c).put (some d) c'=a.put (some d) c':=by
 simp[Act.put]
def Q7(s:bf):(AV.agg (bh s)).vw=.agg (bh s):=by simp[AV.vw,bh,ai,AV.dE,vI]
def MU{Pr:Nat->Nat->Prop}{w:World}{n:Int}{c:Value}(h:RD Pr w (sE n) c):c=.iface 131 (.agg #[.int .i64 n]):=by
 unfold sE at h
 cases h with
 |iface _ _ c h=>
  cases h with
  |agg _ vs hl h1 hr=>
   obtain⟨u,rfl⟩:=tg (vs:=vs) (by rw[<-hl];rfl);have:=hr 0 ah7 ah7;have:=(RV.data (al:=dW) _ _ this).int_eq;simp only[List.getElem_toArray,List.getElem_cons_zero]at this;rw[this]
section
variable{w0:World}{n:Nat}{g:Gh}{S:au}{H:aD}{a:Act}{w:World}{d i2 i6:Nat}{s:bf}{z:List AV}
def vn (hG:aQ GI) (dI:GI w0) (R:Rel prog w0 n dh g S H a w) (hd:d < n) (zy:i2 < n) (Gq:i6 < n) (Gb:d≠i6)
  (xq:S i2=.box i2 0) (yr:H i2=some (bh s)) (FW:S i6=.box i6 0) (IA:H i6=some z) {R':Ending->World->Prop}
  (h:∀(c1:Value)(g1:Gh),g1.old=g.old->Rel prog w0 n dh g1 (aF S d (.agg (bh s))) H (a.put (some d) c1) w->GI w->RV (gz g1 false) (λ_=>none) w (cH s) c1->∀(b6:Nat),a.tmps.getD i6 undef=.pointer (some ⟨b6,0,none⟩)->
   ∃RR:Ending->World->Prop,Calls prog 69 #[c1] w RR/\∀en w2,RR en w2->match en with
    |.returned v=>∀ (aC:Act) (o:Oper),aC.eval (.tmp 1) = .pointer (some ⟨b6,0,none⟩)→aC.eval (.tmp 3)=v→o.op = .store 87 (.tmp 1) (.tmp 3) →
      ∃w3,((execOp aC.eval o).run prog w2=.ok .skip w3\/∃u,(execOp aC.eval o).run prog w2=.ok (.value u) w3)/\R' (.returned (.tuple #[])) w3
    |.panicked ch=>R' (.panicked ch) w2
    |.outgrown=>False):
  Calls prog 111 #[a.tmps.getD i2 undef,a.tmps.getD i6 undef] w R':=by
 obtain⟨b2,ox,e2⟩:=n_ R zy xq;obtain⟨b6,al6,e6⟩:=n_ R Gq FW;have cM:=R.size;have vB:=R.below;rw[R.base]at vB;have ib:GI w:=hG w0 w dI vB;obtain⟨i40,abA,abG⟩:=iZ 31 15;obtain⟨fs,fw⟩:=uZ 31
 have kI:ar S H (.load .any (ef (.struct fs)) i40.size (.t i2))=some { v:=.agg (bh s) }:=by
  simp[ar,ev,xq,yr,HR.okB,abG,ef,bu,bh,ai,AV.bC,vI]
 obtain ⟨c1,w1,g1,eA,nL,sL,R1⟩:=EY R (o:={ dst:=some d,op := .load 31 (.tmp i2),type:=0,pos := "",after := #[],guard:=none }) (x := .tmp i2) (y := .t i2) rfl (λt ht=>by cases ht;exact ⟨hd,id⟩) abA fw (by simp [ep,zy]) (λ_ _=>id) kI
 have qk:w1=w:=by
  rcases eA with eA|⟨eA,_⟩
  .exact(sn (P:=prog) zr eA).1
  .obtain⟨_,v,hv⟩:=sn (P:=prog) zr eA;cases hv
 subst qk
 have aaS:(execOp a.eval { dst:=some d,op := .load 31 (.tmp i2),type:=0,pos := "",after := #[],guard:=none }).run prog w1 = .ok (.value c1) w1:=by
  rcases eA with eA|⟨eA,_⟩
  .exact eA
  .obtain⟨_,v,hv⟩:=sn (P:=prog) zr eA;cases hv
 have Tl:Rel prog w0 n dh g1 (aF S d (.agg (bh s))) H (a.put (some d) c1) w1:=R1
 have adl:∀(a:Act)(d:Nat)(c:Value),d<a.tmps.size->(a.put (some d) c).tmps.getD d undef=c:=λa d c h=>by
  simp[Act.put,h]
 have lE:RV (gz g1 false) (λ_=>none) w1 (cH s) c1:=by
  have h1:=Tl.slot d hd id;rw[bX,adl a d c1 zo]at h1;have:=Tl.cL h1 false (by simp[sW]);have e:Go.AL.cL H (.agg (bh s))=.agg (bh s):=Q7 s;rw[e]at this;exact this
 obtain⟨RR,nq,Ou⟩:=h c1 g1 sL Tl ib lE b6 e6;rw[e2,e6];refine agi func111 rfl ?_;refine(gl (m:=0)).1 ?_;refine iS (λa=>a.tmps.size=4/\a.defers=[]/\a.tmps.getD 0 undef=.pointer (some ⟨b2,0,none⟩)/\a.tmps.getD 1 undef=.pointer (some ⟨b6,0,none⟩)) ⟨by simp[ntmps111],rfl,dQ _ _ 0 ah7,dQ _ _ 1 ah7⟩ ?_;rintro aC ⟨zC,dC,t0,t1⟩
 have jj:∀(a:Act)(d:Nat)(c:Value),a.tmps.size=4->d<4->(a.put (some d) c).tmps.getD d undef=c:=λa d c h hd=>by
  simp[Act.put,h,hd]
 have f_:∀(a:Act)(d t:Nat)(c:Value),t≠d->(a.put (some d) c).tmps.getD t undef=a.tmps.getD t undef:=λa d t c h=>by
  simp[Act.put,aem (ae0 h)]
 refine aeG ?_;show wpOpsIn _ _ _ _ _ [0,1,2] aC w1
 have ON:∀o:Oper,o.op=.load 31 (.tmp 0)->(execOp aC.eval o).run prog w1=.ok (.value c1) w1:=by
  intro o ho;have h1:aC.eval (.tmp 0)=a.eval (.tmp i2):=t0.trans e2.symm;rw[<-aaS];unfold execOp;simp only[ho,h1]
 refine cI rfl rfl zr (ON _ rfl) ?_;show wpOpsIn _ _ _ _ _ [1,2] (aC.put (some 2) c1) w1;refine p7 rfl rfl zr (ia (k:=69) (args:=#[c1]) w1 rfl rfl ?_ zk) nq ?_
 .simp only[aeN,aer,aeF];show #[(aC.put (some 2) c1).tmps.getD 2 undef]=_;rw[jj _ _ _ zC zd]
 rintro en w2 Xb;have:=Ou en w2 Xb
 cases en with
 |returned v=>
  show wpOpsIn _ _ _ _ _ [2] ((aC.put (some 2) c1).put (some 3) v) w2
  obtain ⟨w3,hr3,FL⟩:=this ((aC.put (some 2) c1).put (some 3) v) { dst:=none,op := .store 87 (.tmp 1) (.tmp 3),type:=0,pos := "",after := #[],guard:=none }
   (by show((aC.put (some 2) c1).put (some 3) v).tmps.getD 1 undef=_;rw[f_ _ _ _ _ zd,f_ _ _ _ _ zd];exact t1)
   (by show((aC.put (some 2) c1).put (some 3) v).tmps.getD 3 undef=_;exact jj _ _ _ (by simpa[Act.put]using zC) zd) rfl
  have fin:∀u:Value,((aC.put (some 2) c1).put (some 3) v).defers=[]/\∃v',(results f111 ((aC.put (some 2) c1).put (some 3) v).tmps).run prog w3=.ok v' w3/\R' (.returned v') w3:=λu=>⟨dC,.tuple #[],by simp[results,results111],FL⟩
  have eB:∀ o:Oper,o.op = .store 87 (.tmp 1) (.tmp 3)->(execOp ((aC.put (some 2) c1).put (some 3) v).eval o).run prog w2=(execOp ((aC.put (some 2) c1).put (some 3) v).eval { dst:=none,op := .store 87 (.tmp 1) (.tmp 3),type:=0,pos := "",after := #[],guard:=none }).run prog w2:=by
   intro o ho;unfold execOp;simp only[ho]
  rcases hr3 with hr|⟨u,hr⟩
  .exact fD rfl rfl zr ((eB _ rfl).trans hr) (fin undef)
  .exact cI rfl rfl zr ((eB _ rfl).trans hr) (fin u)
 |panicked ch=>exact⟨dC,this⟩
 |outgrown=>exact this.elim
def Rx (hG:aQ GI) (dI:GI w0) (R:Rel prog w0 n dh g S H a w) (hd:d < n) (zy:i2 < n) (Gq:i6 < n) (Gb:d≠i6)
  (xq:S i2=.box i2 0) (yr:H i2=some (bh s)) (FW:S i6=.box i6 0) (IA:H i6=some z) (hz:z.length=16) {ns:List Int} (tX:AC prog GI 69 [cH s] (.ret (eM s ns))):
  Calls prog 111 #[a.tmps.getD i2 undef,a.tmps.getD i6 undef] w λe w2=>e=.returned (.tuple #[])/\∃(c:Value)(g':Gh)(S':au)(H':aD),g'.old=g.old/\Rel prog w0 n dh g' S' H' (a.put (some d) c) w2/\(∀t,t≠d->S' t=S t)/\H'=aF H i6 (some (cV s ns)):=by
 refine vn hG dI R hd zy Gq Gb xq yr FW IA λc1 g1 oy R1 ib lE b6 e6=>?_
 refine⟨_,tX w (gz g1 false) #[c1] ib rfl (λi h h'=>by
  match i,h with
  |0,_=>exact lE),?_⟩
 rintro en w2 ⟨jo,hi,rI,c,rfl,Qr,dX⟩;intro aC o q1 q3 ho;obtain⟨g',nL,sL,R2⟩:=R1.call (some d) (λt ht=>by cases ht;exact⟨hd,id⟩) false jo rI Qr dX (λh=>by cases h);rw[uz]at R2
 have WA:∀t,t≠d->bl (aF S d (.agg (bh s))) (some d) (eM s ns) t=S t:=λt ht=>by simp[AL.bl,aF,ht]
 obtain⟨i100,yw,yZ⟩:=iZ 87 16
 have pc:aP z 0 ((cV s ns).map AV.bC)=cV s ns:=by
  have:(cV s ns).map AV.bC=cV s ns:=by simp[cV,bh,ai,vI,AV.bC]
  rw[this];simp[aP,hz,cV,bh,ai]
 have kI:ar (bl (aF S d (.agg (bh s))) (some d) (eM s ns)) H (.store .any i100.size (.t i6) (.t d))=some { v:=a_,dm:=some d,hw:=some (i6,cV s ns) }:=by
  show ar (bl (aF S d (.agg (bh s))) (some d) (.agg (cV s ns))) H (.store .any i100.size (.t i6) (.t d))=_;have e1:ev (bl (aF S d (.agg (bh s))) (some d) (.agg (cV s ns))) (.t i6)=.box i6 0:=(WA i6 (ae0 Gb)).trans FW
  have e2:ev (bl (aF S d (.agg (bh s))) (some d) (.agg (cV s ns))) (.t d)=.agg (cV s ns):=by simp[ev,AL.bl,aF]
  have hl:(cV s ns).length=16:=by simp[cV,bh,ai]
  simp only[ar,e1,e2,IA,HR.okB];simp[AV.cells,AV.storable,yZ,hl,hz,bj,pc,AV.aZ]
 obtain ⟨c2,w3,g3,eA,UA,FO,R3⟩:=nW R2 (o:={ dst:=none,op := .store 87 (.tmp i6) (.tmp d),type:=0,pos := "",after := #[],guard:=none }) (x1 := .tmp i6) (x2 := .tmp d) (y1 := .t i6) (y2 := .t d) (hr := .any) rfl rfl yw (by simp [ep,Gq]) (by simp [ep,hd]) (λ_ _=>id) (λ_ _=>id) kI;have cM:=R.size
 have f6:(a.put (some d) c).eval (.tmp i6)=.pointer (some ⟨b6,0,none⟩):=by
  show(a.put (some d) c).tmps.getD i6 undef=_;rw[<-e6];simp[Act.put,aem Gb]
 have fd:(a.put (some d) c).eval (.tmp d)=c:=by
  show(a.put (some d) c).tmps.getD d undef=_;simp[Act.put,cM,hd]
 have cP:(execOp aC.eval o).run prog w2=(execOp (a.put (some d) c).eval { dst:=none,op := .store 87 (.tmp i6) (.tmp d),type:=0,pos := "",after := #[],guard:=none }).run prog w2:=by
  unfold execOp;simp only[ho,q1,q3,f6,fd]
 refine⟨w3,?_,rfl,c,g3,_,_,by rw[FO,sL,oy],R3,λt ht=>?_,rfl⟩
 .rcases eA with eA|⟨eA,_⟩
  .exact .inr ⟨_,cP.trans eA⟩
  .exact .inl (cP.trans eA)
 .rw[<-WA t ht];simp[aM.S,AL.bl,aF,ht]
def Pz (hG:aQ GI) (dI:GI w0) (R:Rel prog w0 n dh g S H a w) (hd:d < n) (zy:i2 < n) (Gq:i6 < n) (Gb:d≠i6)
  (xq:S i2=.box i2 0) (yr:H i2=some (bh s)) (FW:S i6=.box i6 0) (IA:H i6=some z) {k:Int} (tX:AC prog GI 69 [cH s] (.panic (sE k))):
  Calls prog 111 #[a.tmps.getD i2 undef,a.tmps.getD i6 undef] w λe w2=>e=.panicked [{ v:=.iface 131 (.agg #[.int .i64 k]),recovered:=false }]/\Below w.heap.size w w2:=by
 refine vn hG dI R hd zy Gq Gb xq yr FW IA λc1 g1 oy R1 ib lE b6 e6=>?_
 refine⟨_,tX w (gz g1 false) #[c1] ib rfl (λi h h'=>by
  match i,h with
  |0,_=>exact lE),?_⟩
 rintro en w2 ⟨jo,hi,rI,c,rfl,ec⟩;have hc:=MU ec;subst hc;exact⟨rfl,jo⟩
def uL(R:Rel prog w0 n dh g S H a w):g.old.cg w.heap.size=none:=by
 cases h:g.old.cg w.heap.size with
 |none=>rfl
 |some o=>
  have:=(aea.1 (R.kept _ o h).2.1).1;omega
def V2 (hG:aQ GI) (dI:GI w0) (R:Rel prog w0 n dh g S H a w) (hd:d < n) (zy:i2 < n) (Gq:i6 < n) (Gb:d≠i6)
  (xq:S i2=.box i2 0) (yr:H i2=some (bh s)) (FW:S i6=.box i6 0) (IA:H i6=some z) (hz:z.length=16) {ns:List Int} (tX:AC prog GI 69 [cH s] (.ret (eM s ns))):
  Calls prog 40 #[.func (.func 111) #[] #[a.tmps.getD i2 undef,a.tmps.getD i6 undef]] w λe w2=>e=.returned (.int .i64 0)/\∃(c:Value)(g':Gh)(S':au)(H':aD),g'.old=g.old/\Rel prog w0 n dh g' S' H' (a.put (some d) c) w2/\(∀t,t≠d->S' t=S t)/\H'=aF H i6 (some (cV s ns)):=by
 have R1:=R.o9 (.cells #[.int .i64 0] 34);have zv:=uL R;refine nH zk (Rx hG dI R1 hd zy Gq Gb xq yr FW IA hz tX) ?_;rintro e w2 ⟨rfl,c,g',S',H',ho,R2,rX,vz⟩
 have hk:g'.old.cg w.heap.size=some (.cells #[.int .i64 0] 34):=by rw[ho];exact bX _ _ _
 have lI:=(R2.kept _ _ hk).2.1;have aN:=(aea.1 lI).1;refine⟨aN,⟨_,_,lI⟩,.inl ⟨_,rfl,rfl,c,_,S',H',?_,(R2.uM w.heap.size).kG ?_,rX,vz⟩⟩
 .show({ g'.old with cg:=aF g'.old.cg w.heap.size none }:Old)=_;rw[ho]
  have:aF (aF g.old.cg w.heap.size (some (.cells #[.int .i64 0] 34))) w.heap.size none=g.old.cg:=by
   funext b
   by_cases hb:b=w.heap.size
   .subst hb;simp[aF,zv]
   .simp[aF,hb]
  show({ g.old with cg:=aF (aF g.old.cg w.heap.size (some (.cells #[.int .i64 0] 34))) w.heap.size none }:Old)=_;rw[this]
 .refine⟨rfl,rfl,rfl,ah7,λk dp=>?_⟩
  by_cases hb:k=w.heap.size
  .subst hb;rw[afV w2 _ _ _ _ _ lI,lI]
  .exact afm w2 _ k _ hb
def RM (hG:aQ GI) (dI:GI w0) (R:Rel prog w0 n dh g S H a w) (hd:d < n) (zy:i2 < n) (Gq:i6 < n) (Gb:d≠i6)
  (xq:S i2=.box i2 0) (yr:H i2=some (bh s)) (FW:S i6=.box i6 0) (IA:H i6=some z) {k:Int} (tX:AC prog GI 69 [cH s] (.panic (sE k))):
  Calls prog 40 #[.func (.func 111) #[] #[a.tmps.getD i2 undef,a.tmps.getD i6 undef]] w λe w2=>e=.returned (.int .i64 7)/\∃g',g'.old=g.old/\Rel prog w0 n dh g' S H a w2:=by
 have R1:=R.o9 (.cells #[.int .i64 0] 34);have zv:=uL R;refine nH zk (Pz hG dI R1 hd zy Gq Gb xq yr FW IA tX) ?_;rintro en w2 ⟨rfl,jo⟩;have R2:=R1.kG jo;have hk:aF g.old.cg w.heap.size (some (.cells #[.int .i64 0] 34)) w.heap.size=some (.cells #[.int .i64 0] 34):=bX _ _ _;have lI:=(R2.kept _ _ hk).2.1;have aN:=(aea.1 lI).1;refine⟨aN,⟨_,_,lI⟩,.inr (.inl ⟨k,rfl,λw3 pK=>⟨rfl,?_⟩⟩)⟩;have R3:=R2.kG pK;have DC:=(R3.kept _ _ hk).2.1;have R4:=R3.o_ hk (.cells #[.int .i64 7] 34);rw[oF w3 DC];refine⟨_,?_,R4.uM w.heap.size⟩
 have:aF (aF (aF g.old.cg w.heap.size (some (.cells #[.int .i64 0] 34))) w.heap.size (some (.cells #[.int .i64 7] 34))) w.heap.size none=g.old.cg:=by
  funext b
  by_cases hb:b=w.heap.size
  .subst hb;simp[aF,zv]
  .simp[aF,hb]
 show({ g.old with cg:=aF (aF (aF g.old.cg w.heap.size (some (.cells #[.int .i64 0] 34))) w.heap.size (some (.cells #[.int .i64 7] 34))) w.heap.size none }:Old)=_;rw[this]
end
end Go.Proofs.Tryz
namespace Go.Proofs.Tryz
open Go Go.AL Go.RowKit Go.Proofs Go.Proofs.Tram
attribute [local simp] aU bB bm aO aV aJ aK av az aW aw ao bO bP an ar ev aM.S aM.H bj aF bl AL.start AV.cells AV.storable AV.aZ aP bt bV bu HR.okB post bQ bG bH AV.out AV.aX aG aL fz cL AV.vw bT vI int a_ aq bD bq cd cj bZ bI aI AV.bC AV.dE
variable{GI:World->Prop}
def zT:bf:=⟨[],0,0,0,0,⟨[],[],0,0,0,0,0,[],0,0⟩⟩
def fH(s:bf)(b:Bool):List AV:=
 if b then(match kU s.name with|some es=>[eM s (dw s es),.int .i64 0]|none=>[eM zT [],.int .i64 7])else[eM zT [],.int .i64 2]
def mb:List AV:=[.slice .nil [],.int .i64 0,.int .i64 0,.int .i64 0,.int .i64 0,.slice .nil [],.slice .nil [],.int .i64 0,.int .i64 0,.int .i64 0,.int .i64 0,.int .i64 0,.slice .nil [],.int .i64 0,.int .i64 0,.slice .nil []]
def MB(hG:aQ GI)(s:bf):AC prog GI 53 [cH s,.bool false] (.ret (.ea [eM zT [],.int .i64 2])):=by
 obtain⟨i100,yw,yZ⟩:=iZ 87 16;obtain⟨fs,fw⟩:=uZ 87;refine dF hG func53 ntmps53 c53 ?_;simp[c53,cH,bh,ai,cD,yw,yZ,fw,ef,eM,cV,zT]
 try rfl
def E6(hG:aQ GI)(s:bf)(hs:gY s):AC prog GI 53 [cH s,.bool (eb s)] (.ret (.ea (fH s (eb s)))):=by
 cases hI:eb s with
 |false=>exact MB hG s
 |true=>
 have FI:=i_ hI
 refine AC.j7 func53 rfl ntmps53 ah7 λcc w=>?_
 refine eR hG c53.qa (λS' H'=>S' 1=.bool true/\S' 2=.box 2 0/\H' 2=some (bh s)/\S' 4=.box 4 0/\H' 4=some mb) ?_ ?_
 .simp[c53,ah.qa,cH,bh,ai,mb]
 rintro S1 H1 ⟨s1,s2,h2,s4,h4⟩;refine SW.seq (eR hG c53.qb.qa.qa (λS' H'=>S' 9=.bool false/\S' 2=.box 2 0/\H' 2=some (bh s)/\S' 4=.box 4 0/\H' 4=some mb) ?_ ?_)
 .simp[c53,ah.qa,ah.qb,s1,s2,h2,s4,h4]
 clear s1 s2 h2 s4 h4;rintro S2 H2 ⟨s9,s2,h2,s4,h4⟩;refine SW.cond rfl false (by show S2 9=_;rw[s9]) (SW.skip ?_);show SW prog GI 15 none (.seq _ (.seq _ (.seq _ .ret))) _ _ _ _;refine eR hG c53.qb.qb.qa (λS' H'=>S' 2=.box 2 0/\H' 2=some (bh s)/\S' 4=.box 4 0/\H' 4=some mb/\S' 6=.box 6 0/\H' 6=some mb) ?_ ?_
 .simp[c53,ah.qa,ah.qb,s2,h2,s4,h4,mb]
 clear s9 s2 h2 s4 h4;rintro S3 H3 ⟨s2,h2,s4,h4,s6,h6⟩
 obtain ⟨l,e,hle,hO,oJ⟩:∃ (l:List AV) (e:Int),l.length=16∧fH s true=[(AV.agg (l.map AV.bC)).vw,.int .i64 e] ∧
   ∀(w0:World)(g:Gh)(S:au)(H:aD)(a:Act)(w:World),GI w0->Rel prog w0 15 dh g S H a w->S 2=.box 2 0->H 2=some (bh s)->S 6=.box 6 0->H 6=some mb->
    Calls prog 40 #[.func (.func 111) #[] #[a.tmps.getD 2 undef,a.tmps.getD 6 undef]] w λen w2=>en=.returned (.int .i64 e)/\∃(c:Value)(g':Gh)(S':au)(H':aD),g'.old=g.old/\Rel prog w0 15 dh g' S' H' (a.put (some 12) c) w2/\(∀t,t≠12->S' t=S t)/\H'=aF H 6 (some l):=by
  cases iG:kU s.name with
  |some es=>
   refine⟨cV s (dw s es),0,by simp[cV,bh,ai],?_,λw0 g S H a w dI R q2 Pj q6 Xd=>V2 hG dI R zd zd zd zd q2 Pj q6 Xd rfl (Wf hG s hs FI iG)⟩;simp[fH,iG,eM,cV,bh,ai,vI,AV.bC,AV.vw,AV.dE]
  |none=>
   refine⟨mb,7,rfl,?_,λw0 g S H a w dI R q2 Pj q6 Xd=>(RM hG dI R (d:=12) zd zd zd zd q2 Pj q6 Xd (Mt hG s hs FI iG)).mono ?_⟩
   .simp[fH,iG,eM,cV,bh,ai,zT,mb,vI,ints,AV.bC,AV.vw,AV.dE]
   .rintro en w2 ⟨rfl,g',Bt,R'⟩;refine⟨rfl,undef,g',aF S 12 .cT,H,Bt,R'.put 12 .cT undef zd (.cT _) trivial,λt ht=>b_ _ _ ht,?_⟩
    funext k
    by_cases hk:k=6
    .subst hk;rw[bX];exact Xd
    .rw[b_ _ _ hk]
 rw[hO]
 refine SW.seq (SW.hand hG (p:=0) (lm:=[0,1]) (l2:=[2]) (lh:=[]) (oh:=[_,_]) (oA:=[_]) rfl rfl rfl rfl zk (λ_ h=>h) (po:=[]) (ox:=(c53.qb.qb.qb.qa.dl).drop 2) rfl zk rfl zk
  (K1:=λS' H'=>S' 2=.box 2 0/\H' 2=some (bh s)/\S' 4=.box 4 0/\H' 4=some mb/\S' 6=.box 6 0/\H' 6=some mb)
  (K2:=λo S' H'=>o=Old.plain cc w/\S' 4=.box 4 0/\H' 4=some mb/\S' 6=.box 6 0/\H' 6=some l/\S' 12=.int .i64 e)
  (K3:=λo S' H'=>o=Old.plain cc w/\S' 4=.box 4 0/\H' 4=some mb/\S' 6=.box 6 0/\H' 6=some l/\S' 7=.int .i64 e) ⟨s2,h2,s4,h4,s6,h6⟩ ?_ ?_ ?_)
 .rintro w0 g S5 H5 a w5 m dI ho R ⟨s2,h2,s4,h4,s6,h6⟩;have cM:=R.size;refine cI rfl rfl zr (nt (fn:=.func 111) (c:=#[.tmp 2,.tmp 6]) rfl) ?_
  obtain⟨fv,mK⟩:∃fv:Value,fv=.func (.func 111) #[] (#[Operand.tmp 2,.tmp 6].map a.eval):=⟨_,rfl⟩
  show wpOpsIn _ _ _ _ _ [1] (a.put (some 11) (.func (.func 111) #[] (#[Operand.tmp 2,.tmp 6].map a.eval))) w5;rw[<-mK];have R1:=R.put 11 .cT fv zd (.cT _) trivial
  obtain⟨a1,ov⟩:∃a1,a.put (some 11) fv=a1:=⟨_,rfl⟩
  rw[ov]at R1⊢
  have vS:fv=.func (.func 111) #[] #[a1.tmps.getD 2 undef,a1.tmps.getD 6 undef]:=by
   have e1:=dJ a 11 2 fv zo;have e4:=dJ a 11 6 fv zo;rw[if_neg zd,ov]at e1 e4;have Ar:a1.tmps.getD 2 undef=a.eval (.tmp 2):=e1;have Fz:a1.tmps.getD 6 undef=a.eval (.tmp 6):=e4;rw[Ar,Fz,mK];simp only[aeN,aer,aeF]
  have jZ:a1.eval (.tmp 11)=fv:=by rw[<-ov,dJ _ _ _ _ zo,if_pos rfl]
  refine il rfl rfl zr (ia (k:=40) (args:=#[.func (.func 111) #[] #[a1.tmps.getD 2 undef,a1.tmps.getD 6 undef]]) w5 rfl rfl ?_ zk) (oJ w0 g _ _ a1 w5 dI R1 (by simp[aF,s2]) h2 (by simp[aF,s6]) h6) ?_
  .simp only[aeN,aer,aeF,jZ,<-vS]
  .rintro en w6 ⟨rfl,c,g',S',H',qh,R2,rX,vz⟩;refine⟨_,rfl,?_⟩;have R3:=R2.put 12 (.int .i64 e) (.int .i64 e) zd (.data _ _ (.int _ _)) trivial;rw[uz]at R3;refine⟨g',_,H',R3,qh.trans ho,?_,?_,?_,?_,bX _ _ _⟩
   .show aF S' 12 _ 4=_;rw[b_ _ _ zd,rX 4 zd];simp[aF,s4]
   .rw[vz,b_ _ _ zd];exact h4
   .show aF S' 12 _ 6=_;rw[b_ _ _ zd,rX 6 zd];simp[aF,s6]
   .rw[vz];exact bX _ _ _
 .rintro o S5 H5 ⟨rfl,s4,h4,s6,h6,dN⟩;refine⟨λ_ h=>h,?_⟩;simp[c53,ah.qa,ah.qb,ah.dl,cQ,an,cy,ar,ev,aM.S,aM.H,aF,bl,s4,h4,s6,h6,dN,AV.bC,bj]
 .rintro o S5 H5 ⟨rfl,s4,h4,s6,h6,s7⟩;show SW prog GI 15 none (.seq _ .ret) _ _ _ _;have hT:List.take 16 (l.map AV.bC)=l.map AV.bC:=aee (by simp;omega);refine eR hG c53.qb.qb.qb.qb.qa (λS' H'=>S' 4=.box 4 0/\H' 4=some (l.map AV.bC)/\S' 5=.int .i64 e) ?_ ?_
  .simp[c53,ah.qa,ah.qb,s4,h4,s6,h6,s7,hle,hT,mb,js]
  rintro S6 H6 ⟨s4,h4,s5⟩;obtain⟨i100,yw,yZ⟩:=iZ 87 16;obtain⟨fs,fw⟩:=uZ 87;refine SW.ret ⟨e_.plain rfl,rfl,_,?_,rfl⟩;show bQ prog 15 [.cell 4 87,.tmp 5] S6 H6=_;simp[bQ,bG,bH,s4,h4,s5,yw,fw,yZ,bu,ef,hle,hT,js,AV.out,AV.aX]
  try rfl
def nN(e:Nat)(s:bf)(ba:List Int):Nat:=gX ba (kB (dH e s)) (ic (ij s) s.cells.length)
def mP{s:bf}(h:jx s){es:List End}(he:es.length<=3):(∀x∈dw s es,0<=x/\x<=1000)/\(dw s es).length<=1000:=by
 refine⟨λx hx=>?_,?_⟩
 .obtain⟨i,hi,rfl⟩:=aew.1 hx
  have:=B7 h he (i:=i) (by
   unfold eT;split
   .rename_i x hx;obtain⟨aN,rfl⟩:=aey.1 hx;exact(o7 h.name (ad2 aN)).Ck
   .omega)
  omega
 .have:=(ja h.name).words;simp[dw];omega
def vM{s:bf}(h:jx s)(e:Nat):(dH e s).length=s.cells.length/\∀x∈dH e s,0<=x/\x<=1000:=by
 refine⟨by simp[dH],λx hx=>?_⟩;obtain⟨c,hc,rfl⟩:=aew.1 hx;have:=h.A4 c hc;unfold yX
 split<;>omega
def Bu(hG:aQ GI)(s:bf)(h:jx s)(ba:List Int)(hn:(∀x∈ba,0<=x/\x<=1000)/\ba.length<=1000)(e:Nat):AC prog GI 59 [eM s ba,vI (dH e s)] (.ret (.int .i64 (nN e s ba))):=
 TY hG s h ba hn.1 hn.2 (dH e s) (vM h e).1 (vM h e).2
def Uy(hG:aQ GI)(s:bf)(h:jx s)(ba:List Int)(hn:(∀x∈ba,0<=x/\x<=1000)/\ba.length<=1000):AC prog GI 67 [eM s ba] (.ret (.bool (decide (nN 0 s ba=ba.length)))):=by
 have VG:=KJ hG s (by have:=h.cells;omega) 0 (.inl rfl);have JV:=Bu hG s h ba hn 0;refine dF hG func67 ntmps67 c67 ?_;simp[c67,eM,cV,bh,ai];refine oc VG ?_;simp;refine oc JV ?_;simp;rw[aeW];simp;omega
def qq(e:Nat)(s:bf):List AV:=
 if eb s then(match kU s.name with|some es=>[.int .i64 (nN e s (dw s es)),.int .i64 0]|none=>[.int .i64 0,.int .i64 7])else[.int .i64 0,.int .i64 2]
def lW (s:bf):(eb s=true∧∃ es,kU s.name=some es∧fH s (eb s)=[eM s (dw s es),.int .i64 0]) ∨
  (∃e:Int,e≠0/\fH s (eb s)=[eM zT [],.int .i64 e]/\∀k,qq k s=[.int .i64 0,.int .i64 e]):=by
 cases hI:eb s with
 |false=>exact .inr ⟨2,zd,by simp[fH],λk=>by simp[qq,hI]⟩
 |true=>
  cases hs:kU s.name with
  |some es=>exact .inl ⟨rfl,es,rfl,by simp[fH,hs]⟩
  |none=>exact .inr ⟨7,zd,by simp[fH,hs],λk=>by simp[qq,hI,hs]⟩
def adA(hG:aQ GI)(s:bf)(hs:gY s):AC prog GI 21 [cH s] (.ret (.ea (qq 0 s))):=by
 have Lk:=tf hG s hs;have ye:=E6 hG s hs
 rcases lW s with⟨hI,es,iG,ho⟩|⟨e,he,ho,C'⟩
 .rw[ho]at ye;have hg:=i_ hI;have VG:=KJ hG s (by have:=hg.cells;omega) 0 (.inl rfl);have JV:=Bu hG s hg _ (mP hg (kZ hg.name iG)) 0
  have C':qq 0 s=[.int .i64 (nN 0 s (dw s es)),.int .i64 0]:=by simp[qq,hI,iG]
  rw[C'];refine dF hG func21 ntmps21 c21 ?_;simp[c21,cH,bh,ai];refine oc Lk ?_;simp;refine oc ye ?_;simp[eM,cV,bh,ai,cD];refine oc VG ?_;simp;refine oc JV ?_;simp
 .rw[ho]at ye;rw[C']
  have pF:(e !=0)=true:=by simpa using he
  refine dF hG func21 ntmps21 c21 ?_;simp[c21,cH,bh,ai];refine oc Lk ?_;simp;refine oc ye ?_;simp[eM,cV,bh,ai,zT,cD,he,pF]
def abO(hG:aQ GI)(s:bf)(hs:gY s):AC prog GI 22 [cH s] (.ret (.ea (qq 1 s))):=by
 have Lk:=tf hG s hs;have ye:=E6 hG s hs
 rcases lW s with⟨hI,es,iG,ho⟩|⟨e,he,ho,C'⟩
 .rw[ho]at ye;have hg:=i_ hI;have VG:=KJ hG s (by have:=hg.cells;omega) 1 (.inr rfl);have JV:=Bu hG s hg _ (mP hg (kZ hg.name iG)) 1
  have C':qq 1 s=[.int .i64 (nN 1 s (dw s es)),.int .i64 0]:=by simp[qq,hI,iG]
  rw[C'];refine dF hG func22 ntmps22 c22 ?_;simp[c22,cH,bh,ai];refine oc Lk ?_;simp;refine oc ye ?_;simp[eM,cV,bh,ai,cD];refine oc VG ?_;simp;refine oc JV ?_;simp
 .rw[ho]at ye;rw[C']
  have pF:(e !=0)=true:=by simpa using he
  refine dF hG func22 ntmps22 c22 ?_;simp[c22,cH,bh,ai];refine oc Lk ?_;simp;refine oc ye ?_;simp[eM,cV,bh,ai,zT,cD,he,pF]
def atR(s:bf)(r:Nat):bf:={ s with reach:=r }
def Rp{s:bf}(h:jx s){r:Nat}(h1:1<=r)(h2:r<=12):jx (atR s r):=⟨h.cells,h.A4,h.pos,⟨by show(1:Int)<=(r:Int);omega,by show(r:Int)<=12;omega⟩,h.fh,h.eF,h.name⟩
def Dy(s:bf)(ba:List Int)(r:Nat):Bool:=decide (nN 0 (atR s r) ba=ba.length)
def GR(s:bf):List AV:=
 if eb s then(match kU s.name with|some es=>(match(List.range' 1 12).find? (Dy s (dw s es))with|some r=>[.int .i64 (r:Nat),.int .i64 0]|none=>[.int .i64 0,.int .i64 5])|none=>[.int .i64 0,.int .i64 7])else[.int .i64 0,.int .i64 2]
def PH{p:Nat->Bool}{r n:Nat}(h1:1<=r)(h2:r<=n)(hp:p r=true)(hb:∀k,1<=k->k<r->p k=false):(List.range' 1 n).find? p=some r:=by
 rw[show n=(r-1)+(n-(r-1)) by omega,<-ahe,List.find?_append]
 have h0:(List.range' 1 (r-1)).find? p=none:=by
  rw[agS];intro x hx;have:=agz.1 hx;rw[hb x this.1 zo];simp
 rw[h0,Option.none_or,show n-(r-1)=(n-r)+1 by omega,afJ,List.find?_cons];rw[show 1+(r-1)=r by omega,hp]
def Gg{p:Nat->Bool}{n:Nat}(hb:∀k,1<=k->k<=n->p k=false):(List.range' 1 n).find? p=none:=by
 rw[agS];intro x hx;have:=agz.1 hx;rw[hb x this.1 zo];simp
def abZ(hG:aQ GI)(s:bf)(hs:gY s):AC prog GI 25 [cH s] (.ret (.ea (GR s))):=by
 have Lk:=tf hG s hs;have ye:=E6 hG s hs
 rcases lW s with⟨hI,es,iG,ho⟩|⟨e,he,ho,C'⟩
 .rw[ho]at ye;have hg:=i_ hI;have hn:=mP hg (kZ hg.name iG)
  have Qk:GR s=(match(List.range' 1 12).find? (Dy s (dw s es))with|some r=>[.int .i64 (r:Nat),.int .i64 0]|none=>[.int .i64 0,.int .i64 5]):=by simp[GR,hI,iG]
  rw[Qk];generalize dw s es=ba at ye hn⊢;refine dF hG func25 ntmps25 c25 ?_;simp[c25,cH,bh,ai];refine oc Lk ?_;simp;refine oc ye ?_;simp[eM,cV,bh,ai,cD];refine⟨λS H=>∃r:Nat,1<=r/\r<=13/\S 4=.box 4 0/\H 4=some (cV (atR s r) ba)/\∀k,1<=k->k<r->Dy s ba k=false,λ_ H=>match H 4 with|some (_::_::.int _ r::_)=>(13-r).toNat|_=>0,⟨1,aed _,zd,?_⟩,?_⟩
  .simp[cV,bh,ai,atR];intro k h1 h2;omega
  rintro S H ⟨r,No,hr2,s4,h4,hb⟩
  by_cases hle:r<=12
  case neg=>
   have hr:r=13:=zo
   subst hr;rw[Gg λk h1 h2=>hb k h1 zo];simp[cV,bh,ai,atR,s4,h4]
  have QR:(r:Int)<=12:=zo
  have XR:=Uy hG (atR s r) (Rp hg No hle) ba hn
  cases hf:Dy s ba r with
  |true=>
   unfold Dy at hf;rw[hf]at XR;rw[PH No hle (show Dy s ba r=true from hf) hb];simp[cV,bh,ai,atR,s4,h4,QR];refine oc XR ?_;simp[cV,bh,ai,atR,s4,h4]
  |false=>
   have rG:=hf;unfold Dy at rG;rw[rG]at XR;have hw:IntKind.i64.wrap ((r:Int)+1)=r+1:=bU zo;simp[cV,bh,ai,atR,s4,h4,QR];refine oc XR ?_;simp[cV,bh,ai,atR,s4,h4,hw];refine⟨⟨r+1,zo,zo,zo,λk h1 h2=>?_⟩,zo⟩
   by_cases hk:k=r
   .rw[hk];exact hf
   .exact hb k h1 zo
 .rw[ho]at ye
  have Da:GR s=[.int .i64 0,.int .i64 e]:=by
   have:=C' 0;unfold qq at this;unfold GR
   cases hI:eb s with
   |false=>simpa[hI]using this
   |true=>
    cases iG:kU s.name with
    |none=>simpa[hI,iG]using this
    |some es=>simp[hI,iG,fH]at ho;exact absurd ho.2.symm he
  rw[Da]
  have pF:(e !=0)=true:=by simpa using he
  refine dF hG func25 ntmps25 c25 ?_;simp[c25,cH,bh,ai];refine oc Lk ?_;simp;refine oc ye ?_;simp[eM,cV,bh,ai,zT,cD,he,pF]
def PR(hG:aQ GI)(s:bf)(hs:gY s)(b:Bool):AC prog GI 53 [cH s,.bool (eb s&&b)] (.ret (.ea (fH s (eb s&&b)))):=by
 cases b with
 |true=>rw[ah5];exact E6 hG s hs
 |false=>
  rw[Bool.and_false];have:=MB hG s;simpa[fH]using this
def rF (s:bf) (b:Bool):(eb s=true∧b=true∧∃ es,kU s.name=some es∧fH s (eb s && b)=[eM s (dw s es),.int .i64 0]) ∨
  (eb s&&b)=false/\fH s (eb s&&b)=[eM zT [],.int .i64 2]\/eb s=true/\b=true/\kU s.name=none/\fH s (eb s&&b)=[eM zT [],.int .i64 7]:=by
 cases hI:(eb s&&b)with
 |false=>exact .inr (.inl ⟨rfl,by simp[fH]⟩)
 |true=>
  rw[aeb]at hI
  cases hs:kU s.name with
  |some es=>exact .inl ⟨hI.1,hI.2,es,rfl,by simp[fH,hs]⟩
  |none=>exact .inr (.inr ⟨hI.1,hI.2,rfl,by simp[fH,hs]⟩)
def wU(s:bf):List AV:=if eb s then(match kU s.name with|some es=>[vI (dw s es),.int .i64 0]|none=>[vI [],.int .i64 7])else[vI [],.int .i64 2]
def ab3(hG:aQ GI)(s:bf)(hs:gY s):AC prog GI 16 [cH s] (.ret (.ea (wU s))):=by
 have qo:=tf hG s hs;have lZ:=PR hG s hs true
 have key:∃t:bf,∃l:List Int,∃e:Int,fH s (eb s&&true)=[eM t l,.int .i64 e]/\wU s=[vI l,.int .i64 e]:=by
  rcases rF s true with⟨h1,_,es,h2,h3⟩|⟨h1,h3⟩|⟨h1,_,h2,h3⟩
  .exact⟨_,_,_,h3,by simp[wU,h1,h2]⟩
  .rw[ah5]at h1;exact⟨_,_,_,h3,by simp[wU,h1]⟩
  .exact⟨_,_,_,h3,by simp[wU,h1,h2]⟩
 obtain⟨t,l,e,h3,h4⟩:=key;rw[h3,ah5]at lZ;rw[h4];refine dF hG func16 ntmps16 c16 ?_;simp[c16,cH,bh,ai];refine oc qo ?_;simp;refine oc lZ ?_;simp[eM,cV,bh,ai,cD]
def pH(s:bf)(l:List Int):Bool:=decide (l.length=s.cells.length)&&(l.zip s.cells).all λx=>ee x.1 x.2.lo x.2.hi
def Ag{α β:Type}(p:α×β->Bool):∀(l:List α)(m:List β),l.length=m.length->((l.zip m).all p=true↔∀i (h:i<l.length)(h':i<m.length),p (l[i],m[i])=true)
 |[],[],_=>ah7
 |a::l,b::m,h=>by
  rw[List.zip_cons_cons,List.all_cons,aeb,Ag p l m (by simpa using h)]
  constructor
  .rintro⟨h1,h2⟩ i hi eJ
   cases i with
   |zero=>exact h1
   |succ i=>exact h2 i (by simpa using hi) (by simpa using eJ)
  .intro hh;exact⟨hh 0 ah7 ah7,λi hi eJ=>hh (i+1) (by simpa using hi) (by simpa using eJ)⟩
 |[],_::_,h=>by simp at h
 |_::_,[],h=>by simp at h
def abK(hG:aQ GI)(s:bf)(hs:s.cells.length<1000000)(l:List Int)(hl:l.length<1000000):AC prog GI 58 [cH s,vI l] (.ret (.bool (pH s l))):=by
 refine dF hG func58 ntmps58 c58 ?_;refine aY (λS H=>S 1=vI l/\S 2=.box 2 0/\H 2=some (bh s)) (by simp[cH,bh,ai]) ?_;rintro S H ⟨s1,s2,h2⟩;simp[s1,s2,h2];refine cK 9 l.length (λi S H=>S 1=vI l/\S 2=.box 2 0/\H 2=some (bh s)/\S 7=vI l/\S 8=.int .i64 l.length/\S 9=.int .i64 (i:Nat)/\∀j (h:j<l.length),j<i->∃h':j<s.cells.length,ee l[j] s.cells[j].lo s.cells[j].hi=true) (λi S H h=>h.2.2.2.2.2.1) ⟨by simp[s1],by simp[s2],by simp[h2],by simp[s1],ah7,ah7,ah7⟩ ?_;clear s1 s2 h2 S H;rintro i hi S H ⟨s1,s2,h2,s7,s8,s9,hb⟩
 by_cases aN:i<l.length
 .have hw:IntKind.i64.wrap ((i:Int)+1)=i+1:=bU zo
  have hn:¬(i:Int)<0:=zo
  by_cases hc:i<s.cells.length
  case neg=>
   have wP:(s.cells.length:Int)<=i:=zo
   have hr:pH s l=false:=by
    unfold pH
    rw[ahj zo]<;>rfl
   simp[s1,s2,h2,s7,s8,s9,aN,hn,wP,hr,bh,ai]
  have wP:¬(s.cells.length:Int)<=i:=zo
  simp[s1,s2,h2,s7,s8,s9,aN,hn,hc,wP,gD,bh,ai];refine oc (xK hG _ _ _) ?_;cases oC:ee l[i] s.cells[i].lo s.cells[i].hi
  .have hr:pH s l=false:=by
    unfold pH
    by_cases xr:l.length=s.cells.length
    .have:¬ ((l.zip s.cells).all fun x=>ee x.1 x.2.lo x.2.hi)=true:=fun h=>by
      have:=(Ag _ l s.cells xr).1 h i aN hc;rw[oC]at this;cases this
     simp only[afd]at this;rw[this,Bool.and_false]
    .rw[ahj xr]<;>rfl
   simp[s1,s2,h2,s7,s8,s9,hr]
  .simp[s1,s2,h2,s7,s8,s9,hw,bh,ai];intro j hj gL
   by_cases e:j=i
   .subst e;exact⟨hc,oC⟩
   .exact hb j hj zo
 .have dV:i=l.length:=zo
  subst dV
  have hr:pH s l=decide (l.length=s.cells.length):=by
   unfold pH
   by_cases xr:l.length=s.cells.length
   .rw[agX xr,agq]
    exact(Ag _ l s.cells xr).2 λi h h'=>let⟨_,q⟩:=hb i h h;q
   .rw[ahj xr,Bool.false_and]
  simp[s1,s2,h2,s7,s8,s9,hr,bh,ai];rw[aeW];simp;omega
def MP{s:bf}(h:jx s){l:List Int}(hr:pH s l=true):l.length=s.cells.length/\(∀x∈l,1<=x/\x<=20)/\∀i (h:i<l.length)(h':i<s.cells.length),s.cells[i].lo<=l[i]/\l[i]<=s.cells[i].hi:=by
 unfold pH at hr;rw[aeb,aej]at hr;have h2:=(Ag _ l s.cells hr.1).1 hr.2
 have h3:∀i (h:i<l.length)(h':i<s.cells.length),s.cells[i].lo<=l[i]/\l[i]<=s.cells[i].hi:=λi hi eJ=>by
  have:=h2 i hi eJ;simpa[ee]using this
 refine⟨hr.1,λx hx=>?_,h3⟩;obtain⟨i,hi,rfl⟩:=ae5 hx;have:=h3 i hi zo;have:=h.A4 _ (ad2 (show i<s.cells.length by omega));omega
def A8(s:bf)(ba dK:List Int):Nat:=gX ba (kB dK) (ic (ij s) s.cells.length)
def yV(s:bf)(l:List Int):List AV:=
 if eb s&&pH s l then(match kU s.name with|some es=>[.int .i64 (A8 s (dw s es) l),.int .i64 0]|none=>[.int .i64 0,.int .i64 7])else[.int .i64 0,.int .i64 2]
def acO(hG:aQ GI)(s:bf)(hs:gY s)(l:List Int)(hl:l.length<1000000):AC prog GI 20 [cH s,vI l] (.ret (.ea (yV s l))):=by
 have qo:=tf hG s hs;have h91:=abK hG s hs.cells l hl;have lZ:=PR hG s hs (pH s l);rcases rF s (pH s l)with⟨h1,h0,es,h2,h3⟩|h3
 .have hg:=i_ h1;obtain⟨r1,r2,_⟩:=MP hg h0;have hn:=mP hg (kZ hg.name h2);have Ko:=TY hG s hg _ hn.1 hn.2 l r1 (λx hx=>by have:=r2 x hx;omega)
  have ho:yV s l=[.int .i64 (A8 s (dw s es) l),.int .i64 0]:=by simp[yV,h1,h0,h2]
  rw[h3,h1,h0]at lZ;rw[ho];rw[h1]at qo;rw[h0]at h91;refine dF hG func20 ntmps20 c20 ?_;simp[c20,cH,bh,ai];refine oc qo ?_;simp;refine oc h91 ?_;simp;refine oc lZ ?_;simp[eM,cV,bh,ai,cD];refine oc Ko ?_;simp[A8]
 .have key:∃ e:Int,e≠0∧fH s (eb s && pH s l)=[eM zT [],.int .i64 e]∧yV s l=[.int .i64 0,.int .i64 e]:=by
   rcases h3 with⟨h1,h3⟩|⟨h1,h0,h2,h3⟩
   .exact⟨2,zd,h3,by simp[yV,h1]⟩
   .exact⟨7,zd,h3,by simp[yV,h1,h0,h2]⟩
  obtain⟨e,he,h3,h4⟩:=key
  have pF:(e !=0)=true:=by simpa using he
  rw[h3]at lZ;rw[h4];refine dF hG func20 ntmps20 c20 ?_;simp[c20,cH,bh,ai];refine oc qo ?_;cases hI:eb s
  .rw[hI]at lZ;simp;refine oc lZ ?_;simp[eM,cV,bh,ai,zT,cD,he,pF]
  .rw[hI]at lZ;simp;refine oc h91 ?_;simp;refine oc lZ ?_;simp[eM,cV,bh,ai,zT,cD,he,pF]
def O_(s:bf)(ba:List Int)(w:Int):Int:=if w<(nN 0 s ba:Nat)then 3 else if w<(nN 1 s ba:Nat)then 2 else 1
def AW(s:bf)(w:Int):Bool:=ee w 0 (s.name.words.length-1)
def t_(s:bf)(w:Int):List AV:=
 if eb s&&AW s w then(match kU s.name with|some es=>[.int .i64 (O_ s (dw s es) w),.int .i64 0]|none=>[.int .i64 0,.int .i64 7])else[.int .i64 0,.int .i64 2]
def abd(hG:aQ GI)(s:bf)(hs:gY s)(w:Int):AC prog GI 23 [cH s,.int .i64 w] (.ret (.ea (t_ s w))):=by
 have qo:=tf hG s hs;have lZ:=PR hG s hs (AW s w)
 have yt:IntKind.i64.wrap ((s.name.words.length:Int)-1)=(s.name.words.length:Int)-1:=by
  have:=hs.name.words;exact bU zo
 rcases rF s (AW s w)with⟨h1,h0,es,h2,h3⟩|h3
 .have hg:=i_ h1;have hn:=mP hg (kZ hg.name h2)
  have Sx:∀e,e=0\/e=1->_:=λe he=>KJ hG s (by have:=hg.cells;omega) e he
  have adF:=Sx 0 (.inl rfl);have abC:=Sx 1 (.inr rfl);have acQ:=Bu hG s hg _ hn 0;have adE:=Bu hG s hg _ hn 1
  have ho:t_ s w=[.int .i64 (O_ s (dw s es) w),.int .i64 0]:=by simp[t_,h1,h0,h2]
  rw[h3,h1,h0]at lZ;rw[ho];rw[h1]at qo;have ES:=h0;unfold AW at ES;refine dF hG func23 ntmps23 c23 ?_;simp[c23,cH,bh,ai];refine oc qo ?_;simp[yt];refine oc (xK hG _ _ _) ?_;simp[ES];refine oc lZ ?_;simp[eM,cV,bh,ai,cD];refine oc adF ?_;simp;refine oc acQ ?_;unfold O_
  by_cases c1:w<(nN 0 s (dw s es):Nat)
  .simp[c1]
  simp[c1];refine oc abC ?_;simp;refine oc adE ?_
  by_cases c2:w<(nN 1 s (dw s es):Nat)
  .simp[c2]
  .simp[c2]
 .have key:∃ e:Int,e≠0∧fH s (eb s && AW s w)=[eM zT [],.int .i64 e]∧t_ s w=[.int .i64 0,.int .i64 e]:=by
   rcases h3 with⟨h1,h3⟩|⟨h1,h0,h2,h3⟩
   .exact⟨2,zd,h3,by simp[t_,h1]⟩
   .exact⟨7,zd,h3,by simp[t_,h1,h0,h2]⟩
  obtain⟨e,he,h3,h4⟩:=key
  have pF:(e !=0)=true:=by simpa using he
  rw[h3]at lZ;rw[h4];refine dF hG func23 ntmps23 c23 ?_;simp[c23,cH,bh,ai];refine oc qo ?_;cases hI:eb s
  .rw[hI]at lZ;simp;refine oc lZ ?_;simp[eM,cV,bh,ai,zT,cD,he,pF]
  .rw[hI]at lZ;simp[yt];refine oc (xK hG _ _ _) ?_;unfold AW at lZ;simp;refine oc lZ ?_;simp[eM,cV,bh,ai,zT,cD,he,pF]
def vE(s:bf)(e:Int)(he:e≠0)(ho:fH s (eb s)=[eM zT [],.int .i64 e]):(eb s=false/\e=2)\/(eb s=true/\kU s.name=none/\e=7):=by
 cases hI:eb s with
 |false=>left;simp[fH,hI]at ho;exact⟨rfl,ho.symm⟩
 |true=>
  cases hs:kU s.name with
  |none=>right;simp[fH,hI,hs]at ho;exact⟨rfl,rfl,ho.symm⟩
  |some es=>simp[fH,hI,hs]at ho;exact absurd ho.2.symm he
def zf(s:bf)(p:Nat):bf:={ s with fh:=p }
def SN{s:bf}(h:jx s){p:Nat}(h1:1<=p)(h2:p<=9):jx (zf s p):=⟨h.cells,h.A4,h.pos,h.reach,⟨by show(1:Int)<=(p:Int);omega,by show(p:Int)<=9;omega⟩,h.eF,h.name⟩
def Bb(s:bf)(es:List End)(p:Nat):Bool:=decide (nN 0 (zf s p) (dw (zf s p) es)=(dw (zf s p) es).length)
def A6:List Nat:=[9,8,7,6,5,4,3,2,1]
def y4(s:bf):List AV:=
 if eb s then(match kU s.name with|some es=>(match A6.find? (Bb s es)with|some r=>[.int .i64 (r:Nat),.int .i64 0]|none=>[.int .i64 0,.int .i64 5])|none=>[.int .i64 0,.int .i64 7])else[.int .i64 0,.int .i64 2]
def Im{p:Nat->Bool}{r:Nat}(h1:1<=r)(h2:r<=9)(hp:p r=true)(hb:∀k,r<k->k<=9->p k=false):A6.find? p=some r:=by
 have:r=1\/r=2\/r=3\/r=4\/r=5\/r=6\/r=7\/r=8\/r=9:=zo
 unfold A6;rcases this with rfl|rfl|rfl|rfl|rfl|rfl|rfl|rfl|rfl
 all_goals (repeat rw[List.find?_cons]);simp[hp,hb]
def My{p:Nat->Bool}(hb:∀k,0<k->k<=9->p k=false):A6.find? p=none:=by
 rw[agS];intro x hx
 have:0<x/\x<=9:=by simp[A6]at hx;omega
 rw[hb x this.1 this.2];simp
def abE(hG:aQ GI)(s:bf)(hs:gY s):AC prog GI 27 [cH s] (.ret (.ea (y4 s))):=by
 have qo:=tf hG s hs;have lZ:=E6 hG s hs
 rcases lW s with⟨hI,es,iG,ho⟩|⟨e,he,ho,C'⟩
 .rw[ho]at lZ;have hg:=i_ hI
  have Qk:y4 s=(match A6.find? (Bb s es)with|some r=>[.int .i64 (r:Nat),.int .i64 0]|none=>[.int .i64 0,.int .i64 5]):=by simp[y4,hI,iG]
  rw[Qk];generalize dw s es=ba at lZ;refine dF hG func27 ntmps27 c27 ?_;simp[c27,cH,bh,ai];refine oc qo ?_;simp;refine oc lZ ?_;simp[eM,cV,bh,ai,cD];refine⟨λS H=>∃r:Nat,r<=9/\S 1=.box 1 0/\H 1=some (bh (zf s r))/\∀k,r<k->k<=9->Bb s es k=false,λ_ H=>match H 1 with|some (_::_::_::.int _ r::_)=>r.toNat|_=>0,⟨9,?_⟩,?_⟩
  .simp[bh,ai,zf];intro k h1 h2;omega
  rintro S H ⟨r,hr,s1,h1,hb⟩
  by_cases h0:r=0
  .subst h0;rw[My hb];simp[bh,ai,zf,s1,h1]
  have No:1<=r:=zo
  have ky:0<r:=zo
  have Bt:=SN hg No hr;have zh:=mP Bt (kZ Bt.name iG);have Hm:=Wf hG (zf s r) ⟨hs.cells,hs.name⟩ Bt (es:=es) iG;have Hk:=Uy hG (zf s r) Bt (dw (zf s r) es) zh
  cases hf:Bb s es r with
  |true=>
   have rG:=hf;unfold Bb at rG;rw[rG]at Hk;rw[Im No hr hf hb];simp[bh,ai,zf,s1,h1,ky];refine oc Hm ?_;simp[eM,cV,bh,ai];refine oc Hk ?_;simp[bh,ai,zf,s1,h1]
  |false=>
   have rG:=hf;unfold Bb at rG;rw[rG]at Hk
   have hw:IntKind.i64.wrap ((r:Int)-1)=((r-1:Nat):Int):=by rw[bU zo];omega
   simp[bh,ai,zf,s1,h1,ky];refine oc Hm ?_;simp[eM,cV,bh,ai];refine oc Hk ?_;simp[bh,ai,zf,s1,h1,hw];refine⟨⟨r-1,zo,rfl,λk q1 q2=>?_⟩,zo⟩
   by_cases hk:k=r
   .rw[hk];exact hf
   .exact hb k zo q2
 .rw[ho]at lZ
  have Da:y4 s=[.int .i64 0,.int .i64 e]:=by
   rcases vE s e he ho with⟨h1,rfl⟩|⟨h1,h2,rfl⟩
   .simp[y4,h1]
   .simp[y4,h1,h2]
  rw[Da]
  have pF:(e !=0)=true:=by simpa using he
  refine dF hG func27 ntmps27 c27 ?_;simp[c27,cH,bh,ai];refine oc qo ?_;simp;refine oc lZ ?_;simp[eM,cV,bh,ai,zT,cD,he,pF]
def abj(hG:aQ GI)(a b:End):AC prog GI 71 [dz a,dz b] (.ret (.bool (decide (b.2<a.2)))):=by
 refine dF hG func71 ntmps71 c71 ?_;simp[c71,dz]
def mL(x:End)(l:List End):End:=l.foldl (λo y=>if o.2<y.2 then y else o) x
def Kh(x:End)(l:List End){i:Nat}(h:i<l.length):mL x (l.take (i+1))=if(mL x (l.take i)).2<l[i].2 then l[i]else mL x (l.take i):=by
 unfold mL;rw[agY,ad_ h,aff]
 rfl
def acV(hG:aQ GI)(x:End)(l:List End)(hl:l.length<1000000):AC prog GI 70 [.slice .view (ct (x::l)),.func (.func 71) [] []] (.ret (dz (mL x l))):=by
 obtain⟨iT,VN,VI⟩:=iZ 110 2;obtain⟨fs,fw⟩:=uZ 110;have df:br 2 (ct (x::l))=true:=vW (x::l);refine dF hG func70 ntmps70 c70 ?_;refine aY (λS H=>S 0=.slice .view (ct (x::l))/\S 1=.func (.func 71) [] []/\S 4=.box 4 0/\H 4=some [.int .i64 0,.int .i64 0]) ah7 ?_;rintro S H ⟨s0,s1,s4,h4⟩;refine aY (λS H=>S 0=.slice .view (ct (x::l))/\S 1=.func (.func 71) [] []/\S 4=.box 4 0/\H 4=some [.int .i64 0,.int .i64 0]/\S 5=.box 5 0/\H 5=some [.int .i64 x.1,.int .i64 x.2]) (by simp[s0,s1,s4,h4,ct,dz,cD]) ?_;clear s0 s1 s4 h4 S H;rintro S H ⟨s0,s1,s4,h4,s5,h5⟩
 have hd:(ct (x::l)).drop 1=ct l:=by simp[ct]
 have hlen:(ct (x::l)).length=l.length+1:=by simp[ct]
 have Bw:(1:Int)<=(l.length:Int)+1:=zo
 have qp:List.take (l.length+1) (ct (x::l))=ct (x::l):=aee zo;generalize ct (x::l)=L at s0 hd hlen qp df
 have TJ:((l.length:Int)+1).toNat=l.length+1:=zo
 simp[bound,s0,s1,s4,h4,s5,h5,hd,hlen,Bw,qp,df,TJ];refine cK 14 l.length (λi S H=>S 1=.func (.func 71) [] []/\S 4=.box 4 0/\H 4=some [.int .i64 0,.int .i64 0]/\S 5=.box 5 0/\H 5=some [.int .i64 (mL x (l.take i)).1,.int .i64 (mL x (l.take i)).2]/\S 12=.slice .view (ct l)/\S 13=.int .i64 l.length/\S 14=.int .i64 (i:Nat)) (λi S H h=>h.2.2.2.2.2.2.2) ⟨by simp[s1],by simp[s4],by simp[h4],by simp[s5],by simp[h5,mL],ah7,by simp[ct],ah7⟩ ?_;clear s0 s1 s4 h4 s5 h5 S H;rintro i hi S H ⟨s1,s4,h4,s5,h5,dN,dY,eQ⟩
 by_cases aN:i<l.length
 .have hw:IntKind.i64.wrap ((i:Int)+1)=i+1:=bU zo
  have hn:¬(i:Int)<0:=zo
  have hs:=Kh x l aN;have Yi:=abj hG l[i] (mL x (l.take i))
  generalize mL x (l.take i)=o at*
  by_cases hc:o.2<l[i].2
  .rw[if_pos hc]at hs;rw[hs];simp[s1,s4,h4,s5,h5,dN,dY,eQ,aN,hn,ct,dz,cD];refine oc Yi ?_;simp[s1,s4,h4,s5,h5,dN,dY,eQ,hc,hw,ct,dz]
  .rw[if_neg hc]at hs;rw[hs]
   have wP:l[i].2<=o.2:=zo
   simp[s1,s4,h4,s5,h5,dN,dY,eQ,aN,hn,ct,dz,cD];refine oc Yi ?_;simp[s1,s4,h4,s5,h5,dN,dY,eQ,hc,wP,hw,ct,dz]
 .have dV:i=l.length:=zo
  subst dV;rw[afu]at h5;simp[s1,s4,h4,s5,h5,dN,dY,eQ,VN,VI,fw,ef,dz]
def eG(x:Nat×Nat):End:=((x.1:Int),(x.2:Int))
def zl:∀(l:List (Nat×Nat))(x:Nat×Nat),mL (eG x) (l.map eG)=eG (tD x l)
 |[],_=>rfl
 |y::l,x=>by
  have e1:mL (eG x) ((y::l).map eG)=mL (if(eG x).2<(eG y).2 then eG y else eG x) (l.map eG):=rfl;have e2:tD x (y::l)=tD (if x.2<y.2 then y else x) l:=rfl;rw[e1,e2,<-zl l]
  congr 1
  by_cases h:x.2<y.2
  .rw[if_pos h,if_pos (by show(x.2:Int)<(y.2:Int);omega)]
  .rw[if_neg h,if_neg (by show¬(x.2:Int)<(y.2:Int);omega)]
def tP(s:bf)(a:Int):bf:={ s with pos:=a }
def Mq{s:bf}(h:jx s){a:Nat}(h1:1<=a)(h2:a<=s.cells.length):jx (tP s a):=⟨h.cells,h.A4,⟨by show(1:Int)<=(a:Int);omega,by show(a:Int)<=s.cells.length;omega⟩,h.reach,h.fh,h.eF,h.name⟩
def jQ(s:bf)(ba:List Int)(a:Nat):Nat:=nN 0 (tP s (a:Int)) ba
def Bn(s:bf)(ba:List Int):Nat×Nat:=tD (1,jQ s ba 1) (jN (jQ s ba) 2 (s.cells.length-1))
def yN(s:bf):List AV:=
 if eb s then(match kU s.name with|some es=>[.int .i64 ((Bn s (dw s es)).1:Nat),.int .i64 ((Bn s (dw s es)).2:Nat),.int .i64 0]|none=>[.int .i64 0,.int .i64 0,.int .i64 7])else[.int .i64 0,.int .i64 0,.int .i64 2]
def Al(f:Nat->Nat){m:Nat}(hm:1<=m):jN f 1 m=(1,f 1)::jN f 2 (m-1):=by
 obtain⟨k,rfl⟩:∃k,m=k+1:=⟨m-1,zo⟩
 unfold jN
 rw[afJ]<;>rfl
def K7(f:Nat->Nat)(m:Nat):jN f 1 (m+1)=jN f 1 m++[(m+1,f (m+1))]:=by
 unfold jN;rw[agO,aeB];simp[Nat.add_comm]
def ab9(hG:aQ GI)(s:bf)(hs:gY s):AC prog GI 28 [cH s] (.ret (.ea (yN s))):=by
 have qo:=tf hG s hs;have lZ:=E6 hG s hs
 rcases lW s with⟨hI,es,iG,ho⟩|⟨e,he,ho,C'⟩
 .rw[ho]at lZ;have hg:=i_ hI;have hc:=hg.cells
  have Qk:yN s=[.int .i64 ((Bn s (dw s es)).1:Nat),.int .i64 ((Bn s (dw s es)).2:Nat),.int .i64 0]:=by simp[yN,hI,iG]
  rw[Qk];have hn:=mP hg (kZ hg.name iG);generalize dw s es=ba at lZ hn⊢;have Sx:=KJ hG s zo 0 (.inl rfl);have qA:=acV hG (eG (1,jQ s ba 1)) ((jN (jQ s ba) 2 (s.cells.length-1)).map eG) (by simp[jN];omega);rw[zl]at qA
  have eu:eG (1,jQ s ba 1)::(jN (jQ s ba) 2 (s.cells.length-1)).map eG=(jN (jQ s ba) 1 s.cells.length).map eG:=by
   rw[Al _ hc.1]<;>rfl
  rw[eu]at qA;refine dF hG func28 ntmps28 c28 ?_;refine aY (λS H=>S 1=.box 1 0/\H 1=some (bh s)) (by simp[cH,bh,ai]) ?_;rintro S H ⟨s1,h1⟩;refine aY (λS H=>S 1=.box 1 0/\H 1=some (bh s)/\S 5=.box 5 0/\H 5=some (cV s ba)/\S 6=.int .i64 0) ?_ ?_
  .simp[s1,h1,bh,ai];refine oc qo ?_;simp;refine oc lZ ?_;simp[s1,h1,eM,cV,bh,ai,cD]
  clear s1 h1 S H;rintro S H ⟨s1,h1,s5,h5,s6⟩;refine aY (λS H=>S 1=.box 1 0/\H 1=some (bh s)/\S 5=.box 5 0/\H 5=some (cV s ba)) (by simp[s1,h1,s5,h5,s6]) ?_;clear s1 h1 s5 h5 s6 S H;rintro S H ⟨s1,h1,s5,h5⟩;refine aY (λS H=>S 1=.box 1 0/\H 1=some (bh s)/\S 5=.box 5 0/\H 5=some (cV s ba)/\S 7=.slice .nil []) (by simp[s1,h1,s5,h5]) ?_;clear s1 h1 s5 h5 S H;rintro S H ⟨s1,h1,s5,h5,s7⟩;refine aY (λS H=>S 7=grow 110 (ct ((jN (jQ s ba) 1 s.cells.length).map eG))) ?_ ?_
  .refine aY (λS H=>S 1=.box 1 0/\H 1=some (bh s)/\S 5=.box 5 0/\H 5=some (cV s ba)/\S 7=.slice .nil []/\S 8=.int .i64 1) (by simp[s1,h1,s5,h5,s7]) ?_;clear s1 h1 s5 h5 s7 S H;rintro S H ⟨s1,h1,s5,h5,s7,s8⟩;simp only[aU];refine⟨λS H=>∃i:Nat,i<=s.cells.length/\S 1=.box 1 0/\H 1=some (bh s)/\S 5=.box 5 0/\(∃p,H 5=some (cV (tP s p) ba))/\S 7=grow 110 (ct ((jN (jQ s ba) 1 i).map eG))/\S 8=.int .i64 ((i:Int)+1),λS _=>match S 8 with|.int _ r=>(13-r).toNat|_=>0,⟨0,ae2 _,s1,h1,s5,⟨s.pos,h5⟩,by rw[s7]<;>rfl,s8⟩,?_⟩;clear s1 h1 s5 h5 s7 s8 S H;rintro S H ⟨i,hi,s1,h1,s5,⟨p,h5⟩,s7,s8⟩
   by_cases aN:i<s.cells.length
   case neg=>
    have dV:i=s.cells.length:=zo
    subst dV
    have hq:¬((s.cells.length:Int)+1<=s.cells.length):=zo
    simp[s1,h1,s5,h5,s7,s8,hq,bh,ai]
   have hq:(i:Int)+1<=s.cells.length:=zo
   have hw:IntKind.i64.wrap ((i:Int)+1+1)=(i:Int)+1+1:=bU zo;have Ko:=Bu hG (tP s ((i+1:Nat):Int)) (Mq hg zo zo) ba hn 0
   have yx:ct ((jN (jQ s ba) 1 (i+1)).map eG)=ct ((jN (jQ s ba) 1 i).map eG)++[.agg [.int .i64 ((i:Int)+1),.int .i64 (jQ s ba (i+1):Nat)]]:=by
    rw[K7,aeB];unfold ct;rw[aeB];simp[eG,dz]
   have hlen:(ct ((jN (jQ s ba) 1 i).map eG)).length=i:=by simp[ct,jN]
   have df:=vW ((jN (jQ s ba) 1 i).map eG);have hfd:nN 0 (tP s ((i+1:Nat):Int)) ba=jQ s ba (i+1):=rfl;rw[hfd]at Ko;have k3:br 2 [AV.agg [.int .i64 ((i:Int)+1),.int .i64 (jQ s ba (i+1):Nat)]]=true:=rfl
   have pq:i+1<1048576:=zo
   generalize ct ((jN (jQ s ba) 1 i).map eG)=L at s7 yx hlen df;simp[s1,h1,s5,h5,s7,s8,hq,cV,tP,bh,ai];refine oc Sx ?_;simp[s1,h1,s5,h5,s7,s8,cV,tP,bh,ai];refine oc Ko ?_;have gr:(AV.agg [.int .i64 ((i:Int)+1),.int .i64 (jQ s ba (i+1):Nat)]).storable=true:=rfl
   cases L with
   |nil=>
    have xn:grow 110 []=.slice .nil []:=rfl
    have Tg:i=0:=by simpa using hlen.symm
    subst Tg;simp[s1,h1,s5,h5,s8,xn,cD,cV,tP,bh,ai,br];have mg:IntKind.i64.wrap 2=2:=bU zo;rw[mg];exact⟨⟨1,hc.1,rfl,zo⟩,zo⟩
   |cons y L=>
    have xn:grow 110 (y::L)=.slice (.own 110) (y::L):=rfl;simp[s1,h1,s5,h5,s8,xn,hw,hlen,pq,k3,df,cD,cV,tP,bh,ai];exact⟨⟨i+1,zo,by rw[yx]<;>rfl,zo⟩,zo⟩
  .clear s1 h1 s5 h5 s7 S H;intro S H s7
   have iz:grow 110 (ct ((jN (jQ s ba) 1 s.cells.length).map eG))=.slice (.own 110) (ct ((jN (jQ s ba) 1 s.cells.length).map eG)):=by
    rw[Al _ hc.1]<;>rfl
   rw[iz]at s7;have hb:tD (1,jQ s ba 1) (jN (jQ s ba) 2 (s.cells.length-1))=Bn s ba:=rfl;rw[hb]at qA;generalize ct ((jN (jQ s ba) 1 s.cells.length).map eG)=L at s7 qA;generalize Bn s ba=q at qA⊢;simp[s7];refine oc qA ?_;simp[dz,eG,cD]
 .rw[ho]at lZ
  have Da:yN s=[.int .i64 0,.int .i64 0,.int .i64 e]:=by
   rcases vE s e he ho with⟨h1,rfl⟩|⟨h1,h2,rfl⟩
   .simp[yN,h1]
   .simp[yN,h1,h2]
  rw[Da]
  have pF:(e !=0)=true:=by simpa using he
  refine dF hG func28 ntmps28 c28 ?_;simp[c28,cH,bh,ai];refine oc qo ?_;simp;refine oc lZ ?_;simp[eM,cV,bh,ai,zT,cD,he,pF]
def aai(hG:aQ GI)(s:bf)(hs:s.cells.length<1000)(e:Nat)(he:e=0\/e=1)(dR:dH e s≠[]):AC prog GI 60 [cH s,.int .i64 (e:Nat)] (.ret (.slice (.own 3) (ints (dH e s)))):=by
 refine AC.j7 func60 rfl ntmps60 ah7 λcc w=>X4 hG s hs e he cc w λS5 H5 s6=>?_
 have ES:ints (dH e s)≠[]:=by simpa[ints]using dR
 have V3:S5 6=.slice (.own 3) (ints (dH e s)):=by rw[s6];simp[grow,ES]
 clear s6;show SW prog GI 29 none (.seq (.region _ _ false) .ret) _ _ _ _
 refine SW.seq (SW.hand hG (p:=0) (lm:=[0,1]) (l2:=[]) (lh:=[]) (oh:=[_,_]) (oA:=[]) rfl rfl rfl rfl zk (λ_ h=>h) (po:=[]) (ox:=[]) rfl rfl rfl rfl
  (K1:=λS H=>S 6=.slice (.own 3) (ints (dH e s))) (K2:=λo S H=>o=Old.plain cc w/\S 4=.slice (.own 3) (ints (dH e s))) (K3:=λo S H=>o=Old.plain cc w/\S 4=.slice (.own 3) (ints (dH e s))) ?_ ?_ ?_ ?_)
 .exact V3
 .rintro w0 g S H a w' m dI ho R s6;have r6:=R.slot 6 zd (λh=>h);rw[s6]at r6;have cM:=R.size
  obtain⟨c,hc⟩:∃c,a.tmps.getD 6 undef=c:=⟨_,rfl⟩
  rw[hc]at r6;have rv:RD g.Pr w' (.slice .view (ints (dH e s))) c:=(r6.eP rfl).bC;refine cI rfl rfl zr ((run_move (x:=.tmp 6) w' rfl).trans (congrArg (λv=>Result.ok (Next.value v) w') hc)) ?_;have R1:=R.put 28 (.slice .view (ints (dH e s))) c zd (.data _ _ rv) trivial
  have yR:(a.put (some 28) c).tmps.getD 28 undef=c:=by simp[Act.put,cM]
  refine cI rfl rfl zr ((run_assign (x:=.tmp 28) w' rfl).trans (congrArg (λv=>Result.ok (Next.value v) w') yR)) ?_;have R2:=R1.put 4 (.slice .view (ints (dH e s))) c zd (.data _ _ rv) trivial
  have e4:((a.put (some 28) c).put (some 4) c).tmps.getD 4 undef=c:=by simp[Act.put,cM]
  have e6:((a.put (some 28) c).put (some 4) c).tmps.getD 6 undef=a.tmps.getD 6 undef:=by simp[Act.put,aem]
  obtain⟨g',q1,R3⟩:=R2.Qx (t:=6) (u:=4) (e:=3) (es:=ints (dH e s)) zd zd zd (by simp[aF,s6]) (by rw[e4,e6,hc]);exact⟨g',_,_,R3,by rw[q1];exact ho,bX _ _ _⟩
 .rintro o S H ⟨rfl,s4⟩;exact⟨λ_ h=>h,rfl,s4⟩
 .rintro o S H ⟨rfl,s4⟩;refine SW.ret ⟨e_.plain rfl,rfl,_,?_,rfl⟩;show bQ prog 29 [.tmp 4] S H=_;simp[bQ,bG,bH,s4,AV.aX,AV.out]
def Sm{a:Act}{w:World}{o:Oper}{x y:Operand}{t ty:TypeId}{m n:Int}(ho:o.op=.binOp .add t x y ty)(hx:a.eval x=.int .i64 m)(hy:a.eval y=.int .i64 n):(execOp a.eval o).run prog w=.ok (.value (.int .i64 (IntKind.i64.wrap (m+n)))) w:=by
 unfold execOp;simp[ho,hx,hy,Go.binOp,Op.intArith,eqGuard]
def kV(s:bf)(i n:Nat):List Int:=(dH 0 s).set i ((dH 0 s).getD i 0+n)
def rJ(s:bf)(ba:List Int)(i n:Nat):Bool:=decide (A8 s ba (kV s i n)=ba.length)
def TP(l:List Int):kT 1 (ints l):=λx hx=>by
 obtain⟨k,_,rfl⟩:=aew.1 hx;exact⟨rfl,rfl,λc hc=>by simp[AV.cells]at hc;subst hc;rfl⟩
def ints_set(l:List Int)(i:Nat)(x:Int):(ints l).set i (.int .i64 x)=ints (l.set i x):=by simp[ints,List.map_set]
structure PO(cc:Nat->Nat->Prop)(o:Old):Prop where
 c:o.c=cc
 ds:o.ds=[]
 bx:∀d,¬o.bx d
def adx (hG:aQ GI) (s:bf) (h:jx s) (ba:List Int) (hn:(∀ x∈ba,0≤x∧x≤1000)∧ba.length≤1000) {i:Nat} (hi:i < s.cells.length) {n:Nat} (U4:n≤900) :
  AC prog GI 64 [.int .i64 (n:Nat),.ref (bh s),.ref [.int .i64 (i:Nat)],.ref (cV s ba)] (.ret (.bool (rJ s ba i n))):=by
 have hc:=h.cells
 have xl:(dH 0 s).length=s.cells.length:=by simp[dH]
 have dR:dH 0 s≠[]:=λh0=>by rw[h0]at xl;simp at xl;omega
 have zu:=(vM h 0).2
 have dV:i<(dH 0 s).length:=zo
 have hxi:=zu _ (ad2 dV)
 have adQ:(dH 0 s)[i]<=20:=by
  have:=h.A4 _ (ad2 hi);simp[dH,yX];omega
 have DL:(dH 0 s).getD i 0=(dH 0 s)[i]:=by simp[aeY,dV]
 have Sx:=aai hG s zo 0 (.inl rfl) dR
 have yt:(kV s i n).length=s.cells.length:=by simp[kV,xl]
 have Ko:=TY hG s h ba hn.1 hn.2 (kV s i n) yt (λx hx=>by
  rcases ahw hx with h1|h1
  .exact zu x h1
  .rw[h1,DL];omega)
 have rZ:((gX ba (kB (kV s i n)) (ic (ij s) s.cells.length):Int)==(ba.length:Int))=rJ s ba i n:=by
  show _=decide (gX ba (kB (kV s i n)) (ic (ij s) s.cells.length)=ba.length);rw[aeW,aej,aeS];omega
 obtain⟨i3,Fu,vr⟩:=iZ 3 1;obtain⟨d3,O6,adg⟩:=vZ 3
 refine AC.j7 func64 rfl ntmps64 ah7 λcc w=>?_
 refine eR hG c64.qa (λS H=>S 0=.int .i64 (n:Nat)/\S 1=.ref (bh s)/\S 2=.ref [.int .i64 (i:Nat)]/\S 3=.ref (cV s ba)) ?_ ?_
 .simp[c64,ah.qa,cV,bh,ai]
 rintro S1 H1 ⟨s0,s1,s2,s3⟩;show SW prog GI 23 none (.seq _ (.seq _ (.seq _ .ret))) _ _ _ _
 refine SW.seq (SW.hand hG (p:=1) (lm:=[1]) (l2:=[2]) (lh:=[_]) (oh:=[_]) (oA:=[_]) rfl rfl rfl rfl zk (λ_ h=>h)
  (po:=(c64.qb.qa.dl).take 1) (ox:=(c64.qb.qa.dl).drop 2) zk zk zk zk
  (K1:=λS H=>S 0=.int .i64 (n:Nat)/\S 2=.ref [.int .i64 (i:Nat)]/\S 3=.ref (cV s ba)/\S 7=cH s)
  (K2:=λo S H=>∃v,KO cc 3 1 (ints (dH 0 s)) o v/\S 0=.int .i64 (n:Nat)/\S 2=.ref [.int .i64 (i:Nat)]/\S 3=.ref (cV s ba)/\S 8=.val v)
  (K3:=λo S H=>∃v,KO cc 3 1 (ints (dH 0 s)) o v/\S 0=.int .i64 (n:Nat)/\S 2=.ref [.int .i64 (i:Nat)]/\S 3=.ref (cV s ba)/\S 6=.val v) ?_ ?_ ?_ ?_)
 .simp[c64,ah.qa,ah.qb,ah.dl,s0,s1,s2,s3,cH,bh,ai]
 .rintro w0 g S H a w' m dI ho R ⟨s0,s2,s3,s7⟩;have r7:=R.slot 7 zd (λh=>h);rw[s7]at r7
  refine il rfl rfl zr (ia (k:=60) (args:=#[a.tmps.getD 7 undef,.int .i64 0]) w' rfl rfl ?_ zk) (Sx w' (gz g false) #[a.tmps.getD 7 undef,.int .i64 0] (hG w0 w' dI (by have:=R.below;rwa [R.base]at this)) rfl (λj hj eX=>by
   match j,hj with
   |0,_=>exact(r7.dW rfl).mono (cC.same λb k _ hp=>.inl hp) λ_ _ h=>h
   |1,_=>exact .data _ _ (.int _ _))) ?_
  .simp only[aeN,aer,aeF,Act.eval]
  intro en w2 hE;obtain⟨v,g',rfl,R2,hK⟩:=F8 R (cc:=cc) (by rw[ho];exact⟨rfl,rfl,λ_ h=>h⟩) Fu (by rw[vr];exact TP _) hE;rw[vr]at hK;refine⟨_,rfl,?_⟩
  have px:v.oneCell'=true:=by
   rcases hK.row with⟨⟨_,rfl⟩,_⟩|⟨_,_,_,rfl,_⟩<;>rfl
  exact⟨g',_,_,R2.put 8 (.val v) v zd (.data _ _ (.val _ px)) trivial,v,hK,by simp[aF,s0],by simp[aF,s2],by simp[aF,s3],by simp[aF]⟩
 .rintro o S H ⟨v,hK,s0,s2,s3,s8⟩;refine⟨hK.bx,?_⟩;simp[c64,ah.qa,ah.qb,ah.dl,s0,s2,s3,s8];exact hK
 clear s0 s1 s2 s3 S1 H1;rintro o S1 H1 ⟨v,hK,s0,s2,s3,s6⟩;have hKb:=hK.bx
 refine SW.seq (SW.hand hG (p:=2) (lm:=[2,3,4,5,6,7]) (l2:=[]) (lh:=[_,_]) (oh:=[_,_,_,_,_,_]) (oA:=[]) rfl rfl rfl rfl zk hKb
  (po:=(c64.qb.qb.qa.dl).take 2) (ox:=[]) zk rfl zk rfl
  (K1:=λS H=>S 0=.int .i64 (n:Nat)/\S 3=.ref (cV s ba)/\S 6=.val v/\S 9=.val v/\S 10=.int .i64 (i:Nat))
  (K2:=λo S H=>PO cc o/\S 3=.ref (cV s ba)/\S 6=vI (kV s i n))
  (K3:=λo S H=>PO cc o/\S 3=.ref (cV s ba)/\S 6=vI (kV s i n)) ?_ ?_ ?_ ?_)
 .simp[c64,ah.qa,ah.qb,ah.dl,s0,s2,s3,s6]
 .rintro w0 g S H a w' m dI ho R ⟨s0,s3,s6,s9,cE⟩;rw[<-ho]at hK
  have QI:i<(ints (dH 0 s)).length:=by simpa[ints]using dV
  obtain⟨b,cap,cur,hv,y7,HU,gr⟩:=hK.cell R QI
  have F2:(ints (dH 0 s))[i]=.int .i64 (dH 0 s)[i]:=by simp[ints]
  have Gj:0<((ints (dH 0 s))[i]).cells.length:=by rw[F2];simp[AV.cells]
  have hc0:=gr 0 Gj
  have RA:Ic (((ints (dH 0 s))[i]).cells[0]'Gj)=.int .i64 (dH 0 s)[i]:=by simp only[F2];rfl
  rw[RA,afW,Nat.add_zero]at hc0;have t9:=R.slot 9 zd (λh=>h);rw[s9]at t9;have e9:a.eval (.tmp 9)=.slice (some ⟨b,0,none⟩) (ints (dH 0 s)).length cap:=t9.jT.trans hv;have t10:=R.slot 10 zd (λh=>h);rw[cE]at t10;have jZ:a.eval (.tmp 10)=.int .i64 (i:Nat):=t10.int_eq;have t0:=R.slot 0 zd (λh=>h);rw[s0]at t0;have e0:a.eval (.tmp 0)=.int .i64 (n:Nat):=t0.int_eq;have cM:=R.size;have qk:IntKind.i64.wrap ((dH 0 s)[i]+n)=(dH 0 s)[i]+n:=bU zo;refine cI rfl rfl zr (vb (k:=i) rfl zk Fu e9 jZ QI) ?_;rw[vr,afW];have R1:=R.put 11 (.val (.pointer (some ⟨b,i,none⟩))) (.pointer (some ⟨b,i,none⟩)) zd (.data _ _ (.val _ rfl)) trivial
  have p:=λt c=>dJ a 11 t c zo
  have f11:=(p 11 (.pointer (some ⟨b,i,none⟩))).trans (if_pos rfl);have f9:=((p 9 (.pointer (some ⟨b,i,none⟩))).trans (if_neg zd)).trans e9;have f10:=((p 10 (.pointer (some ⟨b,i,none⟩))).trans (if_neg zd)).trans jZ;have f0:=((p 0 (.pointer (some ⟨b,i,none⟩))).trans (if_neg zd)).trans e0;have YG:=R1.size;show wpOpsIn _ _ _ _ _ [3,4,5,6,7] (a.put (some 11) (.pointer (some ⟨b,i,none⟩))) w'
  generalize a.put (some 11) (.pointer (some ⟨b,i,none⟩))=a1 at*
  clear p e9 jZ e0 t9 t10 t0;refine cI rfl rfl zr (CN rfl f11 O6 adg HU hc0.2) ?_;have R2:=R1.put 12 (.int .i64 (dH 0 s)[i]) (.int .i64 (dH 0 s)[i]) zd (.data _ _ (.int _ _)) trivial
  have p:=λt c=>dJ a1 12 t c zo
  have g12:=(p 12 (.int .i64 (dH 0 s)[i])).trans (if_pos rfl);have g9:=((p 9 (.int .i64 (dH 0 s)[i])).trans (if_neg zd)).trans f9;have g10:=((p 10 (.int .i64 (dH 0 s)[i])).trans (if_neg zd)).trans f10;have g0:=((p 0 (.int .i64 (dH 0 s)[i])).trans (if_neg zd)).trans f0;have LC:=R2.size;show wpOpsIn _ _ _ _ _ [4,5,6,7] (a1.put (some 12) (.int .i64 (dH 0 s)[i])) w'
  generalize a1.put (some 12) (.int .i64 (dH 0 s)[i])=a2 at*
  clear p f11 f9 f10 f0;refine cI rfl rfl zr ((run_move (x:=.tmp 0) w' rfl).trans (congrArg (λv=>Result.ok (Next.value v) w') g0)) ?_;have R3:=R2.put 13 (.int .i64 (n:Nat)) (.int .i64 (n:Nat)) zd (.data _ _ (.int _ _)) trivial
  have p:=λt c=>dJ a2 13 t c zo
  have k13:=(p 13 (.int .i64 (n:Nat))).trans (if_pos rfl);have k12:=((p 12 (.int .i64 (n:Nat))).trans (if_neg zd)).trans g12;have k9:=((p 9 (.int .i64 (n:Nat))).trans (if_neg zd)).trans g9;have k10:=((p 10 (.int .i64 (n:Nat))).trans (if_neg zd)).trans g10;have ad1:=R3.size;show wpOpsIn _ _ _ _ _ [5,6,7] (a2.put (some 13) (.int .i64 (n:Nat))) w'
  generalize a2.put (some 13) (.int .i64 (n:Nat))=a3 at*
  clear p g12 g9 g10 g0;refine cI rfl rfl zr (Sm rfl k12 k13) ?_;rw[qk];have R4:=R3.put 14 (.int .i64 ((dH 0 s)[i]+n)) (.int .i64 ((dH 0 s)[i]+n)) zd (.data _ _ (.int _ _)) trivial
  have p:=λt c=>dJ a3 14 t c zo
  have l14:=(p 14 (.int .i64 ((dH 0 s)[i]+n))).trans (if_pos rfl);have l9:=((p 9 (.int .i64 ((dH 0 s)[i]+n))).trans (if_neg zd)).trans k9;have l10:=((p 10 (.int .i64 ((dH 0 s)[i]+n))).trans (if_neg zd)).trans k10;have MY:=R4.size;show wpOpsIn _ _ _ _ _ [6,7] (a3.put (some 14) (.int .i64 ((dH 0 s)[i]+n))) w'
  generalize a3.put (some 14) (.int .i64 ((dH 0 s)[i]+n))=a4 at*
  clear p k12 k13 k9 k10;refine cI rfl rfl zr (vb (k:=i) rfl zk Fu l9 l10 QI) ?_;rw[vr,afW];have R5:=R4.put 15 (.val (.pointer (some ⟨b,i,none⟩))) (.pointer (some ⟨b,i,none⟩)) zd (.data _ _ (.val _ rfl)) trivial
  have p:=λt c=>dJ a4 15 t c zo
  have m15:=(p 15 (.pointer (some ⟨b,i,none⟩))).trans (if_pos rfl);have m14:=((p 14 (.pointer (some ⟨b,i,none⟩))).trans (if_neg zd)).trans l14;show wpOpsIn _ _ _ _ _ [7] (a4.put (some 15) (.pointer (some ⟨b,i,none⟩))) w'
  generalize a4.put (some 15) (.pointer (some ⟨b,i,none⟩))=a5 at*
  clear p l14 l9 l10;obtain ⟨DO,eA,Vp,hat⟩:=Nn (o:={ dst:=none,op := .store 3 (.tmp 15) (.tmp 14),type:=0,pos := "",after := #[],guard:=none }) (v := .int .i64 ((dH 0 s)[i]+n)) rfl m15 Fu vr HU hc0.1 m14 rfl;refine fD rfl rfl zr eA ?_;have R6:=R5.o_ y7 (.cells DO 3 (0,0));have hK2:=hK.set (j:=i) (k:=0) QI (by rw [F2];simp [AV.cells]) (x := .int .i64 ((dH 0 s)[i]+n)) (u := .int .i64 ((dH 0 s)[i]+n)) (λx hx=>by simp at hx;subst hx;exact ⟨rfl,rfl,λc hc=>by simp [AV.cells] at hc;subst hc;rfl⟩) (by rw [F2]<;>rfl) hv y7 Vp (λm=>by rw [hat m,afW,Nat.add_zero]<;>rfl);rw [ints_set] at hK2
  have qU:(dH 0 s).set i ((dH 0 s)[i]+n)=kV s i n:=by rw[kV,DL]
  rw[qU]at hK2;obtain⟨g',R7,q1,q2,q3⟩:=KO.done hK2 R6 (t:=6) zd (by simp[aF,s6]);exact⟨g',_,_,R7,⟨q1,q2,q3⟩,by simp[aF,s3],by simp[aF]<;>rfl⟩
 .rintro o S H ⟨hp,s3,s6⟩;exact⟨hp.bx,hp,s3,s6⟩
 clear s0 s2 s3 s6 S1 H1 hK hKb;rintro o S1 H1 ⟨hp,s3,s6⟩;refine qY hG c64.qb.qb.qb.qa (λd _=>hp.bx d) (λS H=>S 5=.bool (rJ s ba i n)) ?_ ?_
 .simp[c64,ah.qa,ah.qb,s3,s6,cV,bh,ai];refine oc Ko ?_;simp[s3,s6,cV,bh,ai];exact rZ
 .intro S H s5;refine SW.ret ⟨e_.plain hp.ds,hp.c,_,?_,rfl⟩;show bQ prog 23 [.tmp 5] S H=_;simp[bQ,bG,bH,s5,AV.aX,AV.out]
def mo(e:List UInt8):AV:=.iface 133 (.agg [.str e])
def KU(hG:aQ GI)(s:List UInt8):AC prog GI 90 [.bool true,.str s] (.ret (.ea [])):=by
 refine dF hG func90 ntmps90 c90 ?_;simp[c90]
def Ei(hG:aQ GI)(s:List UInt8):AC prog GI 90 [.bool false,.str s] (.panic (mo s)):=by
 refine dF hG func90 ntmps90 c90 ?_;simp[c90,cD,mo,cQ,cy,cj]
def nC(w:List UInt8):Bool:=fP w&&decide (w.length<=2)
def mO{w:List UInt8}:nC w=true↔w≠[]/\w.length<=2/\(∀c∈w,digit c)/\bW (da w)=w:=by
 unfold nC;rw[aeb,kq,aej]
 constructor
 .rintro⟨⟨h1,h2,h3,h4⟩,h5⟩;exact⟨h1,h5,h3,h4⟩
 .rintro⟨h1,h2,h3,h4⟩;exact⟨⟨h1,zo,h3,h4⟩,h2⟩
def qK:∀(w:List UInt8),(∀c∈w,digit c)->w.length<=2->0<=da w/\da w<100
 |[],_,_=>by simp[da]
 |[a],h,_=>by have:=h a ah7;unfold digit at this;simp[da];omega
 |[a,b],h,_=>by have h1:=h a ah7;have h2:=h b ah7;unfold digit at h1 h2;simp[da];omega
def ft(w:List UInt8):Except (List UInt8) Int:=if nC w then .ok (da w)else .error w
def vc:Except (List UInt8) Int->jr
 |.ok n=>.ret (.int .i64 n)
 |.error e=>.panic (mo e)
def aa6(i:Nat)(hi:i<100):AC prog GI 79 [.int .i64 (i:Nat)] (.ret (.str (v_ 20 i))):=by
 intro w old dn hG hl hr;obtain⟨v,rfl⟩:=Tx hl rfl;have e1:=(hr 0 ah7 ah7).int_eq;simp only[List.getElem_toArray,List.getElem_cons_zero]at e1;subst e1;refine(Tryz.strconv_Itoa_small i hi w).mono ?_;rintro e w' ⟨rfl,rfl⟩;refine⟨afb _ _,λ_=>0,λ_ _=>rfl,_,rfl,.data _ _ ?_,trivial⟩;rw[D6 20 i zo zo];exact .str _
def Fp{n:Int}(h0:0<=n)(h1:n<100):AC prog GI 79 [.int .i64 n] (.ret (.str (bW n))):=by
 have:=aa6 (GI:=GI) n.toNat zo;rw[aia h0]at this;exact this
noncomputable def sQ:ah:=ah.qb c91.qb.qb.qa.qb.qb
noncomputable def vT:ah:=ah.qb c91.qb.qb
def Hp(hG:aQ GI)(wd:List UInt8)(yt:wd.length<1000000):AC prog GI 91 [.str wd] (vc (ft wd)):=by
 refine AC.j7 func91 rfl ntmps91 ah7 λcc w=>?_
 have du:∀k d,¬(oK cc w k).bx d:=λ_ _ h=>h
 refine eR hG c91.qa (λS' H'=>S' 0=.str wd) ?_ ?_
 .simp[c91,ah.qa]
 rintro S1 H1 s0;refine eR hG c91.qb.qa (λS' H'=>S' 0=.str wd/\S' 3=.int .i64 0) ?_ ?_
 .simp[c91,ah.qa,ah.qb,s0]
 rintro S2 H2 ⟨s0,s3⟩;show SW prog GI 41 none (.seq (.seq _ (.block 0 (.loop _))) (.seq _ (.seq _ .ret))) _ _ _ _
 obtain⟨sb,rZ⟩:∃sb:ByteArray,sb=⟨wd.toArray⟩:=⟨_,rfl⟩
 have zY:nC wd=false->ft wd=.error wd:=λh=>by unfold ft;rw[h]<;>rfl
 refine SW.seq (SW.seq (SW.mid hG (p:=1) (oh:={ dst:=some 7,op := .range 9 (.tmp 6),type:=0,pos := "text.go:97",after:=_,guard:=none }) (lh:=[_]) (oA:=[]) (l2:=[]) rfl rfl rfl rfl zk rfl (λ_ h=>h) (po:=(c91.qb.qb.qa.qa.dl).take 1) (ox:=[]) zk rfl zk rfl
  (K1:=λS' H'=>S' 6=.str wd/\S' 3=.int .i64 0/\S' 0=.str wd)
  (K2:=λo S' H'=>∃k b,o=oK cc w k/\k b=some (.stringIter sb 0)/\S' 7=.val (.pointer (some ⟨b,0,none⟩))/\S' 3=.int .i64 0/\S' 0=.str wd)
  (K3:=λo S' H'=>∃k b,o=oK cc w k/\k b=some (.stringIter sb 0)/\S' 7=.val (.pointer (some ⟨b,0,none⟩))/\S' 3=.int .i64 0/\S' 0=.str wd) ?_ ?_ ?_ ?_))
 .simp[c91,ah.qa,ah.qb,ah.dl,s0,s3]
 .rintro w0 g S8 H8 a w8 ho R ⟨s6,s3,s0⟩;have t6:=R.slot 6 zd (λh=>h);rw[s6]at t6
  have t6:a.eval (.tmp 6)=.string sb:=by rw[rZ];exact pP t6
  have gp:prog.underlying 9=some .string:=zk
  have R2:=R.o9 (.stringIter sb 0);refine⟨_,_,_,aF S8 7 (.val (.pointer (some ⟨w8.heap.size,0,none⟩))),H8,.inl (BS rfl gp t6),R2.put 7 _ _ zd (.data _ _ (.val _ rfl)) trivial,aF g.old.cg w8.heap.size (some (.stringIter sb 0)),w8.heap.size,?_,bX _ _ _,by simp[aF],by simp[aF,s3],by simp[aF,s0]⟩;show({ g.old with cg:=aF g.old.cg w8.heap.size _ }:Old)=_
  rw[ho]<;>rfl
 .rintro o S8 H8 ⟨k,b,rfl,h⟩;exact⟨du _,k,b,rfl,h⟩
 rintro o S8 H8 ⟨k,b,rfl,AQ,s7,s3,s0⟩
 refine SW.block (SW.Vm (λo S' H'=>∃k b pos,o=oK cc w k/\k b=some (.stringIter sb pos)/\pos<=wd.length/\(∀c∈wd.take pos,digit c)/\(0<pos->wd.length<=2)/\S' 7=.val (.pointer (some ⟨b,0,none⟩))/\S' 3=.int .i64 (da (wd.take pos))/\S' 0=.str wd)
  (λo S' _=>match S' 7 with|.val (.pointer (some a))=>(match o.cg a.block with|some (.stringIter _ p)=>wd.length-p|_=>0)|_=>0) ⟨k,b,0,rfl,AQ,ae2 _,ah7,ah7,s7,s3,s0⟩ ?_)
 rintro o S9 H9 ⟨k,b,pos,rfl,AQ,ky,Jp,Gj,s7,s3,s0⟩;have m7:=s7
 have Vi:∀(S:au)(k:Nat->Option Obj) p,S 7=.val (.pointer (some ⟨b,0,none⟩))->k b=some (.stringIter sb p)->(match S 7 with|.val (.pointer (some a))=>(match(oK cc w k).cg a.block with|some (.stringIter _ p)=>wd.length-p|_=>0)|_=>0)=wd.length-p:=by
  intro S k p h1 h2;rw[h1];show(match k b with|some (.stringIter _ p)=>wd.length-p|_=>0)=_;rw[h2]
 have cM:sb.size=wd.length:=by rw[rZ]<;>rfl
 have Yj:=KU (GI:=GI) hG wd;have EB:=Ei (GI:=GI) hG wd
 have e8:∀n H,fz H (.int .i64 n)=.int .i64 n:=λn H=>rfl
 have e9:∀H,fz H (.str wd)=.str wd:=λH=>rfl
 have jZ:∀b H,fz H (.bool b)=.bool b:=λb H=>rfl
 show SW prog GI 41 none (.seq _ (.seq (.cond _ _ _) (.block 1 (.seq _ (.seq _ _))))) _ _ _ _
 by_cases hp:pos<wd.length
 case neg=>
  refine SW.seq (SW.mid hG (p:=0) (oh:={ dst:=some 8,op := .next (.tmp 7) true,type:=0,pos := "text.go:97",after := #[],guard:=none }) (lh:=[]) (oA:=[_]) (l2:=[1]) rfl rfl rfl rfl zk rfl (du _) (po:=[]) (ox:=(sQ.qa.dl).drop 1) rfl zk rfl zk
   (K1:=λS' H'=>S' 7=.val (.pointer (some ⟨b,0,none⟩))/\S' 3=.int .i64 (da wd)/\S' 0=.str wd)
   (K2:=λo S' H'=>o=oK cc w k/\S' 8=.ea [.bool false]/\S' 3=.int .i64 (da wd)/\S' 0=.str wd)
   (K3:=λo S' H'=>o=oK cc w k/\S' 9=.bool false/\S' 3=.int .i64 (da wd)/\S' 0=.str wd) ?_ ?_ ?_ ?_)
  .have:pos=wd.length:=zo
   subst this;rw[afu]at s3;exact⟨s7,s3,s0⟩
  .rintro w0 g uB yG a Sj ho R ⟨s7,s3,s0⟩;have t7:=R.slot 7 zd (λh=>h);rw[s7]at t7;have t7:a.eval (.tmp 7)=.pointer (some ⟨b,0,none⟩):=t7.jT
   have hk:g.old.cg b=some (.stringIter sb pos):=by rw[ho];exact AQ
   have hb:=(R.kept b _ hk).2.1;refine⟨_,_,_,aF uB 8 (.ea [.bool false]),yG,.inl (vU rfl t7 hb zo),R.put 8 _ _ zd (.data _ _ (.ea _ _ rfl λi h h'=>?_)) trivial,ho,bX _ _ _,by simp[aF,s3],by simp[aF,s0]⟩
   match i,h with
   |0,_=>exact .bool _
  .rintro o uB yG ⟨rfl,s8,s3,s0⟩;refine⟨du _,?_⟩;simp[c91,sQ,ah.qa,ah.qb,ah.dl,cQ,an,cy,ar,ev,aM.S,aM.H,aF,bl,s3,s0,s8,AV.bC]
  rintro o uB yG ⟨rfl,s9,s3,s0⟩;refine SW.seq (SW.cond rfl false (by show uB 9=_;rw[s9]) (SW.exit ?_));show SW prog GI 41 none (.seq _ _) _ _ _ _
  have tr:pos=wd.length:=zo
  have GH:∀c∈wd,digit c:=by rw[tr,afu]at Jp;exact Jp
  by_cases dR:wd=[]
  .have nL:nC wd=false:=by rw[dR]<;>rfl
   rw[zY nL]
   have z7:(wd !=[])=false:=by simpa using dR
   refine SW.seq (SW.gO hG d_ zk (λd _=>du _ d) (ac:=ah.qa vT) zk ?_);unfold fG.cW;simp[c91,vT,ah.qa,ah.qb,cW,cQ,an,cy,ar,aq,bD,ev,aM.S,aM.H,aF,bl,s3,s0,AV.bC,bV,z7,e8,e9,jZ,bj];refine oc EB ?_;simp[fB,thenS,nK,pz,vc,mo];exact⟨rfl,rfl⟩
  have C7:wd.length<=2:=Gj (by rw[tr];exact afi.2 dR);have hs:=qK wd GH C7;have Gx:=Fp (GI:=GI) hs.1 hs.2
  have z7:(wd !=[])=true:=by simpa using dR
  by_cases It:bW (da wd)=wd
  case neg=>
   have nL:nC wd=false:=by
    rw[ag3];intro h;exact It (mO.1 h).2.2.2
   rw[zY nL]
   have Y7:(bW (da wd)==wd)=false:=by simpa using It
   refine SW.seq (SW.gO hG d_ zk (λd _=>du _ d) (ac:=ah.qa vT) zk ?_);unfold fG.cW;simp[c91,vT,ah.qa,ah.qb,cW,cQ,an,cy,ar,aq,bD,ev,aM.S,aM.H,aF,bl,s3,s0,AV.bC,bV,z7,e8,bj];refine oc Gx ?_;simp[fB,aF,AV.bC,s3,s0,bV,e9,jZ,Y7];refine oc EB ?_;simp[fB,thenS,nK,pz,vc,mo];exact⟨rfl,rfl⟩
  have hgw:nC wd=true:=mO.2 ⟨dR,C7,GH,It⟩
  have kl:ft wd=.ok (da wd):=by unfold ft;rw[hgw]<;>rfl
  rw[kl];rw[It]at Gx;refine qY hG vT.qa (λd _=>du _ d) (λS' H'=>S' 3=.int .i64 (da wd)) ?_ ?_
  .simp[c91,vT,ah.qa,ah.qb,cW,cQ,an,cy,ar,aq,ev,aM.S,aM.H,aF,bl,s3,s0,AV.bC,bV,z7,e8];refine oc Gx ?_;simp[fB,aF,AV.bC,s3,s0,bV,e9,jZ];refine oc Yj ?_;simp[fB,aF,AV.bC,s3,s0]
  rintro S11 H11 s3;show SW prog GI 41 none (.seq _ .ret) _ _ _ _;refine qY hG vT.qb.qa (λd _=>du _ d) (λS' H'=>S' 2=.int .i64 (da wd)) ?_ ?_
  .simp[c91,vT,ah.qa,ah.qb,s3]
  rintro S12 H12 s2;refine SW.ret ⟨e_.plain rfl,rfl,_,?_,rfl⟩;show bQ prog 41 [.tmp 2] S12 H12=_;simp[bQ,bG,bH,s2,AV.aX,AV.out]
 case pos=>
  obtain⟨c,hc⟩:∃c,wd[pos]=c:=⟨_,rfl⟩
  obtain⟨r,hr⟩:∃r:Nat,(Utf8.decode sb pos).1=r:=⟨_,rfl⟩
  obtain⟨p',wu⟩:∃p':Nat,pos+(Utf8.decode sb pos).2=p':=⟨_,rfl⟩
  have DU:sb[pos]' zo=c:=by subst rZ;rw[<-hc]<;>rfl
  refine SW.seq (SW.mid hG (p:=0) (oh:={ dst:=some 8,op := .next (.tmp 7) true,type:=0,pos := "text.go:97",after := #[],guard:=none }) (lh:=[]) (oA:=[_]) (l2:=[1]) rfl rfl rfl rfl zk rfl (du _) (po:=[]) (ox:=(sQ.qa.dl).drop 1) rfl zk rfl zk
   (K1:=λS' H'=>S' 7=.val (.pointer (some ⟨b,0,none⟩))/\S' 3=.int .i64 (da (wd.take pos))/\S' 0=.str wd)
   (K2:=λo S' H'=>o=oK cc w (aF k b (some (.stringIter sb p')))/\S' 7=.val (.pointer (some ⟨b,0,none⟩))/\S' 8=.ea [.bool true,.int .i64 pos,.int .i32 r]/\S' 3=.int .i64 (da (wd.take pos))/\S' 0=.str wd)
   (K3:=λo S' H'=>o=oK cc w (aF k b (some (.stringIter sb p')))/\S' 7=.val (.pointer (some ⟨b,0,none⟩))/\S' 9=.bool true/\S' 8=.ea [.bool true,.int .i64 pos,.int .i32 r]/\S' 3=.int .i64 (da (wd.take pos))/\S' 0=.str wd) ⟨s7,s3,s0⟩ ?_ ?_ ?_)
  .rintro w0 g uB yG a Sj ho R ⟨s7,s3,s0⟩;have t7:=R.slot 7 zd (λh=>h);rw[s7]at t7;have t7:a.eval (.tmp 7)=.pointer (some ⟨b,0,none⟩):=t7.jT
   have hk:g.old.cg b=some (.stringIter sb pos):=by rw[ho];exact AQ
   have hb:=(R.kept b _ hk).2.1;refine⟨_,_,_,aF uB 8 (.ea [.bool true,.int .i64 pos,.int .i32 r]),yG,.inl (FV rfl t7 hb zo hr wu),(R.o_ hk _).put 8 _ _ zd (.data _ _ (.ea _ _ rfl λi h h'=>?_)) trivial,?_,by simp[aF,s7],bX _ _ _,by simp[aF,s3],by simp[aF,s0]⟩
   .match i,h with
    |0,_=>exact .bool _
    |1,_=>exact .int _ _
    |2,_=>exact .int _ _
   .show({ g.old with cg:=aF g.old.cg b _ }:Old)=_
    rw[ho]<;>rfl
  .rintro o uB yG ⟨rfl,s7,s8,s3,s0⟩;refine⟨du _,?_⟩;simp[c91,sQ,ah.qa,ah.qb,ah.dl,cQ,an,cy,ar,ev,aM.S,aM.H,aF,bl,s3,s0,s7,s8,AV.bC]
  rintro o uB yG ⟨rfl,s7,s9,s8,s3,s0⟩;refine SW.seq (SW.cond rfl true (by show uB 9=_;rw[s9]) (SW.skip ?_));show SW prog GI 41 none (.block 1 (.seq _ (.seq _ _))) _ _ _ _
  by_cases vO:digit c/\wd.length<=2
  case neg=>
   have nL:nC wd=false:=by
    rw[ag3];intro h;obtain⟨_,h2,h3,_⟩:=mO.1 h;exact vO ⟨h3 c (hc▸ad2 hp),h2⟩
   rw[zY nL]
   have hrn:¬(48<=(r:Int)/\(r:Int)<=57/\(wd.length:Int)<=2):=by
    rintro⟨g1,g2,g3⟩;refine vO ⟨?_,zo⟩;have:=xV (s:=sb) (pos:=pos) zo (by rw[hr];omega);rw[hr]at this
    have Wc:c.toNat=r:=by rw[<-DU];exact this.symm
    unfold digit;omega
   refine SW.block (SW.gO hG d_ zk (λd _=>du _ d) (ac:=ah.qb sQ.qb.qb) zk ?_);unfold fG.cW
   by_cases g1:(48:Int)<=r
   .by_cases g2:(r:Int)<=57
    .have g3:¬(wd.length:Int)<=2:=λg3=>hrn ⟨g1,g2,g3⟩
     simp[c91,sQ,ah.qa,ah.qb,cW,cQ,an,cy,ar,bD,ev,aM.S,aM.H,aF,bl,s3,s0,s7,s8,AV.bC,bV,g1,g2,g3,e9,jZ,bj];refine oc EB ?_;simp[fB,thenS,nK,pz,vc,mo];exact⟨rfl,rfl⟩
    .simp[c91,sQ,ah.qa,ah.qb,cW,cQ,an,cy,ar,bD,ev,aM.S,aM.H,aF,bl,s3,s0,s7,s8,AV.bC,bV,g1,g2,e9,jZ,bj];refine oc EB ?_;simp[fB,thenS,nK,pz,vc,mo];exact⟨rfl,rfl⟩
   .simp[c91,sQ,ah.qa,ah.qb,cW,cQ,an,cy,ar,bD,ev,aM.S,aM.H,aF,bl,s3,s0,s7,s8,AV.bC,bV,g1,e9,jZ,bj];refine oc EB ?_;simp[fB,thenS,nK,pz,vc,mo];exact⟨rfl,rfl⟩
  obtain⟨U',C7⟩:=vO;have U9:=U';unfold digit at U9;have L':=aim sb pos zo (by rw[DU];omega)
  have Zw:r=c.toNat:=by rw[<-hr,L',DU]
  have C3:p'=pos+1:=by rw[<-wu,L']
  subst Zw;subst C3
  have Uu:∀x∈wd.take (pos+1),digit x:=by
   rw[aec hp,hc];intro x hx;rcases aeg.1 hx with hx|hx
   .exact Jp x hx
   .rw[aev]at hx;rw[hx];exact U'
  have qp:wd.take (pos+1)=wd.take pos++[c]:=by rw[aec hp,hc]
  have Cr:=iy (wd.take pos) Jp (by simp;omega);refine SW.block (SW.mono (Q:=λe o S' H'=>e=.normal/\o=oK cc w (aF k b (some (.stringIter sb (pos+1))))/\S' 7=.val (.pointer (some ⟨b,0,none⟩))/\S' 3=.int .i64 (da (wd.take (pos+1)))/\S' 0=.str wd) ?_ (SW.gO hG d_ zk (λd _=>du _ d) (ac:=ah.qb sQ.qb.qb) zk ?_))
  .rintro e o S' H' ⟨rfl,rfl,s7,s3,s0⟩;refine⟨⟨aF k b (some (.stringIter sb (pos+1))),b,pos+1,rfl,bX _ _ _,hp,Uu,λ_=>C7,s7,s3,s0⟩,?_⟩;show(match S' 7 with|.val (.pointer (some a))=>(match(oK cc w (aF k b (some (.stringIter sb (pos+1))))).cg a.block with|some (.stringIter _ p)=>wd.length-p|_=>0)|_=>0)<_;rw[Vi S' _ (pos+1) s7 (bX _ _ _),Vi S9 k pos m7 AQ];omega
  .unfold fG.cW
   have g1:(48:Int)<=c.toNat:=zo
   have g2:(c.toNat:Int)<=57:=zo
   have g3:(wd.length:Int)<=2:=zo
   have w1:IntKind.i64.wrap (10*da (wd.take pos))=10*da (wd.take pos):=bU zo;have w2:IntKind.i32.wrap ((c.toNat:Int)-48)=(c.toNat:Int)-48:=wrap32 zo;have w3:IntKind.i64.wrap ((c.toNat:Int)-48)=(c.toNat:Int)-48:=bU zo
   have w4:IntKind.i64.wrap (10*da (wd.take pos)+((c.toNat:Int)-48))=da (wd.take (pos+1)):=by rw[qp,uD,bU zo]
   simp[c91,sQ,ah.qa,ah.qb,cW,cQ,an,cy,ar,bD,ev,aM.S,aM.H,aF,bl,s3,s0,s7,s8,AV.bC,bV,g1,g2,g3,e9,jZ,bj];refine oc Yj ?_;simp[fB,aF,AV.bC,s3,s0,s7,bV,w1,w2,w3,w4,bj]
end Go.Proofs.Tryz
namespace Go.Proofs.Tryz
open Go Go.AL Go.RowKit Go.Proofs Go.Proofs.Tram
variable{GI:World->Prop}
def Bl{s:bf}(h:jx s):ij s s.cells.length=false:=by
 have:=h.pos;unfold ij
 have:¬s.cells.length<s.pos.toNat:=zo
 simp[this]
def PE{s:bf}(h:jx s)(es:List End):∀x∈dw s es,0<x:=by
 intro x hx;obtain⟨i,hi,rfl⟩:=aew.1 hx;have hi:=aeI.1 hi;have hw:=(o7 h.name (ad2 hi)).Cb;have hp:=h.fh;have ht:=h.eF;unfold BB;rw[lS hi];have a1:1*1<=s.fh*(s.name.words[i].cb.length:Int):=ae6 zo zo zo zo;have a3:0<=s.eF*(pX es i s.name.words[i].cb.length:Int):=ae3 zo zo;omega
def OG{ba:List Int}(hp:∀x∈ba,0<x){dK:Nat->Int}{vs:List (Nat×Nat)}{v:Nat×Nat}(hv:v∈vs)(h:ba.sum<=nw dK v.1 (v.2+1)):gX ba dK vs=ba.length:=by
 obtain⟨a,b,rfl⟩:=List.append_of_mem hv
 have key:∀(b:List (Nat×Nat))(n:Nat),n=ba.length->b.foldl (λn v=>n+(eZ (ba.drop n) (nw dK v.1 (v.2+1))).1) n=ba.length:=by
  intro b
  induction b with
  |nil=>intro n hn;exact hn
  |cons y b ih=>
   intro n hn;rw[List.foldl_cons];refine ih _ ?_;rw[hn,ahF];simp[eZ]
 have e:gX ba dK (a++v::b)=b.foldl (λn v=>n+(eZ (ba.drop n) (nw dK v.1 (v.2+1))).1) (gX ba dK a+(eZ (ba.drop (gX ba dK a)) (nw dK v.1 (v.2+1))).1):=by
  unfold gX;rw[aff,List.foldl_cons]
 rw[e];refine key b _ ?_;have hle:=Bc ba dK a
 obtain⟨n,hn⟩:∃n,gX ba dK a=n:=⟨_,rfl⟩
 rw[hn]at hle⊢
 have tu:∀x∈ba.drop n,0<x:=λx hx=>hp x (agf hx)
 have hs:(ba.take n).sum+(ba.drop n).sum=ba.sum:=by rw[<-afz,afa]
 have h0:=nY (l:=ba.take n) λx hx=>hp x (aeL hx)
 have h1:=nY (l:=ba.drop n) tu;have:=(Nb tu (t:=nw dK v.1 (v.2+1)) zo).2 zo;rw[this,aeM];omega
def Bm{s:bf}(h:jx s)(i n:Nat):∀j,0<=kB (kV s i n) j:=λj=>by
 unfold kB kV;rw[aeY,ahv];have hb:=(vM h 0).2
 have hg:∀k,0<=(dH 0 s).getD k 0:=λk=>by
  rw[aeY]
  cases hk:(dH 0 s)[k]? with
  |none=>exact af5 0
  |some x=>exact(hb x (afk hk)).1
 split
 .split
  .have:=hg i;simp only[Option.getD_some];omega
  .exact af5 0
 .have:=hg j;rwa [aeY]at this
def HP(l:List Int)(i j:Nat)(x:Int):(l.set i x).getD j 0=if i=j then(if i<l.length then x else 0)else l.getD j 0:=by
 rw[aeY,ahv];split
 .split<;>rfl
 .rw[aeY]
def M9(s:bf)(i:Nat){m n:Nat}(hmn:m<=n)(j:Nat):kB (kV s i m) j<=kB (kV s i n) j:=by
 unfold kB kV;rw[HP,HP];split
 .split
  .omega
  .exact af5 _
 .exact af5 _
def NX{s:bf}(h:jx s){ba:List Int}(hp:∀x∈ba,0<x)(i:Nat):∀x y,x<=y->rJ s ba i x=true->rJ s ba i y=true:=by
 intro x y hxy hx;unfold rJ at hx⊢;rw[aej]at hx⊢;have h1:=Pw (na:=ba) (nb:=ba) rfl (λ_ _ _=>af5 _) hp (Bm h i x) (Bm h i y) (Bl h) (Bl h) (λj _ hs=>⟨hs,M9 s i hxy j⟩);have h2:=Bc ba (kB (kV s i y)) (ic (ij s) s.cells.length);unfold A8 at hx⊢;omega
def NZ{s:bf}(h:jx s){f t m:Nat}(hf:f<=t)(ht:t<s.cells.length):(m:Int)<=nw (kB (kV s f m)) f (t+1):=by
 have hl:(dH 0 s).length=s.cells.length:=by simp[dH]
 have h0:(m:Int)<=kB (kV s f m) f:=by
  unfold kB kV;rw[aeY,ahv,if_pos rfl,if_pos zo,Option.getD_some];have:=(vM h 0).2 _ (ad2 (show f<(dH 0 s).length by omega));rw[aeY,ad_ zo,Option.getD_some];omega
 have key:∀d,(m:Int)<=nw (kB (kV s f m)) f (f+d+1):=by
  intro d
  induction d with
  |zero=>
   rw[Nat.add_zero,ym _ (aed f),DI];omega
  |succ d ih=>
   rw[show f+(d+1)+1=(f+d+1)+1 by omega,ym _ zo];have:=Bm h f m (f+d+1);omega
 have:=key (t-f);rwa [show f+(t-f)+1=t+1 by omega]at this
def PV{s:bf}(h:jx s){ba:List Int}(hp:∀x∈ba,0<x)(hv:(fl s).isEmpty=false):∃c,c<s.cells.length/\rJ s ba c ba.sum.toNat=true:=by
 cases uf:ic (ij s) s.cells.length with
 |nil=>simp[fl,uf]at hv
 |cons v l=>
  have df:=(GQ (Bl h)).1 v (by rw[uf];simp);refine⟨v.1,zo,?_⟩;unfold rJ A8;rw[aej];have h0:=nY hp;exact OG (v:=v) hp (by rw[uf];simp) (by have:=NZ h (m:=ba.sum.toNat) df.1 df.2;omega)
def Jv(p:Nat->Bool)(k:Nat):Nat:=((List.range k).find? p).getD k
def Ep(p:Nat->Bool)(k:Nat):rU p k (Jv p k):=by
 unfold Jv
 cases hf:(List.range k).find? p with
 |none=>
  refine⟨aed _,λx hx=>?_,λh=>absurd h ah7⟩;have:=agS.1 hf x (aeI.2 (by simpa using hx));simpa using this
 |some r=>
  obtain⟨h1,pa,pb,h2,h3⟩:=List.find?_eq_some_iff_append.1 hf;have hr:r<k:=aeI.1 (ahx hf);refine⟨by simp;omega,λx hx=>?_,λ_=>h1⟩;simp only[Option.getD_some]at hx
  have nx:x∈pa++r::pb:=by rw[<-h2];exact aeI.2 zo
  rcases aeg.1 nx with h|h
  .have:=h3 x h;simpa using this
  .exfalso
   have ZL:(pa++r::pb).Pairwise (·<·):=by rw[<-h2];exact ahT
   have ZL:=(agE.1 ZL).2.1;rcases aeD.1 h with h|h
   .omega
   .have:=(agQ.1 ZL).1 x h;omega
def jw(s:bf)(ba:List Int)(i:Nat):Nat:=Jv (rJ s ba i) (ba.sum.toNat+1)
def OZ(s:bf)(ba:List Int):Option (Nat×Nat):=match iC (jw s ba) ba.sum.toNat s.cells.length with
 |x::l=>some (tC x l)
 |[]=>none
def yP(s:bf):List AV:=
 if eb s then(match kU s.name with
  |some es=>if(fl s).isEmpty then[.int .i64 0,.int .i64 0,.int .i64 5]else(match OZ s (dw s es)with|some q=>[.int .i64 (q.1:Nat),.int .i64 (q.2:Nat),.int .i64 0]|none=>[])
  |none=>[.int .i64 0,.int .i64 0,.int .i64 7])else[.int .i64 0,.int .i64 0,.int .i64 2]
def zV:∀(l:List (Nat×Nat))(x:Nat×Nat),mR (eG x) (l.map eG)=eG (tC x l)
 |[],_=>rfl
 |y::l,x=>by
  have e1:mR (eG x) ((y::l).map eG)=mR (if(eG y).2<(eG x).2 then eG y else eG x) (l.map eG):=rfl;have e2:tC x (y::l)=tC (if y.2<x.2 then y else x) l:=rfl;rw[e1,e2,<-zV l]
  congr 1
  by_cases h:y.2<x.2
  .rw[if_pos h,if_pos (by show(y.2:Int)<(x.2:Int);omega)]
  .rw[if_neg h,if_neg (by show¬(y.2:Int)<(x.2:Int);omega)]
def Fl:∀{l:List Int}{b:Int},(∀x∈l,x<=b)->0<=b->l.sum<=l.length*b
 |[],_,_,_=>ah7
 |x::l,b,h,hb=>by
  have h1:=h x ah7;have h2:=Fl (l:=l) (λy hy=>h y (by simp[hy])) hb;simp only[List.sum_cons,List.length_cons]
  have:((l.length+1:Nat):Int)*b=l.length*b+b:=by rw[Int.natCast_add,ahp];simp
  omega
section
variable{w0:World}{n:Nat}{g:Gh}{S:au}{H:aD}{a:Act}{w:World}{d i1 i4 i5:Nat}{t u e:List UInt8}{z x:List AV}{y:AV}
def LM(R:Rel prog w0 n dh g S H a w){i:Nat}(hi:i<n)(hS:S i=.box i 0)(hH:H i=some [.str t]):∃b,a.tmps.getD i undef=.pointer (some ⟨b,0,none⟩)/\w.cell? ⟨b,0,none⟩=some (.string ⟨t.toArray⟩):=by
 obtain⟨b,al,e⟩:=n_ R hi hS;obtain⟨cs,vs,ty,k0,k1,k2,k3,k4,k5,k6,k7,k8⟩:=R.box i b al;rw[hH]at k0;cases k0
 have h0:0<vs.size:=by rw[<-k5];exact ahN
 have hv:=pP (RV.data (al:=dW) _ _ (k6 0 ah7 h0));exact⟨b,e,by simp[World.cell?,k2,h0,hv]⟩
def Up (hG:aQ GI) (dI:GI w0) (R:Rel prog w0 n dh g S H a w) (hd:d < n) (Ff:i1 < n) (Es:i4 < n) (PA:i5 < n) (Pf:d≠i4) (RZ:d≠i5) (Ur:i4≠i5)
  (FA:S i1=.box i1 0) (Ey:H i1=some [.str t]) (Bi:S i4=.box i4 0) (Ge:H i4=some z) (C6:S i5=.box i5 0) (IC:H i5=some [y]) (hz:z.length=15) (hx:x.length=15) (vh:AC prog GI 42 [.str t] (.ret (.ea [.agg x,.str u]))):
  Calls prog 41 #[a.tmps.getD i1 undef,a.tmps.getD i4 undef,a.tmps.getD i5 undef] w λe w2=>e=.returned (.tuple #[])/\∃(c:Value)(g':Gh)(S':au)(H':aD),g'.old=g.old/\Rel prog w0 n dh g' S' H' (a.put (some d) c) w2/\(∀t,t≠d->S' t=S t)/\H'=aF (aF H i4 (some (x.map AV.bC))) i5 (some [.str u]):=by
 have cM:=R.size;have ib:GI w:=hG w0 w dI (by have:=R.below;rwa [R.base]at this);obtain⟨b1,e1,gr⟩:=LM R Ff FA Ey;obtain⟨b4,al4,e4⟩:=n_ R Es Bi;obtain⟨b5,Z2,e5⟩:=n_ R PA C6;refine agi func41 rfl ?_;refine(gl (m:=0)).1 ?_;refine iS (λa=>a.tmps.size=8/\a.defers=[]/\a.tmps.getD 0 undef=.pointer (some ⟨b1,0,none⟩)/\a.tmps.getD 1 undef=.pointer (some ⟨b4,0,none⟩)/\a.tmps.getD 2 undef=.pointer (some ⟨b5,0,none⟩)) ⟨by simp[ntmps41],rfl,(dQ _ _ 0 ah7).trans e1,(dQ _ _ 1 ah7).trans e4,(dQ _ _ 2 ah7).trans e5⟩ ?_;rintro aC ⟨zC,dC,t0,t1,t2⟩;refine aeG ?_;show wpOpsIn _ _ _ _ _ [0,1,2,3,4,5,6] aC w;refine cI rfl rfl zr (kA (t:=9) (d:=.string) (b:=b1) (off:=0) rfl t0 zk rfl gr) ?_;show wpOpsIn _ _ _ _ _ [1,2,3,4,5,6] (aC.put (some 4) (.string ⟨t.toArray⟩)) w
 refine il rfl rfl zr (ia (k:=42) (args:=#[.string ⟨t.toArray⟩]) w rfl rfl ?_ zk) (vh w (gz g false) #[.string ⟨t.toArray⟩] ib rfl (λi h h'=>by
  match i,h with
  |0,_=>exact .data _ _ (.str t))) ?_
 .simp only[aeN,aer,aeF];show #[(aC.put (some 4) _).eval (.tmp 4)]=_;rw[dJ _ _ _ _ zo,if_pos rfl]
 rintro e w2 ⟨jo,hi,rI,c,rfl,Qr,dX⟩;refine⟨c,rfl,?_⟩;obtain⟨g',nL,sL,R2⟩:=R.call (some d) (λt ht=>by cases ht;exact⟨hd,id⟩) false jo rI Qr dX (λh=>by cases h);have xw:=R2.slot d hd id
 have acW:(a.put (some d) c).tmps.getD d undef=c:=by rw[jF _ _ _ _ zo,if_pos rfl]
 rw[acW]at xw;have WA:bl S (some d) (.ea [.agg x,.str u]) d=.ea [.agg x,.str u]:=bX _ _ _;rw[WA]at xw
 obtain⟨c0,rfl,r0⟩:∃c0,c=.tuple #[c0,.string ⟨u.toArray⟩]/\RD g'.Pr w2 (.agg x) c0:=by
  cases xw with
  |data _ _ h=>
   cases h with
   |ea cs vs hl hr=>
    have h2:vs.size=2:=by rw[<-hl]<;>rfl
    have q0:=hr 0 ah7 zo;have q1:=hr 1 ah7 zo;simp only[List.getElem_cons_zero,List.getElem_cons_succ]at q0 q1;have q1:=pP (RV.data (al:=dW) _ _ q1);refine⟨vs[0],?_,q0⟩
    congr 1
    apply afH
    .simpa using h2
    .intro i h1 h2
     match i,h2 with
     |0,_=>rfl
     |1,_=>exact q1
 have R3:=R2.put d (.agg x) c0 hd (.data _ _ r0) trivial;rw[zW]at R3;obtain⟨i31,lJ,lR⟩:=iZ 31 15;obtain⟨i9,hi9,SS⟩:=iZ 9 1
 have pc:aP z 0 (x.map AV.bC)=x.map AV.bC:=by simp[aP,hz,hx]
 obtain⟨S3,OO⟩:∃S3,aF (bl S (some d) (.ea [.agg x,.str u])) d (.agg x)=S3:=⟨_,rfl⟩
 rw[OO]at R3
 have k3d:S3 d=.agg x:=by rw[<-OO];exact bX _ _ _
 have k3:∀t,t≠d->S3 t=S t:=λt ht=>by rw[<-OO];simp[aF,bl,ht]
 have kI:ar S3 H (.store .any i31.size (.t i4) (.t d))=some { v:=a_,dm:=some d,hw:=some (i4,x.map AV.bC) }:=by
  simp[ar,ev,k3d,k3 i4 (ae0 Pf),Bi,Ge,HR.okB,AV.cells,AV.storable,AV.aZ,lR,hx,hz,bj,pc]
 obtain ⟨c2,w3,g3,eA,UA,FO,R4⟩:=nW R3 (o:={ dst:=none,op := .store 31 (.tmp i4) (.tmp d),type:=0,pos := "",after := #[],guard:=none }) (x1 := .tmp i4) (x2 := .tmp d) (y1 := .t i4) (y2 := .t d) (hr := .any) rfl rfl lJ (by simp [ep,Es]) (by simp [ep,hd]) (λ_ _=>id) (λ_ _=>id) kI;have R5:=R4.put d (.str u) (.string ⟨u.toArray⟩) hd (.data _ _ (.str u)) trivial;have R5:Rel prog w0 n dh g3 (aF _ d (.str u)) (aF H i4 (some (x.map AV.bC))) ((a.put (some d) c0).put (some d) (.string ⟨u.toArray⟩)) w3:=R5;rw [zW] at R5
 obtain⟨S5,LF⟩:∃S5,aF (aM.S { v:=a_,dm:=some d,hw:=some (i4,x.map AV.bC) } S3 none) d (.str u)=S5:=⟨_,rfl⟩
 rw[LF]at R5
 have k5d:S5 d=.str u:=by rw[<-LF];exact bX _ _ _
 have k5:∀t,t≠d->S5 t=S t:=λt ht=>by rw[<-LF,b_ _ _ ht,<-k3 t ht];simp[aM.S,bl,aF,ht]
 have acR:ar S5 (aF H i4 (some (x.map AV.bC))) (.store .any i9.size (.t i5) (.t d))=some { v:=a_,dm:=some d,hw:=some (i5,[.str u]) }:=by
  simp[ar,ev,k5d,k5 i5 (ae0 RZ),C6,IC,aF,ae0 Ur,HR.okB,AV.cells,AV.storable,AV.aZ,SS,aP,bj,AV.bC]
 obtain ⟨c3,w4,g4,Ui,adN,adj,R6⟩:=nW R5 (o:={ dst:=none,op := .store 9 (.tmp i5) (.tmp d),type:=0,pos := "",after := #[],guard:=none }) (x1 := .tmp i5) (x2 := .tmp d) (y1 := .t i5) (y2 := .t d) (hr := .any) rfl rfl hi9 (by simp [ep,PA]) (by simp [ep,hd]) (λ_ _=>id) (λ_ _=>id) acR;show wpOpsIn _ _ _ _ _ [2,3,4,5,6] ((aC.put (some 4) (.string ⟨t.toArray⟩)).put (some 5) (.tuple #[c0,.string ⟨u.toArray⟩])) w2
 obtain⟨A,hA,zA,dA,q1,q2,q5⟩:∃A,(aC.put (some 4) (.string ⟨t.toArray⟩)).put (some 5) (.tuple #[c0,.string ⟨u.toArray⟩])=A/\A.tmps.size=8/\A.defers=[]/\A.eval (.tmp 1)=.pointer (some ⟨b4,0,none⟩)/\A.eval (.tmp 2)=.pointer (some ⟨b5,0,none⟩)/\A.eval (.tmp 5)=.tuple #[c0,.string ⟨u.toArray⟩]:=by
  have I2:(aC.put (some 4) (.string ⟨t.toArray⟩)).tmps.size=8:=by rw[mJ];exact zC
  refine⟨_,rfl,by rw[mJ];exact I2,dC,?_,?_,?_⟩
  .rw[dJ _ _ _ _ zo,if_neg zd,dJ _ _ _ _ zo,if_neg zd];exact t1
  .rw[dJ _ _ _ _ zo,if_neg zd,dJ _ _ _ _ zo,if_neg zd];exact t2
  .rw[dJ _ _ _ _ zo,if_pos rfl]
 rw[hA]
 have v5:(execOp A.eval { dst:=some 3,op := .move (.tmp 5),type:=72,pos := "",after := #[],guard:=none }).run prog w2 = .ok (.value (.tuple #[c0,.string ⟨u.toArray⟩])) w2:=by unfold execOp;simp [q5]
 refine cI rfl rfl zr v5 ?_;show wpOpsIn _ _ _ _ _ [3,4,5,6] (A.put (some 3) (.tuple #[c0,.string ⟨u.toArray⟩])) w2
 obtain⟨B,hB⟩:∃B,A.put (some 3) (.tuple #[c0,.string ⟨u.toArray⟩])=B:=⟨_,rfl⟩
 have zB:B.tmps.size=8:=by rw[<-hB,mJ];exact zA
 have dB:B.defers=[]:=by rw[<-hB];exact dA
 have p1:B.eval (.tmp 1)=.pointer (some ⟨b4,0,none⟩):=by rw[<-hB,dJ _ _ _ _ zo,if_neg zd];exact q1
 have p2:B.eval (.tmp 2)=.pointer (some ⟨b5,0,none⟩):=by rw[<-hB,dJ _ _ _ _ zo,if_neg zd];exact q2
 have p3:B.eval (.tmp 3)=.tuple #[c0,.string ⟨u.toArray⟩]:=by rw[<-hB,dJ _ _ _ _ zo,if_pos rfl]
 rw[hB]
 have v6:(execOp B.eval { dst:=some 6,op := .extract (.tmp 3) 0,type:=31,pos := "",after := #[],guard:=none }).run prog w2 = .ok (.value c0) w2:=by unfold execOp;simp [p3,Instr.extract]
 refine cI rfl rfl zr v6 ?_;show wpOpsIn _ _ _ _ _ [4,5,6] (B.put (some 6) c0) w2
 obtain⟨C,hC⟩:∃C,B.put (some 6) c0=C:=⟨_,rfl⟩
 have zC:C.tmps.size=8:=by rw[<-hC,mJ];exact zB
 have o1:C.eval (.tmp 1)=.pointer (some ⟨b4,0,none⟩):=by rw[<-hC,dJ _ _ _ _ zo,if_neg zd];exact p1
 have o2:C.eval (.tmp 2)=.pointer (some ⟨b5,0,none⟩):=by rw[<-hC,dJ _ _ _ _ zo,if_neg zd];exact p2
 have o3:C.eval (.tmp 3)=.tuple #[c0,.string ⟨u.toArray⟩]:=by rw[<-hC,dJ _ _ _ _ zo,if_neg zd];exact p3
 have o6:C.eval (.tmp 6)=c0:=by rw[<-hC,dJ _ _ _ _ zo,if_pos rfl]
 rw[hC]
 have v7:(execOp C.eval { dst:=some 7,op := .extract (.tmp 3) 1,type:=9,pos := "",after := #[],guard:=none }).run prog w2 = .ok (.value (.string ⟨u.toArray⟩)) w2:=by unfold execOp;simp [o3,Instr.extract]
 refine cI rfl rfl zr v7 ?_;show wpOpsIn _ _ _ _ _ [5,6] (C.put (some 7) (.string ⟨u.toArray⟩)) w2
 obtain⟨D,hD⟩:∃D,C.put (some 7) (.string ⟨u.toArray⟩)=D:=⟨_,rfl⟩
 have zD:D.tmps.size=8:=by rw[<-hD,mJ];exact zC
 have dD:D.defers=[]:=by rw[<-hD,<-hC];exact dB
 have m1:D.eval (.tmp 1)=.pointer (some ⟨b4,0,none⟩):=by rw[<-hD,dJ _ _ _ _ zo,if_neg zd];exact o1
 have m2:D.eval (.tmp 2)=.pointer (some ⟨b5,0,none⟩):=by rw[<-hD,dJ _ _ _ _ zo,if_neg zd];exact o2
 have m6:D.eval (.tmp 6)=c0:=by rw[<-hD,dJ _ _ _ _ zo,if_neg zd];exact o6
 have m7:D.eval (.tmp 7)=.string ⟨u.toArray⟩:=by rw[<-hD,dJ _ _ _ _ zo,if_pos rfl]
 rw[hD]
 have f4:∀c,(a.put (some d) c).eval (.tmp i4)=.pointer (some ⟨b4,0,none⟩):=λc=>by rw[dJ _ _ _ _ zo,if_neg (ae0 Pf)];exact e4
 have f5:∀c,(a.put (some d) c).eval (.tmp i5)=.pointer (some ⟨b5,0,none⟩):=λc=>by rw[dJ _ _ _ _ zo,if_neg (ae0 RZ)];exact e5
 have fd:∀c,(a.put (some d) c).eval (.tmp d)=c:=λc=>by rw[dJ _ _ _ _ zo,if_pos rfl]
 have cP:∀ o:Oper,o.op = .store 31 (.tmp 1) (.tmp 6)->(execOp D.eval o).run prog w2=(execOp (a.put (some d) c0).eval { dst:=none,op := .store 31 (.tmp i4) (.tmp d),type:=0,pos := "",after := #[],guard:=none }).run prog w2:=by
  intro o ho;unfold execOp;simp only[ho,m1,m6,f4,fd]
 have lG:∀ (D':Act) (o:Oper),o.op = .store 9 (.tmp 2) (.tmp 7)->D'.tmps=D.tmps->(execOp D'.eval o).run prog w3=(execOp (a.put (some d) (.string ⟨u.toArray⟩)).eval { dst:=none,op := .store 9 (.tmp i5) (.tmp d),type:=0,pos := "",after := #[],guard:=none }).run prog w3:=by
  intro D' o ho ht
  have n2:D'.eval (.tmp 2)=.pointer (some ⟨b5,0,none⟩):=by show D'.tmps.getD 2 undef=_;rw[ht];exact m2
  have n7:D'.eval (.tmp 7)=.string ⟨u.toArray⟩:=by show D'.tmps.getD 7 undef=_;rw[ht];exact m7
  unfold execOp;simp only[ho,n2,n7,f5,fd]
 have fin:∀v1 v2:Value,((D.put none v1).put none v2).defers=[]/\∃v',(results f41 ((D.put none v1).put none v2).tmps).run prog w4=.ok v' w4/\(Ending.returned v'=.returned (.tuple #[])/\∃(c:Value)(g':Gh)(S':au)(H':aD),g'.old=g.old/\Rel prog w0 n dh g' S' H' (a.put (some d) c) w4/\(∀t,t≠d->S' t=S t)/\H'=aF (aF H i4 (some (x.map AV.bC))) i5 (some [.str u])):=λv1 v2=>
  ⟨dD,.tuple #[],by simp[results,results41],rfl,_,g4,_,_,by rw[adj];exact FO.trans sL,R6,λt ht=>by rw[<-k5 t ht];simp[aM.S,bl,aF,ht],rfl⟩
 rcases eA with hr|⟨hr,_⟩
 .refine cI rfl rfl zr ((cP _ rfl).trans hr) ?_
  rcases Ui with hr|⟨hr,_⟩
  .exact cI rfl rfl zr ((lG (D.put none c2) _ rfl rfl).trans hr) (fin c2 _)
  .exact fD rfl rfl zr ((lG (D.put none c2) _ rfl rfl).trans hr) (fin c2 undef)
 .refine fD rfl rfl zr ((cP _ rfl).trans hr) ?_
  rcases Ui with hr|⟨hr,_⟩
  .exact cI rfl rfl zr ((lG (D.put none undef) _ rfl rfl).trans hr) (fin undef _)
  .exact fD rfl rfl zr ((lG (D.put none undef) _ rfl rfl).trans hr) (fin undef undef)
end
def wR(l:List Int):∀x∈ints l,x.cells.length=1/\x.storable=true/\∀c∈x.cells,c.one=true:=by
 intro x hx;obtain⟨e,_,rfl⟩:=aew.1 hx;exact⟨rfl,rfl,λc hc=>by simp[AV.cells]at hc;subst hc;rfl⟩
def yC(l:List Int):∀x∈ints l,∀c∈x.cells,jl c=true:=by
 intro x hx c hc;obtain⟨e,_,rfl⟩:=aew.1 hx;simp[AV.cells]at hc;subst hc;rfl
def Nu(l:List (List Int)):∀x∈l.map vI,x.cells.length=1/\x.storable=true/\∀c∈x.cells,c.one=true:=by
 intro x hx;obtain⟨e,_,rfl⟩:=aew.1 hx;exact⟨rfl,rfl,λc hc=>by simp[AV.cells,vI]at hc;subst hc;rfl⟩
structure Lv(wB:World)(Mi:Nat->Nat->Prop)(bF bN:Nat)(s:bf)(cS cR fv:Value)(fs:List (List Int))(es:List Int)(w:World):Prop where
 below:Below wB.heap.size wB w
 ge:wB.heap.size<=bF/\wB.heap.size<=bN/\bF≠bN
 lt:∀b k,Mi b k->b<w.heap.size
 gF:∀k,¬Mi bF k
 gN:∀k,¬Mi bN k
 st:∃u AX xF v DV xN,w.heap[bF]?=some (.cells #[u] AX (0,0))/\w.ownsRow (bF+1) 23 1 u fs.length xF/\jS (λb k=>Mi b k/\wB.heap.size<=b) w 1 (fs.map vI) xF/\(∀b,u.ownBlock=some b->b≠bN/\∀k,¬Mi b k)/\
  w.heap[bN]?=some (.cells #[v] DV (0,0))/\w.ownsRow (bN+1) 3 1 v es.length xN/\jS (λ_ _=>False) w 1 (ints es) xN/\∀b,v.ownBlock=some b->b≠bF/\u.ownBlock≠some b/\∀k,¬Mi b k
 s:RV Mi dW w (.ref (bh s)) cS
 r:RV Mi dW w (.ref [.val fv]) cR
variable{wB:World}{Mi:Nat->Nat->Prop}{bF bN:Nat}{s:bf}{cS cR fv:Value}{fs:List (List Int)}{es:List Int}{w w':World}
def jA{base:Nat}{e:TypeId}{size:Nat}{v:Value}{n:Nat}{xs:List Value}(h:w.ownsRow base e size v n xs)(hk:∀b,v.ownBlock=some b->w'.heap[b]?=w.heap[b]?):w'.ownsRow base e size v n xs:=by
 refine⟨h.1,?_⟩
 rcases h.2 with h|⟨gg,cap,cur,rfl,pL,Gm,rest⟩
 .exact .inl h
 .exact .inr ⟨gg,cap,cur,rfl,pL,(hk gg rfl).trans Gm,rest⟩
def Lv.grow(st:Lv wB Mi bF bN s cS cR fv fs es w)(hb:Below w.heap.size w w'):Lv wB Mi bF bN s cS cR fv fs es w':=by
 have hk:cC Mi Mi w w':=cC.jK (λb h=>hb.block b h) λ_ _ _ h=>h
 obtain⟨u,AX,xF,v,DV,xN,f1,f2,f3,f4,n1,n2,n3,n4⟩:=st.st;have lF:=(aea.1 f1).1;have lN:=(aea.1 n1).1
 exact⟨st.below.trans (hb.mono st.below.size),st.ge,λb k h=>ae4 (st.lt b k h) hb.size,st.gF,st.gN,
  ⟨u,AX,xF,v,DV,xN,(hb.block _ lF).trans f1,jA f2 λb h=>hb.block _ (f2.lt b h).2,f3.mono (cC.jK (λb h=>hb.block b h) λ_ _ _ h=>h),f4,(hb.block _ lN).trans n1,jA n2 λb h=>hb.block _ (n2.lt b h).2,n3.mono (cC.of_eq λ_ _ h=>h.elim),n4⟩,
  st.s.mono hk λ_ _ h=>h,st.r.mono hk λ_ _ h=>h⟩
end Go.Proofs.Tryz
namespace Go.Proofs.Tryz
open Go Go.AL Go.RowKit Go.Proofs Go.Proofs.Tram
variable{GI:World->Prop}
def Vb:Nat->Bool:=λt=>decide (14<=t)
structure L2(a0:Act)(w:World)(u v:Value)(es:List Int)(c:Bool)(k:Nat)(a:Act)(w':World):Prop where
 size:a.tmps.size=50
 defers:a.defers=[]
 same:fj Vb a0 a
 below:Below w.heap.size w w'
 t14:c=true->a.tmps.getD 14 undef=u
 t15:1<=k->a.tmps.getD 15 undef=v
 t16:2<=k->A1 w w' (ints es) (a.tmps.getD 16 undef)
 t17:3<=k->∃Sp,a.tmps.getD 17 undef=.slice (some ⟨Sp,0,none⟩) 1 1/\w'.heap[Sp]?=some (.cells #[a.tmps.getD 16 undef] 23 (0,0))/\w.heap.size<=Sp
def FQ{a0 a:Act}(h:fj Vb a0 a){d:Nat}(hd:14<=d)(c:Value):fj Vb a0 (a.put (some d) c):=h.trans (fj.put (λt ht=>by cases ht;simp[Vb,hd]) c)
section
variable{a0 a:Act}{w w':World}{u v:Value}{es:List Int}{c:Bool}{k:Nat}
def L2.load(h:L2 a0 w u v es c k a w'):L2 a0 w u v es true k (a.put (some 14) u) w':=by
 have hp:=λt (c:Value)=>jF a 14 t c (by rw[h.size];omega)
 refine⟨by simp[Act.put,h.size],h.defers,FQ h.same zo _,h.below,λ_=>by rw[hp,if_pos rfl],λhk=>by rw[hp,if_neg zd];exact h.t15 hk,λhk=>by rw[hp,if_neg zd];exact h.t16 hk,λhk=>?_⟩;rw[hp,if_neg zd,hp,if_neg zd];exact h.t17 hk
def L2.now(h:L2 a0 w u v es c 0 a w'):L2 a0 w u v es c 1 (a.put (some 15) v) w':=by
 have hp:=λt (c:Value)=>jF a 15 t c (by rw[h.size];omega)
 exact⟨by simp[Act.put,h.size],h.defers,FQ h.same zo _,h.below,λhc=>by rw[hp,if_neg zd];exact h.t14 hc,λ_=>by rw[hp,if_pos rfl],λhk=>zo,λhk=>zo⟩
def L2.copy(h:L2 a0 w u v es c 1 a w'){w2:World}{cl:Value}(hb:Below w'.heap.size w' w2)(hf:A1 w' w2 (ints es) cl):L2 a0 w u v es c 2 (a.put (some 16) cl) w2:=by
 have hp:=λt (c:Value)=>jF a 16 t c (by rw[h.size];omega)
 refine⟨by simp[Act.put,h.size],h.defers,FQ h.same zo _,h.below.trans (hb.mono h.below.size),λhc=>by rw[hp,if_neg zd];exact h.t14 hc,λhk=>by rw[hp,if_neg zd];exact h.t15 zo,λ_=>?_,λhk=>zo⟩;rw[hp,if_pos rfl];obtain⟨hi,hr⟩:=hf;exact⟨hi,hr.mono (cC.same λb k _ hp=>⟨⟨afl h.below.size hp.1.1,hp.1.2⟩,hp.2⟩)⟩
def Jy(w:World)(o:Obj):Below w.heap.size w (w.alloc o):=(afb _ _).alloc (aed _) _
def L2.row(h:L2 a0 w u v es c 2 a w'):L2 a0 w u v es c 3 (a.put (some 17) (.slice (some ⟨w'.heap.size,0,none⟩) 1 1)) (w'.alloc (.cells #[a.tmps.getD 16 undef] 23)):=by
 have hp:=λt (c:Value)=>jF a 17 t c (by rw[h.size];omega)
 have hb:=Jy w' (.cells #[a.tmps.getD 16 undef] 23);refine⟨by simp[Act.put,h.size],h.defers,FQ h.same zo _,h.below.trans (hb.mono h.below.size),λhc=>by rw[hp,if_neg zd];exact h.t14 hc,λhk=>by rw[hp,if_neg zd];exact h.t15 zo,λ_=>?_,λ_=>?_⟩
 .rw[hp,if_neg zd];exact(h.t16 zo).grow hb
 .rw[hp,if_pos rfl,hp,if_neg zd];exact⟨_,rfl,ae8 _ _,h.below.size⟩
end
def X8(ops:Array Oper):Bool:=decide (ops.size=6)&&
 (Region.ready .any ops #[false,false,false,false,false,false]==[0,1])&&(Region.ready .any ops #[true,false,false,false,false,false]==[1])&&(Region.ready .any ops #[false,true,false,false,false,false]==[0,2])&&
 (Region.ready .any ops #[true,true,false,false,false,false]==[2])&&(Region.ready .any ops #[false,true,true,false,false,false]==[0,3])&&(Region.ready .any ops #[true,true,true,false,false,false]==[3])&&
 (Region.ready .any ops #[false,true,true,true,false,false]==[0])&&(Region.ready .any ops #[true,true,true,true,false,false]==[4])&&(Region.ready .any ops #[true,true,true,true,true,false]==[5])&&(Region.ready .any ops #[true,true,true,true,true,true]==[])
section
variable{wB:World}{Mi:Nat->Nat->Prop}{bF bN:Nat}{s:bf}{cS cR fv:Value}{fs:List (List Int)}{es:List Int}{w:World}{a:Act}{Q:Exit->Act->World->Prop}{m:Nat}
def HX (hG:aQ GI) (st:Lv wB Mi bF bN s cS cR fv fs es w) (ib:GI w) (cM:a.tmps.size=50) (fq:a.defers=[]) (t3:a.tmps.getD 3 undef = .pointer (some ⟨bN,0,none⟩)) (t4:a.tmps.getD 4 undef = .pointer (some ⟨bF,0,none⟩)) (oI:es.length < 1000) (fw:fs.length < 100000)
  {id:Nat} {ops:Array Oper} {o0 o1 o2 o3 o4 o5:Oper} {cl2 Ws:Call} (h0:ops[0]?=some o0) (h1:ops[1]?=some o1) (h2:ops[2]?=some o2) (h3:ops[3]?=some o3) (h4:ops[4]?=some o4) (h5:ops[5]?=some o5)
  (q0:o0.op=.load 113 (.tmp 4)/\o0.dst=some 14/\o0.guard=none) (q1:o1.op=.load 23 (.tmp 3)/\o1.dst=some 15/\o1.guard=none) (q2:o2.op=.call cl2/\o2.dst=some 16/\o2.guard=none) (q3:o3.op=.buildSlice 113 1 #[(0,.tmp 16)]/\o3.dst=some 17/\o3.guard=none)
  (q4:o4.op=.call Ws/\o4.dst=some 18/\o4.guard=none) (q5:o5.op=.store 113 (.tmp 4) (.tmp 18)/\o5.dst=none/\o5.guard=none)
  (c2:cl2.callee=.value (.func 74)/\cl2.args=#[.tmp 15]) (c4:Ws.callee=.builtin .append/\Ws.args=#[.tmp 14,.tmp 17]/\Ws.argTypes=#[113,113]) (hr:X8 ops=true)
  (hk:∀a' w' uR,a'.tmps.size=50->a'.defers=[]->fj Vb a a'->(∀b k,Mi b k->uR b k)->Lv wB uR bF bN s cS cR fv (fs++[es]) es w'->Q .normal a' w'):(Code.region id ops true).wpIn (FR none) m prog Q a w:=by
 unfold X8 at hr;simp only[aeb,aeS,aej]at hr;obtain⟨⟨⟨⟨⟨⟨⟨⟨⟨⟨r0,ra⟩,rb⟩,rc⟩,rd⟩,re⟩,rf⟩,rg⟩,rh⟩,ri⟩,rj⟩:=hr;obtain⟨u,AX,xF,v,DV,xN,f1,f2,f3,f4,n1,n2,n3,n4⟩:=st.st;have lF:=(aea.1 f1).1;have lN:=(aea.1 n1).1;obtain⟨d141,adH,acB⟩:=vZ 113;obtain⟨d23,u23,g23⟩:=vZ 23
 have V4:prog.underlying 113=some (.slice 23):=zk
 obtain⟨i3,Fu,vr⟩:=iZ 3 1;obtain⟨i141,Y8,aaq⟩:=iZ 113 1;obtain⟨i23,QG,GJ⟩:=af3.1 (show(prog.info? 23).bind (λi=>if i.size=1/\i.bytes<=65536 then i.zero else none)=some (.slice none 0 0) by kernel_rfl)
 have ZN:(i23.size=1/\i23.bytes<=65536)/\i23.zero=some (.slice none 0 0):=by
  split at GJ
  .exact⟨by assumption,GJ⟩
  .cases GJ
 obtain⟨⟨KW,aaN⟩,GJ⟩:=ZN;have acE:=Yb hG (GI:=GI) (ints es) (rR es) (by rw[aG];omega)
 have load:∀{c k a' w' K},L2 a w u v es c k a' w'->(∀a' w',L2 a w u v es true k a' w'->K a' w')->wpOpIn (FR none) m prog ops Q 0 K a' w':=λ{c k a' w' K} h hK=>
  zE h0 q0.2.2 (by rw[q0.1]<;>rfl) (kA (b:=bF) (off:=0) (v:=u) q0.1 ((h.same 4 rfl).trans t4) adH acB (by simp[World.cell?,(h.below.block bF lF).trans f1])) (by rw[q0.2.1];exact hK _ _ h.load)
 have now:∀{c a' w' K},L2 a w u v es c 0 a' w'->(∀a' w',L2 a w u v es c 1 a' w'->K a' w')->wpOpIn (FR none) m prog ops Q 1 K a' w':=λ{c a' w' K} h hK=>
  zE h1 q1.2.2 (by rw[q1.1]<;>rfl) (kA (b:=bN) (off:=0) (v:=v) q1.1 ((h.same 3 rfl).trans t3) u23 g23 (by simp[World.cell?,(h.below.block bN lN).trans n1])) (by rw[q1.2.1];exact hK _ _ h.now)
 have copy:∀{c a' w' K},L2 a w u v es c 1 a' w'->(∀a' w',L2 a w u v es c 2 a' w'->K a' w')->wpOpIn (FR none) m prog ops Q 2 K a' w':=λ{c a' w' K} h hK=>by
  have hv:a'.tmps.getD 15 undef=v:=h.t15 (aed _)
  have hn2:w'.ownsRow (bN+1) 3 1 v es.length xN:=jA n2 λb hb=>h.below.block _ (n2.lt b hb).2
  have E8:RD (λ_ _=>True) w' (.slice .view (ints es)) v:=RD.ofRow (size:=1) (es:=ints es) (by rw[aG];exact hn2) (n3.mono (cC.of_eq λ_ _ h=>h.elim)) λ_ _ _ _=>trivial
  refine RY h2 q2.2.2 (by rw[q2.1]<;>rfl) (ia (k:=74) (args:=#[v]) w' q2.1 c2.1 ?_ zk) (acE w' (λ_ _=>True) #[v] (hG w w' ib h.below) rfl (λi hi eJ=>by
   match i,hi with
   |0,_=>exact .data _ _ E8)) ?_
  .rw[c2.2];simp only[aeN,aer,aeF];show #[a'.tmps.getD 15 undef]=_;rw[hv]
  intro en w2 hE;obtain⟨hb,cc,rfl,hf⟩:=Nv Fu (by rw[vr];exact wR es) (yC es) hE;refine⟨_,rfl,?_⟩;rw[q2.2.1];exact hK _ _ (h.copy hb hf)
 have row:∀{c a' w' K},L2 a w u v es c 2 a' w'->(∀a' w',L2 a w u v es c 3 a' w'->K a' w')->wpOpIn (FR none) m prog ops Q 3 K a' w':=λ{c a' w' K} h hK=>by
  obtain⟨hi,ec⟩:=h.t16 (aed _);exact zE h3 q3.2.2 (by rw[q3.1]<;>rfl) (M5 q3.1 V4 QG GJ KW rfl (ec.one rfl)) (by rw[q3.2.1];exact hK _ _ h.row)
 have tail:∀{a' w'},L2 a w u v es true 3 a' w'->wpAnyIn (FR none) m prog .any ops Q 2 #[true,true,true,true,false,false] a' w':=λ{a' w'} h=>by
  obtain⟨Sp,abB,Hs,Bw⟩:=h.t17 (aed _);have h14:=h.t14 rfl;have Yp:=h.t16 zo
  have px:(a'.tmps.getD 16 undef).oneCell'=true:=by
   obtain⟨hi,ec⟩:=Yp;exact ec.one rfl
  have Ad:w'.ownsRow (bF+1) 23 1 u fs.length xF:=jA f2 λb hb=>h.below.block _ (f2.lt b hb).2
  have hle:bF+1<=w'.heap.size:=ae4 lF h.below.size;refine tL rh ?_;obtain⟨u',w2,b',eA,dX,L8,ka,hor⟩:=MF (P:=prog) (t:=113) (ty:=o4.type) V4 QG GJ (by rw[KW]<;>rfl) KW aaN Ad zo hle (ad:=⟨Sp,0,none⟩) (cap:=1) (c:=a'.tmps.getD 16 undef) (by simp[World.cell?,Hs]) px;refine zE (v:=u') (w':=w2) h4 q4.2.2 (by rw[q4.1]<;>rfl) ?_ ?_
  .have e1:a'.eval (.tmp 14)=u:=h14;have e2:a'.eval (.tmp 17)=.slice (some ⟨Sp,0,none⟩) 1 1:=abB;unfold execOp;simp[q4.1,c4.1,c4.2.1,c4.2.2,resolve,invoke,builtin,e1,e2,eA]
  rw[q4.2.1];show wpAnyIn (FR none) m prog .any ops Q 1 #[true,true,true,true,true,false] (a'.put (some 18) u') w2;refine tL ri ?_
  have hp:=λt (c:Value)=>jF a' 18 t c (by rw[h.size];omega)
  have uF:u.ownBlock≠some bF:=λe=>by have:=(f2.lt bF e).1;omega
  have ltu:∀b,u.ownBlock=some b->b<w.heap.size:=λb hb=>(f2.lt b hb).2
  have hF2:w2.heap[bF]?=some (.cells #[u] AX (0,0)):=(ka.block bF (ae4 lF h.below.size) uF).trans ((h.below.block bF lF).trans f1)
  have aaY:u'.oneCell'=true:=by
   rcases dX.2 with⟨rfl,_⟩|⟨_,_,_,rfl,_⟩<;>rfl
  refine Tq h5 q5.2.2 (by rw[q5.1]<;>rfl) (jC q5.1 (by show(a'.put (some 18) u').tmps.getD 4 undef=_;rw[hp,if_neg zd];exact(h.same 4 rfl).trans t4) Y8 aaq hF2 (by show(a'.put (some 18) u').tmps.getD 18 undef=u';rw[hp,if_pos rfl]) aaY) ?_;rw[q5.2.1];refine⟨rj,?_⟩;obtain⟨hi,ec⟩:=Yp
  have T6:∀b,b<w.heap.size->b<w'.heap.size:=λb hb=>ae4 hb h.below.size
  have sz2:w'.heap.size<=w2.heap.size:=ka.size
  have sz3:(w2.setRow bF #[u']).heap.size=w2.heap.size:=ah7
  have old:∀b,b<w'.heap.size->b≠bF->u.ownBlock≠some b->(w2.setRow bF #[u']).heap[b]?=w'.heap[b]?:=λb hb h1 h2=>(afm w2 bF b #[u'] h1).trans (ka.block b hb h2)
  have Rg:∀b,b<w.heap.size->b≠bF->u.ownBlock≠some b->(w2.setRow bF #[u']).heap[b]?=w.heap[b]?:=λb hb h1 h2=>(old b (T6 b hb) h1 h2).trans (h.below.block b hb)
  have bF':b'≠bF:=λe=>by have:=(dX.lt b' L8).1;omega
  refine hk (a'.put (some 18) u') (w2.setRow bF #[u']) (λb k=>Mi b k\/((w.heap.size<=b/\b<w'.heap.size)/\k<hi b)) (by simp[Act.put,h.size]) h.defers (FQ h.same zo _) (λb k hm=>.inl hm) ?_
  have UT:cC Mi (λb k=>Mi b k\/((w.heap.size<=b/\b<w'.heap.size)/\k<hi b)) w (w2.setRow bF #[u']):=cC.of_eq λb k hm=>⟨.inl hm,Rg b (st.lt b k hm) (λe=>st.gF k (e▸hm)) λe=>(f4 b e).2 k hm⟩
  refine⟨?_,st.ge,?_,?_,?_,⟨u',AX,xF++[a'.tmps.getD 16 undef],v,DV,xN,afV w2 bF _ #[u'] AX (0,0) hF2,?_,⟨Nu _,?_⟩,?_,?_,?_,?_,?_⟩,st.s.mono UT λ_ _ h=>h,st.r.mono UT λ_ _ h=>h⟩
  .have b1:=st.below.trans (h.below.mono st.below.size);have b2:=b1.trans (ka.below b1.size λb hb=>afl st.ge.1 (ahh (f2.lt b hb).1));refine b2.trans ⟨rfl,rfl,rfl,by rw[sz3];exact aed _,λk hk=>afm w2 bF k #[u'] λe=>?_⟩;have:=st.ge.1;omega
  .rintro b k (hm|hm)
   .rw[sz3];exact ae4 (T6 b (st.lt b k hm)) sz2
   .rw[sz3];exact ae4 hm.1.2 sz2
  .rintro k (hm|hm)
   .exact st.gF k hm
   .have:=hm.1.1;omega
  .rintro k (hm|hm)
   .exact st.gN k hm
   .have:=hm.1.1;omega
  .have e:(fs++[es]).length=fs.length+1:=ah7
   rw[e]
   exact jA dX λb hb=>afm w2 bF b #[u'] λe=>bF' (by rw[L8]at hb;cases hb;exact e)
  .intro j hj k Eh
   have Ir:xF.length=fs.length:=by have:=f2.1;simpa using this
   have Jr:k=0:=by
    have h1:=(Nu (fs++[es]) _ (ad2 hj)).1;omega
   subst Jr;rw[afW,Nat.add_zero]
   by_cases rD:j<fs.length
   .have eX:j<(fs.map vI).length:=by simpa using rD
    have jL:((fs++[es]).map vI)[j]=(fs.map vI)[j]:=by
     rw[aep,aep,aeV rD]
    obtain⟨x,x1,x2⟩:=f3.2 j eX 0 (by rw[<-jL];exact Eh);rw[afW,Nat.add_zero]at x1;refine⟨x,by rw[afc zo];exact x1,?_⟩;simp only[jL];exact x2.mono (cC.of_eq λb k hm=>⟨⟨.inl hm.1,hm.2⟩,Rg b (st.lt b k hm.1) (λe=>st.gF k (e▸hm.1)) λe=>(f4 b e).2 k hm.1⟩)
   .have OQ:j=fs.length:=by simp at hj;omega
    subst OQ;refine⟨a'.tmps.getD 16 undef,by rw[<-Ir];simp,?_⟩
    have jL:((fs++[es]).map vI)[fs.length]=vI es:=ah7
    simp only[jL];exact ec.mono (cC.of_eq λb k hm=>⟨⟨.inr hm,afl st.below.size hm.1.1⟩,old b hm.1.2 (λe=>by have:=hm.1.1;omega) λe=>by have:=ltu b e;have:=hm.1.1;omega⟩)
  .intro b hb;rw[L8]at hb;cases hb;rcases hor with ho|ho
   .refine⟨(f4 b' ho).1,?_⟩;rintro k (hm|hm)
    .exact(f4 b' ho).2 k hm
    .have:=ltu b' ho;have:=hm.1.1;omega
   .refine⟨λe=>by have:=T6 bN lN;omega,?_⟩;rintro k (hm|hm)
    .have:=T6 b' (st.lt b' k hm);omega
    .have:=hm.1.2;omega
  .exact(Rg bN lN (λe=>st.ge.2.2 e.symm) λe=>(f4 bN e).1 rfl).trans n1
  .exact jA n2 λb hb=>Rg b (n2.lt b hb).2 (n4 b hb).1 (n4 b hb).2.1
  .exact n3.mono (cC.of_eq λ_ _ h=>h.elim)
  .intro b hb;refine⟨(n4 b hb).1,λe=>?_,?_⟩
   .rw[L8]at e;cases e;rcases hor with ho|ho
    .exact(n4 b' hb).2.1 ho
    .have:=T6 b' (n2.lt b' hb).2;omega
   .rintro k (hm|hm)
    .exact(n4 b hb).2.2 k hm
    .have:=(n2.lt b hb).2;have:=hm.1.1;omega
 have s3:∀{a' w'},L2 a w u v es true 3 a' w'->wpAnyIn (FR none) m prog .any ops Q 2 #[true,true,true,true,false,false] a' w':=tail
 have s2:∀{a' w'},L2 a w u v es true 2 a' w'->wpAnyIn (FR none) m prog .any ops Q 3 #[true,true,true,false,false,false] a' w':=λh=>tL rf (row h λ_ _ h=>s3 h)
 have s1:∀{a' w'},L2 a w u v es true 1 a' w'->wpAnyIn (FR none) m prog .any ops Q 4 #[true,true,false,false,false,false] a' w':=λh=>tL rd (copy h λ_ _ h=>s2 h)
 have p3:∀{a' w'},L2 a w u v es false 3 a' w'->wpAnyIn (FR none) m prog .any ops Q 3 #[false,true,true,true,false,false] a' w':=λh=>tL rg (load h λ_ _ h=>s3 h)
 have p2:∀{a' w'},L2 a w u v es false 2 a' w'->wpAnyIn (FR none) m prog .any ops Q 4 #[false,true,true,false,false,false] a' w':=λh=>DA re (load h λ_ _ h=>s2 h) (row h λ_ _ h=>p3 h)
 have p1:∀{a' w'},L2 a w u v es false 1 a' w'->wpAnyIn (FR none) m prog .any ops Q 5 #[false,true,false,false,false,false] a' w':=λh=>DA rc (load h λ_ _ h=>s1 h) (copy h λ_ _ h=>p2 h)
 have s0:∀{a' w'},L2 a w u v es true 0 a' w'->wpAnyIn (FR none) m prog .any ops Q 5 #[true,false,false,false,false,false] a' w':=λh=>tL rb (now h λ_ _ h=>s1 h)
 refine afN d_ ?_;rw[r0];show wpAnyIn (FR none) m prog .any ops Q 6 #[false,false,false,false,false,false] a { w with drawn:=w.drawn+1 }
 have hL0:L2 a w u v es false 0 a { w with drawn:=w.drawn+1 }:=⟨cM,fq,fj.refl _ _,⟨rfl,rfl,rfl,aed _,λ_ _=>rfl⟩,(λh=>by cases h),λh=>zo,λh=>zo,λh=>zo⟩
 exact DA ra (load hL0 λ_ _ h=>s0 h) (now hL0 λ_ _ h=>p1 h)
end
end Go.Proofs.Tryz
namespace Go.Proofs.Tryz
open Go Go.AL Go.RowKit Go.Proofs Go.Proofs.Tram
attribute [local simp] aU bB fT fu aV aJ aK av az aW aw ao bO bP an ar ev aM.S aM.H bj aF bl AL.start AV.cells AV.storable AV.aZ aP bt bV bu HR.okB post bQ bG bH AV.out AV.aX aG aL fz cL AV.vw bT vI int a_ aq bD bq cd cj bZ bI aI AV.bC AV.dE
variable{GI:World->Prop}
def gB(n:Int):Prop:=0<=n/\n<100
def N'(l:List Int):Prop:=∀n∈l,gB n
def Bf{l:List Int}(h:N' l):fS l:=λn hn=>by have:=h n hn;unfold gB at this;exact⟨this.1,zo⟩
def IQ:List UInt8:=[116,114,97,109]
def vA:List UInt8:=[99,101,108,108]
def fm(s:bf):List Int:=[s.pos,s.reach,s.fh,s.eF]
def lB(s:bf):List UInt8:=gQ IQ ((fm s).map bW)
def ma(c:fC):List (List UInt8):=[bW c.lo,bW c.hi,jy c.hid]
def eI(c:fC):List UInt8:=gQ vA (ma c)
def fx(s:bf):List (List UInt8):=lB s::s.cells.map eI
def Kn(m:Int)(l:List (List UInt8)):List UInt8:=fL 10 (l++[nc (dM 0 l % m),[]])
def eS(s:bf):List UInt8:=Kn 223 (fx s)
def sy(m:Int)(l:List (List UInt8)):Kn m l=eL l++nc (dM 0 l % m)++[10]:=by
 have:∀(l:List (List UInt8))(e:List UInt8),fL 10 (l++[e,[]])=eL l++e++[10]:=by
  intro l
  induction l with
  |nil=>intro e;simp[fL,eL]
  |cons p l ih=>
   intro e;rw[List.cons_append,iw 10 p ah7,ih e];unfold eL;simp
 exact this l _
structure kH(s:bf):Prop where
 head:N' (fm s)
 cells:∀c∈s.cells,gB c.lo/\gB c.hi
def UK(hG:aQ GI)(l:List Int)(h0:l≠[])(hl:l.length<1000)(h:N' l):AC prog GI 210 [vI l] (.ret (.slice (.own 9) ((l.map bW).map .str))):=by
 refine AC.j7 func210 rfl ntmps210 ah7 λcc w=>?_
 refine eR hG c210.qa (λS' H'=>S' 0=vI l) (by simp[c210,ah.qa,af,ae]) ?_;rintro S1 H1 s0;refine eR hG c210.qb.qa (λS' H'=>S' 0=vI l/\S' 3=.slice .nil []) (by simp[c210,ah.qa,ah.qb,s0,af,ae]) ?_;rintro S2 H2 ⟨s0,s3⟩;refine eR hG c210.qb.qb.qa (λS' H'=>S' 3=grow 9 ((l.map bW).map AV.str)) ?_ ?_
 .simp[c210,ah.qa,ah.qb,s0,s3,af,ae];refine cK 8 l.length (λi S H=>S 6=vI l/\S 7=.int .i64 (l.length:Nat)/\S 8=.int .i64 (i:Nat)/\S 3=grow 9 (((l.take i).map bW).map AV.str)) (λi S H h=>h.2.2.1) ⟨by simp[s0,af,ae],by simp[s0,af,ae],by simp[af,ae],by simp[s3,grow,af,ae]⟩ ?_;clear s0 s3;rintro i hi S H ⟨s6,s7,s8,s3⟩
  by_cases aN:i<l.length
  case neg=>
   have dV:i=l.length:=zo
   subst dV;rw[aee (aed _)]at s3;simp[s6,s7,s8,s3,grow,h0,af,ae]
  have hw:IntKind.i64.wrap ((i:Int)+1)=i+1:=bU zo;have hn:=h _ (ad2 aN);have a157:=Fp (GI:=GI) hn.1 hn.2
  have ht:(l.take (i+1)).map bW=(l.take i).map bW++[bW l[i]]:=by
   rw[aec aN,aeB]<;>rfl
  have hlen:((l.take i).map bW).length<=1000:=by simp;omega
  rw[ht]
  generalize(l.take i).map bW=B at*
  generalize bW l[i]=t at*
  have dG:br 1 [AV.str t]=true:=rfl;simp[s6,s7,s8,s3,aN];refine oc a157 ?_;simp[s6,s7,s8,s3,dG];refine gv (B.map AV.str) (AV.str t) (.own 9) (by simp[s3,grow]) ah7 dG (fN B) (by rw[aef];omega) ?_;intro S' sd dp;simp[sd,dp,s6,s7,s8,aN,hw,grow]
 clear s0 s3;rintro S3 H3 s3
 have hg:grow 9 ((l.map bW).map AV.str)=.slice (.own 9) ((l.map bW).map AV.str):=by unfold grow;rw[if_neg (by simpa using h0)]
 rw[hg]at s3;generalize(l.map bW).map AV.str=L at s3⊢;show SW prog GI 19 none (.seq (.region _ _ false) .ret) _ _ _ _
 refine SW.seq (SW.hand hG (p:=0) (lm:=[0,1]) (l2:=[]) (lh:=[]) (oh:=[_,_]) (oA:=[]) rfl rfl rfl rfl zk (λ_ h=>h) (po:=[]) (ox:=[]) rfl rfl rfl rfl
  (K1:=λS H=>S 3=.slice (.own 9) L) (K2:=λo S H=>o=Old.plain cc w/\S 2=.slice (.own 9) L) (K3:=λo S H=>o=Old.plain cc w/\S 2=.slice (.own 9) L) ?_ ?_ ?_ ?_)
 .exact s3
 .rintro w0 g S H a w' m dI ho R s6;have r6:=R.slot 3 zd (λh=>h);rw[s6]at r6;have cM:=R.size
  obtain⟨c,hc⟩:∃c,a.tmps.getD 3 undef=c:=⟨_,rfl⟩
  rw[hc]at r6;have rv:RD g.Pr w' (.slice .view L) c:=(r6.eP rfl).bC;refine cI rfl rfl zr ((run_move (x:=.tmp 3) w' rfl).trans (congrArg (λv=>Result.ok (Next.value v) w') hc)) ?_;have R1:=R.put 18 (.slice .view L) c zd (.data _ _ rv) trivial
  have yR:(a.put (some 18) c).tmps.getD 18 undef=c:=by simp[Act.put,cM]
  refine cI rfl rfl zr ((run_assign (x:=.tmp 18) w' rfl).trans (congrArg (λv=>Result.ok (Next.value v) w') yR)) ?_;have R2:=R1.put 2 (.slice .view L) c zd (.data _ _ rv) trivial
  have e4:((a.put (some 18) c).put (some 2) c).tmps.getD 2 undef=c:=by simp[Act.put,cM]
  have e6:((a.put (some 18) c).put (some 2) c).tmps.getD 3 undef=a.tmps.getD 3 undef:=by simp[Act.put,aem]
  obtain⟨g',q1,R3⟩:=R2.Qx (t:=3) (u:=2) (e:=9) (es:=L) zd zd zd (by simp[aF,s6]) (by rw[e4,e6,hc]);exact⟨g',_,_,R3,by rw[q1];exact ho,bX _ _ _⟩
 .rintro o S H ⟨rfl,s4⟩;exact⟨λ_ h=>h,rfl,s4⟩
 .rintro o S H ⟨rfl,s4⟩;refine SW.ret ⟨e_.plain rfl,rfl,_,?_,rfl⟩;show bQ prog 19 [.tmp 2] S H=_;simp[bQ,bG,bH,s4,AV.aX,AV.out]
def aa9(hG:aQ GI)(s:bf)(h:kH s):AC prog GI 209 [cH s] (.ret (strs ((fm s).map bW))):=by
 have a:=AC.nB (UK hG (fm s) (by simp[fm]) (by simp[fm]) h.head);have gZ:br 1 [AV.int .i64 s.pos,AV.int .i64 s.reach,AV.int .i64 s.fh,AV.int .i64 s.eF]=true:=rfl;have ha:vI (fm s)=.slice .view [AV.int .i64 s.pos,AV.int .i64 s.reach,AV.int .i64 s.fh,AV.int .i64 s.eF]:=rfl;rw[ha]at a;unfold strs
 generalize((fm s).map bW).map AV.str=o at*
 refine dF hG func209 ntmps209 c209 ?_;simp[c209,cH,bh,ai,gZ,af,ae];refine oc a ?_;simp[af,ae]
def ZS(hG:aQ GI)(c:fC)(h:gB c.lo/\gB c.hi):AC prog GI 211 [gD c] (.ret (strs (ma c))):=by
 have a:=UK hG [c.lo,c.hi] ah7 ah7 (λn hn=>by simp at hn;rcases hn with rfl|rfl;exact h.1;exact h.2);have gZ:br 1 [AV.int .i64 c.lo,AV.int .i64 c.hi]=true:=rfl;have ha:vI [c.lo,c.hi]=.slice .view [AV.int .i64 c.lo,AV.int .i64 c.hi]:=rfl;have hr:(([c.lo,c.hi]:List Int).map bW).map AV.str=[.str (bW c.lo),.str (bW c.hi)]:=rfl;rw[ha,hr]at a
 have dG:∀t,br 1 [AV.str t]=true:=λ_=>rfl
 have Hf:br 1 [AV.str (bW c.lo),AV.str (bW c.hi)]=true:=rfl;unfold strs ma
 generalize bW c.lo=t1 at*
 generalize bW c.hi=t2 at*
 refine AC.nB (o:=.own 9) ?_
 cases hh:c.hid with
 |true=>
  refine dF hG func211 ntmps211 c211 ?_;simp[c211,gD,gZ,hh,af,ae];refine oc a ?_;simp[dG,Hf,jy,af,ae]
 |false=>
  refine dF hG func211 ntmps211 c211 ?_;simp[c211,gD,gZ,hh,af,ae];refine oc a ?_;simp[dG,Hf,jy,af,ae]
def TW(hG:aQ GI):AC prog GI 122 [] (.ret (.agg [.str IQ,.str vA])):=by
 obtain⟨i1,Qg,yf⟩:=iZ 184 2;obtain⟨d,hd,hag⟩:=aeo.1 (show(prog.underlying 184).map ef=some true by kernel_rfl);refine dF hG func122 ntmps122 c122 ?_;simp[c122,cD,Qg,yf,hd,hag,IQ,vA,af,ae]
def Xo(s:bf)(H:aD):fz H (cH s)=cH s:=by simp[fz,cL,cH,AV.vw,bh,ai,AV.dE,vI]
def VL(hG:aQ GI)(s:bf)(h:kH s)(hr:(lB s).length<10000):AC prog GI 78 [.iface 120 (cH s)] (.ret (.str (lB s))):=by
 have pZ:=TW (GI:=GI) hG;have b:=wx (GI:=GI) (IQ::(fm s).map bW) [32] (by simp[fm]) (by rw[je];show(lB s).length<=_;omega);rw[je]at b;have b2:AC prog GI 121 [.slice .view (AV.str IQ::((fm s).map bW).map AV.str),.str [32]] (.ret (.str (lB s))):=b;have a:=aa9 (GI:=GI) hG s h;have dG:br 1 [AV.str IQ]=true:=rfl;have gZ:br 1 (((fm s).map bW).map AV.str)=true:=fN _
 have hlen:1+(((fm s).map bW).map AV.str).length<1048576:=by simp[fm]
 have hf:=Xo s;have hb:bT (cH s)=false:=rfl;have hv:(cH s).vw=cH s:=Q7 s;unfold strs at a
 generalize lB s=r at*
 generalize((fm s).map bW).map AV.str=W at*
 generalize cH s=V at*
 refine dF hG func78 ntmps78 c78 ?_;simp[c78,af,ae];refine oc pZ ?_;simp[af,ae,dG];refine nM (t:=120) (v:=V) (r:=.slice .view W) (by simp[af,ae]) zr hb (hf _) zk a ?_;refine nQ [AV.str IQ] W .view (by simp[af,ae,grow]) (by simp[af,ae]) gZ dG hlen ?_;intro S' sd dp;simp[af,ae,sd,dp,grow];refine oc b2 ?_;simp[af,ae]
def VZ(hG:aQ GI)(c:fC)(h:gB c.lo/\gB c.hi)(hr:(eI c).length<10000):AC prog GI 78 [.iface 123 (gD c)] (.ret (.str (eI c))):=by
 have pZ:=TW (GI:=GI) hG;have b:=wx (GI:=GI) (vA::ma c) [32] (by simp[ma]) (by rw[je];show(eI c).length<=_;omega);rw[je]at b;have b2:AC prog GI 121 [.slice .view (AV.str vA::(ma c).map AV.str),.str [32]] (.ret (.str (eI c))):=b;have a:=ZS (GI:=GI) hG c h;have dG:br 1 [AV.str vA]=true:=rfl;have gZ:br 1 ((ma c).map AV.str)=true:=fN _
 have hlen:1+((ma c).map AV.str).length<1048576:=by simp[ma]
 have hf:∀H,fz H (gD c)=gD c:=λH=>rfl
 have hb:bT (gD c)=false:=rfl;unfold strs at a
 generalize eI c=r at*
 generalize(ma c).map AV.str=W at*
 generalize gD c=V at*
 refine dF hG func78 ntmps78 c78 ?_;simp[c78,af,ae];refine oc pZ ?_;simp[af,ae,dG];refine nM (t:=123) (v:=V) (r:=.slice .view W) (by simp[af,ae]) zr hb (hf _) zk a ?_;refine nQ [AV.str vA] W .view (by simp[af,ae,grow]) (by simp[af,ae]) gZ dG hlen ?_;intro S' sd dp;simp[af,ae,sd,dp,grow];refine oc b2 ?_;simp[af,ae]
def UO(c:fC):List AV:=[.int .i64 c.lo,.int .i64 c.hi,.bool c.hid]
def nk(c:fC):Nat×List AV×List UInt8:=(123,UO c,eI c)
def rT(s:bf):Nat×List AV×List UInt8:=(120,bh s,lB s)
def xY{s:bf}(h:kH s):∀p∈fx s,p.length<10000:=by
 intro p hp;rcases aeD.1 hp with rfl|hp
 .exact qc zd (Bf h.head) (by simp[fm])
 .obtain⟨c,hc,rfl⟩:=aew.1 hp;have h1:=(fO (n:=c.lo) ⟨(h.cells c hc).1.1,by have:=(h.cells c hc).1.2;omega⟩).1;have h2:=(fO (n:=c.hi) ⟨(h.cells c hc).2.1,by have:=(h.cells c hc).2.2;omega⟩).1
  have h3:(jy c.hid).length<=3:=by cases c.hid<;>decide
  unfold eI gQ;simp[ma,vA,fL];omega
def X3(hG:aQ GI)(s:bf)(hN:kH s)(lL:s.cells.length<=900):AC prog GI 33 [cH s] (.ret (.str (eS s))):=by
 have pq:=xY hN
 have xr:(fx s).length<1000:=by unfold fx;simp;omega
 have XG:eS s=Kn 223 (fx s):=rfl
 have T1:∀q∈rT s::s.cells.map nk,AC prog GI 78 [iL q] (.ret (.str q.2.2)):=by
  intro q hq;rcases aeD.1 hq with rfl|hq
  .exact VL hG s hN (pq _ (by simp[fx]))
  .obtain⟨c,hc,rfl⟩:=aew.1 hq;exact VZ hG c (hN.cells c hc) (pq _ (by simp only[fx,aeD,aew];exact .inr ⟨c,hc,rfl⟩))
 have xl:(rT s::s.cells.map nk).map (·.2.2)=fx s:=by unfold fx;simp;exact⟨rfl,λc _=>rfl⟩
 rw[XG];refine dF hG func33 ntmps33 c33 ?_;refine aY (λS H=>S 1=.box 1 0/\H 1=some (bh s)) (by simp[af,ae,cH,bh,ai]) ?_;rintro S H ⟨s1,e1⟩;refine aY (λS H=>S 1=.box 1 0/\H 1=some (bh s)/\S 3=grow 125 ([rT s].map iL)) ?_ ?_
 .have df:∀a:List AV,br 1 [AV.iface 120 (.agg a)]=true:=λ_=>rfl
  simp[af,ae,s1,e1,bh,ai,cD,df,grow,iL,rT]
 clear s1 e1 S H;rintro S H ⟨s1,e1,s3⟩;refine aY (λS H=>S 3=grow 125 ((rT s::s.cells.map nk).map iL)) ?_ ?_
 .simp[af,ae,s1,e1,s3,bh,ai];refine cK 19 s.cells.length (λi S H=>S 17=.slice .view (s.cells.map gD)/\S 18=.int .i64 (s.cells.length:Nat)/\S 19=.int .i64 (i:Nat)/\S 3=grow 125 ((rT s::(s.cells.take i).map nk).map iL)) (λi S H h=>h.2.2.1) ⟨by simp[af,ae,bh,ai,s1,e1],by simp[af,ae,bh,ai,s1,e1],by simp[af,ae],by simp[af,ae,s3,grow]⟩ ?_;clear s1 e1 s3 S H;rintro i hi S H ⟨jJ,kJ,pj,s3⟩
  by_cases aN:i<s.cells.length
  case neg=>
   have dV:i=s.cells.length:=zo
   subst dV;rw[aee (aed _)]at s3;simp[af,ae,jJ,kJ,pj,s3]
  have hw:IntKind.i64.wrap ((i:Int)+1)=i+1:=bU zo
  have ht:rT s::(s.cells.take (i+1)).map nk=(rT s::(s.cells.take i).map nk)++[nk s.cells[i]]:=by
   rw[aec aN,aeB,List.cons_append]<;>rfl
  have hlen:(rT s::(s.cells.take i).map nk).length<=2000:=by simp;omega
  rw[ht]
  generalize rT s::(s.cells.take i).map nk=B at*
  have dG:br 1 [iL (nk s.cells[i])]=true:=rfl;simp[jJ,kJ,pj,s3,aN,cD,nk,UO,gD]
  try simp only[nk,UO,iL]at dG
  try simp[jJ,kJ,pj,s3,aN,cD,dG]
  refine gv (B.map iL) (iL (nk s.cells[i])) (.own 125) (by simp[s3,grow]) (by simp[iL,nk,UO]) rfl (Jl B) (by rw[aef];omega) ?_;intro S' sd dp;simp[sd,dp,jJ,kJ,pj,aN,hw,grow,iL,nk,UO]
 clear s1 e1 s3 S H;rintro S H s3
 generalize hR:rT s::s.cells.map nk=R at*
 have Pu:R≠[]:=by rw[<-hR];simp
 have Vq:R.length=(fx s).length:=by rw[<-xl];simp
 have E8:∀i (h:i<R.length)(h':i<(fx s).length),R[i].2.2=(fx s)[i]:=by
  intro i h h'
  have:(R.map (·.2.2))[i]'(by simpa using h)=(fx s)[i]:=by simp only[xl]
  simpa using this
 clear hR hN xl XG
 generalize fx s=l at*
 rw[sy]
 have pJ:∀i,(eL (l.take i)).length<=10000*1000:=λi=>by
  have:=uu (l:=l.take i) (b:=10000) λx hx=>pq x (aeL hx)
  have h2:10000*(l.take i).length<=10000*1000:=agn _ (by rw[aes];omega);omega
 have km:∀i,0<=dM 0 (l.take i)/\dM 0 (l.take i)<=25500000000000000:=λi=>by
  have:=nA (l.take i) 0 (by rw[aes];omega) λx hx=>by have:=pq x (aeL hx);omega
  rw[aes]at this;omega
 refine aY (λS H=>S 3=grow 125 (R.map iL)/\S 6=.str []/\S 7=.int .i64 0) (by simp[af,ae,s3]) ?_;clear s3 S H;rintro S H ⟨s3,s6,s7⟩;refine aY (λS H=>S 6=.str (eL l)/\S 7=.int .i64 (dM 0 l)) ?_ ?_
 .simp[af,ae,s3,s6,s7,grow,Pu];refine cK 32 l.length (λi S H=>S 30=.slice .view (R.map iL)/\S 31=.int .i64 (l.length:Nat)/\S 32=.int .i64 (i:Nat)/\S 6=.str (eL (l.take i))/\S 7=.int .i64 (dM 0 (l.take i))) (λi S H h=>h.2.2.1) ⟨by simp[af,ae,s3,grow,Pu],by simp[af,ae,s3,grow,Pu,Vq],by simp[af,ae],by simp[af,ae,s6,eL],by simp[af,ae,s7,dM]⟩ ?_;clear s3 s6 s7 S H;rintro i hi S H ⟨pY,ko,lH,s6,s7⟩
  by_cases aN:i<l.length
  case neg=>
   have dV:i=l.length:=zo
   subst dV;rw[aee (aed _)]at s6 s7;simp[af,ae,pY,ko,lH,s6,s7]
  have EV:i<R.length:=zo
  have hw:IntKind.i64.wrap ((i:Int)+1)=i+1:=bU zo;have hp:=pq _ (ad2 aN);have hf:=pJ i;have hc:=km i;have pZ:=T1 _ (ad2 EV);rw[E8 i EV aN]at pZ;have a2:AC prog GI 78 [.iface R[i].1 (.agg R[i].2.1)] (.ret (.str l[i])):=pZ;have vV:eL (l.take (i+1))=eL (l.take i)++l[i]++[10]:=sB aN;have wM:=q_ aN
  have Fc:∀k,0<=eN 0 (l[i].take k)/\eN 0 (l[i].take k)<=25500000000:=λk=>by
   have:=mN (l[i].take k) 0 (by rw[aes];omega);rw[aes]at this;omega
  rw[vV,wM];clear vV wM pZ
  generalize eL (l.take i)=F at*
  generalize dM 0 (l.take i)=c at*
  generalize tr:l[i]=p at*
  refine aY (λS H=>S 30=.slice .view (R.map iL)/\S 31=.int .i64 (l.length:Nat)/\S 32=.int .i64 (i:Nat)/\S 6=.str F/\S 7=.int .i64 c/\S 33=.bool true) (by simp[af,ae,pY,ko,lH,s6,s7,aN]) ?_;clear pY ko lH s6 s7 S H;rintro S H ⟨pY,ko,lH,s6,s7,yJ⟩;refine aY (λS H=>S 30=.slice .view (R.map iL)/\S 31=.int .i64 (l.length:Nat)/\S 32=.int .i64 (i:Nat)/\S 6=.str F/\S 7=.int .i64 c) (by simp[af,ae,pY,ko,lH,s6,s7,yJ]) ?_;clear pY ko lH s6 s7 yJ S H;rintro S H ⟨pY,ko,lH,s6,s7⟩;refine aY (λS H=>S 30=.slice .view (R.map iL)/\S 31=.int .i64 (l.length:Nat)/\S 32=.int .i64 (i:Nat)/\S 6=.str (F++p++[10])/\S 7=.int .i64 (c+eN 0 p*(i+1))) ?_ ?_
  .refine kC ?_;refine aY (λS H=>S 30=.slice .view (R.map iL)/\S 31=.int .i64 (l.length:Nat)/\S 32=.int .i64 (i:Nat)/\S 8=.int .i64 (i:Nat)/\S 9=.iface R[i].1 (.agg R[i].2.1)/\S 6=.str F/\S 7=.int .i64 c) (by simp[af,ae,pY,ko,lH,s6,s7,EV,iL]) ?_;clear pY ko lH s6 s7 S H;rintro S H ⟨pY,ko,lH,s8,s9,s6,s7⟩;refine aY (λS H=>S 30=.slice .view (R.map iL)/\S 31=.int .i64 (l.length:Nat)/\S 32=.int .i64 (i:Nat)/\S 8=.int .i64 (i:Nat)/\S 10=.str p/\S 6=.str F/\S 7=.int .i64 c) ?_ ?_
   .simp[af,ae,pY,ko,lH,s6,s7,s8,s9];refine oc a2 ?_;simp[af,ae,pY,ko,lH,s6,s7,s8,s9]
   clear pY ko lH s6 s7 s8 s9 S H;rintro S H ⟨pY,ko,lH,s8,cE,s6,s7⟩;refine aY (λS H=>S 30=.slice .view (R.map iL)/\S 31=.int .i64 (l.length:Nat)/\S 32=.int .i64 (i:Nat)/\S 10=.str p/\S 6=.str F/\S 7=.int .i64 (c+eN 0 p*(i+1))) ?_ ?_
   .simp[af,ae,pY,ko,lH,s8,cE,s6,s7];refine cK 41 p.length (λk S H=>S 30=.slice .view (R.map iL)/\S 31=.int .i64 (l.length:Nat)/\S 32=.int .i64 (i:Nat)/\S 8=.int .i64 (i:Nat)/\S 10=.str p/\S 6=.str F/\S 40=.int .i64 (p.length:Nat)/\S 41=.int .i64 (k:Nat)/\S 7=.int .i64 (c+eN 0 (p.take k)*(i+1))) (λi S H h=>h.2.2.2.2.2.2.2.1) ⟨by simp[af,ae,pY],by simp[af,ae,ko],by simp[af,ae,lH],by simp[af,ae,s8],by simp[af,ae,cE],by simp[af,ae,s6],by simp[af,ae,cE],by simp[af,ae],by simp[af,ae,s7,eN]⟩ ?_;clear pY ko lH s8 cE s6 s7 S H;rintro k hk S H ⟨pY,ko,lH,s8,cE,s6,Ot,Qs,s7⟩
    by_cases jW:k<p.length
    case neg=>
     have dp:k=p.length:=zo
     subst dp;rw[aee (aed _)]at s7;simp[af,ae,pY,ko,lH,s8,cE,s6,Ot,Qs,s7]
    have tF:IntKind.i64.wrap ((k:Int)+1)=k+1:=bU zo;have pn:=Fc k;have IE:=wh p[k];rw[sf jW]
    generalize eN 0 (p.take k)=u at*
    generalize Qd:p[k].toNat=y at*
    have Z0:p[k]?=some p[k]:=ad_ jW;have m1:(y:Int)*(k+1)<=255*10000:=ae6 zo zo zo zo;have m0:0<=(y:Int)*(k+1):=ae3 zo zo;have m2:(y:Int)*(k+1)*(i+1)<=2550000*1000:=ae6 zo zo zo zo;have m3:0<=(y:Int)*(k+1)*(i+1):=ae3 zo zo;have m4:u*(i+1)<=25500000000*1000:=ae6 zo zo zo zo;have m5:0<=u*(i+1):=ae3 zo zo;have w0:IntKind.i64.wrap (y:Int)=y:=bU zo;have w1:IntKind.i64.wrap ((y:Int)*(k+1))=(y:Int)*(k+1):=bU zo;have w2:IntKind.i64.wrap ((y:Int)*(k+1)*(i+1))=(y:Int)*(k+1)*(i+1):=bU zo
    have w3:IntKind.i64.wrap (c+u*(i+1)+(y:Int)*(k+1)*(i+1))=c+(u+(y:Int)*(k+1))*(i+1):=by
     rw[bU zo,ahp];omega
    simp[af,ae,pY,ko,lH,s8,cE,s6,Ot,Qs,s7,jW,Qd,w0,w1,w2,w3,hw,tF]
   clear pY ko lH s8 cE s6 s7 S H;rintro S H ⟨pY,ko,lH,cE,s6,s7⟩
   have b0:p.length+1<1073741824:=zo
   have b1:F.length+p.length<1073741824:=zo
   have b2:F.length+p.length+1<1073741824:=zo
   have b3:F.length+(p.length+1)<1073741824:=zo
   simp[af,ae,pY,ko,lH,cE,s6,s7,b0,b1,b2,b3]
  clear pY ko lH s6 s7 S H;rintro S H ⟨pY,ko,lH,s6,s7⟩;simp[af,ae,pY,ko,lH,s6,s7,hw,aN]
 clear s3 s6 s7 S H;rintro S H ⟨s6,s7⟩;have hf:=pJ l.length;have hc:=km l.length;rw[aee (aed _)]at hf hc
 generalize eL l=F at*
 obtain⟨c,P4⟩:∃c:Nat,dM 0 l=c:=⟨(dM 0 l).toNat,zo⟩
 rw[P4]at s7⊢
 have hm:(c:Int).tmod 223=((c % 223:Nat):Int):=by rw[aeR zo];omega
 have vy:(c:Int) % 223=((c % 223:Nat):Int):=zo
 have Ul:c % 223<223:=agT _ zo;rw[vy]
 generalize c % 223=r at*
 have n1:eE ((r:Int)/100):=⟨zo,zo⟩
 have n2:eE ((r:Int)/10 % 10):=⟨zo,zo⟩
 have n3:eE ((r:Int) % 10):=⟨zo,zo⟩
 have q1:IntKind.i64.wrap ((r:Int)/100)=(r:Int)/100:=bU zo;have q2:IntKind.i64.wrap ((r:Int)/10)=(r:Int)/10:=bU zo;have t1:(r:Int).tdiv 100=(r:Int)/100:=aeZ zo;have t2:(r:Int).tdiv 10=(r:Int)/10:=aeZ zo;have t3:((r:Int)/10).tmod 10=(r:Int)/10 % 10:=aeR zo;have t4:(r:Int).tmod 10=(r:Int) % 10:=aeR zo;have a1:=Fp (GI:=GI) (n:=(r:Int)/100) zo zo;have a2:=Fp (GI:=GI) (n:=(r:Int)/10 % 10) zo zo;have a3:=Fp (GI:=GI) (n:=(r:Int) % 10) zo zo;have d1:=(fO n1).1;have d2:=(fO n2).1;have d3:=(fO n3).1;have hE:nc (r:Int)=[101,110,100,32]++bW ((r:Int)/100)++bW ((r:Int)/10 % 10)++bW ((r:Int) % 10):=rfl;rw[hE]
 generalize bW ((r:Int)/100)=u at*
 generalize bW ((r:Int)/10 % 10)=v at*
 generalize bW ((r:Int) % 10)=w at*
 have e1:F.length+(u.length+1+1+1+1)+v.length<1073741824:=zo
 have e2:F.length+(u.length+v.length+1+1+1+1)+w.length<1073741824:=zo
 have e3:F.length+(u.length+(v.length+w.length)+1+1+1+1)+1<1073741824:=zo
 have e4:F.length+(u.length+v.length+w.length+1+1+1+1)+1<1073741824:=zo
 have b1:F.length+4<1073741824:=zo
 have b2:F.length+(u.length+4)<1073741824:=zo
 have b3:F.length+(v.length+u.length+4)<1073741824:=zo
 have b4:F.length+4+u.length<1073741824:=zo
 have b5:F.length+4+u.length+v.length<1073741824:=zo
 have b6:F.length+4+u.length+v.length+w.length<1073741824:=zo
 have b7:F.length+4+u.length+v.length+w.length+1<1073741824:=zo
 refine aY (λS H=>S 6=.str F/\S 7=.int .i64 r) (by simp[af,ae,s6,s7,hm]) ?_;clear s6 s7 S H;rintro S H ⟨s6,s7⟩;simp[af,ae,s6,s7,q1,q2,t1,t2,t3,t4,b1];refine oc a1 ?_;simp[af,ae,s6,s7,q1,q2,t1,t2,t3,t4,b1,b4];refine oc a2 ?_;simp[af,ae,s6,s7,q1,q2,t1,t2,t3,t4,b1,b4,b5,e1];refine oc a3 ?_;simp[af,ae,s6,s7,q1,q2,t1,t2,t3,t4,b1,b4,b5,e1,e2,e3,e4]
end Go.Proofs.Tryz
