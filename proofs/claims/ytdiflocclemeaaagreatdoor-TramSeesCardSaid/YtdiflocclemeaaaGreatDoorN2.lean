/-
  A part of the proof.
-/
import Derived.Test.YtdiflocclemeaaaGreatDoorN1
import Derived.Test.YtdiflocclemeaaaGreatDoorProg
set_option maxRecDepth 100000
set_option maxHeartbeats 8000000
set_option linter.all false
set_option linter.unusedVariables false
set_option linter.unusedSimpArgs false
set_option linter.deprecated false
namespace Go.AL
open Go.RowKit
inductive af where
 |skip
 |ops (l:List fw)
 |eB (l:List fw)
 |seq (x y:af)
 |cond (c:pR) (x y:af)
 |block (id:Nat) (c:af)
 |loop (c:af)
 |exit (id:Nat)
 |ret
 |bad
def kT(P:Program)(n:Nat):Code->af
 |.skip=>.skip
 |.region _ ops draw=>
  if draw then(if dOK P n ops then .eB (mV P n true ops)else .bad)
  else(if(mV P n false ops).all (·.ok n)then .ops (mV P n false ops)else .bad)
 |.seq x y=>.seq (kT P n x) (kT P n y)
 |.cond c x y=>match lQ n c with
  |some c=>.cond c (kT P n x) (kT P n y)
  |none=>.bad
 |.block id c=>.block id (kT P n c)
 |.loop c=>.loop (kT P n c)
 |.exit id=>.exit id
 |.ret=>.ret
 |_=>.bad
def cV(K:aF->aK->Prop)(Q:ft->aF->aK->Prop):ft->aF->aK->Prop
 |.normal,S,H=>K S H
 |.exit id,S,H=>Q (.exit id) S H
 |.ret,S,H=>Q .ret S H
 |.panic v,S,H=>Q (.panic v) S H
def db(id:Nat)(Q:ft->aF->aK->Prop):ft->aF->aK->Prop
 |.normal,S,H=>Q .normal S H
 |.exit j,S,H=>if j=id then Q .normal S H else Q (.exit j) S H
 |.ret,S,H=>Q .ret S H
 |.panic v,S,H=>Q (.panic v) S H
def af.names:af->List Nat
 |.ops l=>l.flatMap fw.l5
 |.eB l=>l.flatMap fw.l5
 |.seq x y=>x.names++y.names
 |.cond _ x y=>x.names++y.names
 |.block _ c=>c.names
 |.loop c=>c.names
 |_=>[]
def bO(P:Program)(GI:World->Prop):af->(ft->aF->aK->Prop)->aF->aK->Prop
 |.skip,Q,S,H=>Q .normal S H
 |.ops l,Q,S,H=>bj P GI l (Q .normal) (λv=>Q (.panic v) S H) S H
 |.eB l,Q,S,H=>eB P GI l (Q .normal) (fV l S) (eG l H)
 |.seq x y,Q,S,H=>bO P GI x (cV (bO P GI y Q) Q) S H
 |.cond c x y,Q,S,H=>match ev S c with
  |.bool true=>bO P GI x Q S H
  |.bool false=>bO P GI y Q S H
  |.JJ=>bO P GI x Q S H/\bO P GI y Q S H
  |_=>False
 |.block id c,Q,S,H=>bO P GI c (db id Q) S H
 |.loop c,Q,S,H=>∃(I:aF->aK->Prop)(μ:aF->aK->Nat),I S H/\∀S H,I S H->bO P GI c (cV (λS' H'=>I S' H'/\μ S' H'<μ S H) Q) S H
 |.exit id,Q,S,H=>Q (.exit id) S H
 |.ret,Q,S,H=>Q .ret S H
 |.bad,_,_,_=>False
section
variable{P:Program}{GI:World->Prop}{w0:World}{n:Nat}{g:Gh}{S:aF}{H:aK}{a:Act}{w:World}
theorem aaO {c:Code} {Q:Exit→Act→World→Prop} (J:Nat→Act→World→Prop)
  (round:∀m a w,J m a w->c.wp P (Exit.then (λa' w'=>∃m',m'<m/\J m' a' w') Q) a w) {m:Nat} (h0:J m a w):(Code.loop c).wp P Q a w:=by
 intro b k cs
 have key:∀m a w,J m a w->∃e a' w',Q e a' w'/\Arrives P (lone (b.at a (.code c::.inLoop c::k)) cs w) b k cs e a' w':=by
  intro m
  induction m using Nat.strongRecOn with
  |_ m ih=>
   intro a w hJ;obtain⟨e,JW,Oc,hq,Hw⟩:=round m a w hJ b (.inLoop c::k) cs
   cases e with
   |normal=>
    obtain⟨m',aw,hJ'⟩:=hq;obtain⟨Z8,ZA,Z1,XG,T'⟩:=ih m' aw JW Oc hJ';exact⟨Z8,ZA,Z1,XG,.of_steps (Steps.trans Hw (.one step_inLoop)) T'⟩
   |exit id=>exact⟨_,JW,Oc,hq,.pass (x:=.inLoop c) rfl (λ_ _=>.inl (by simp)) Hw⟩
   |goto l=>exact⟨_,JW,Oc,hq,.pass (x:=.inLoop c) rfl (λ_ _=>.inl (by simp)) Hw⟩
   |ret=>exact⟨_,JW,Oc,hq,.pass (x:=.inLoop c) rfl (λ_ _=>.inl (by simp)) Hw⟩
   |panic ch=>exact⟨_,JW,Oc,hq,.pass (x:=.inLoop c) rfl (λ_ _=>.inl (by simp)) Hw⟩
   |outgrown=>exact⟨_,JW,Oc,hq,.pass (x:=.inLoop c) rfl (λ_ _=>.inl (by simp)) Hw⟩
 obtain⟨e,a',w',hq,Hw⟩:=key _ _ _ h0;exact⟨e,a',w',hq,.of_steps (.one step_loop) Hw⟩
theorem O8 (hG:au GI) (dS:GI w0) (hm:P.follows .mixedOrders=true) {old:Old} :
  ∀(c:Code)(Q:ft->aF->aK->Prop)(g:Gh)(S:aF)(H:aK)(a:Act)(w:World),(∀d∈(kT P n c).names,¬old.bx d)->g.old=old->Rel P w0 n dU g S H a w->bO P GI (kT P n c) Q S H->c.wp P (QQ P w0 n old Q) a w
 |.skip,Q,g,S,H,a,w,ib,ho,R,h=>wp_skip ⟨g,S,H,ho,R,h⟩
 |.region id ops draw,Q,g,S,H,a,w,ib,ho,R,h=>by
  simp only[kT]at h ib
  cases draw with
  |true=>
   simp only[afH]at h ib;split at h
   case isFalse=>exact h.elim
   rename_i eK;rw[if_pos eK]at ib;exact abt hG dS hm eK (λo Of d hd=>ib d (ahh.2 ⟨o,Of,hd⟩)) ho R h
  |false=>
   simp only[afj,afx]at h ib;split at h
   case isFalse=>exact h.elim
   rename_i eK;rw[if_pos eK]at ib;exact acf hG dS eK (λo Of d hd=>ib d (ahh.2 ⟨o,Of,hd⟩)) ho R h
 |.seq x y,Q,g,S,H,a,w,ib,ho,R,h=>by
  refine wp_seq (aiU (O8 hG dS hm x _ g S H a w (λd hd=>ib d (by simp[kT,af.names,hd])) ho R h) ?_);intro e a' w' he
  cases e with
  |normal=>
   obtain⟨g',S',H',h1,h2,h3⟩:=he;exact O8 hG dS hm y Q g' S' H' a' w' (λd hd=>ib d (by simp[kT,af.names,hd])) h1 h2 h3
  |exit id=>exact he
  |ret=>exact he
  |panic ch=>exact he
  |goto l=>exact he.elim
  |outgrown=>exact he.elim
 |.cond c x y,Q,g,S,H,a,w,ib,ho,R,h=>by
  simp only[kT]at h;split at h
  case h_2=>exact h.elim
  rename_i c' hc;simp only[kT,hc,af.names,afr]at ib;simp only[bO]at h;have hv:=R.ev hc (λ_ _=>id);split at h
  .rename_i hb;rw[hb]at hv
   have:a.eval c=.bool true:=by
    generalize a.eval c=v at hv;cases hv;rename_i hv;cases hv;rfl
   exact wp_cond this (O8 hG dS hm x Q g S H a w (λd hd=>ib d (.inl hd)) ho R h)
  .rename_i hb;rw[hb]at hv
   have:a.eval c=.bool false:=by
    generalize a.eval c=v at hv;cases hv;rename_i hv;cases hv;rfl
   exact wp_cond this (O8 hG dS hm y Q g S H a w (λd hd=>ib d (.inr hd)) ho R h)
  .rename_i hb;rw[hb]at hv
   have:∃b,a.eval c=.bool b:=by
    generalize a.eval c=v at hv;cases hv;rename_i hv;cases hv;exact⟨_,rfl⟩
   obtain⟨b,hb⟩:=this
   cases b with
   |true=>exact wp_cond hb (O8 hG dS hm x Q g S H a w (λd hd=>ib d (.inl hd)) ho R h.1)
   |false=>exact wp_cond hb (O8 hG dS hm y Q g S H a w (λd hd=>ib d (.inr hd)) ho R h.2)
  .exact h.elim
 |.block id c,Q,g,S,H,a,w,ib,ho,R,h=>by
  refine wp_block (aiU (O8 hG dS hm c _ g S H a w (λd hd=>ib d (by simpa[kT,af.names]using hd)) ho R h) ?_);intro e a' w' he
  cases e with
  |normal=>exact he
  |exit j=>
   obtain⟨g',S',H',h1,h2,h3⟩:=he;simp only[db]at h3;simp only[Exit.inBlock];split
   .rename_i hj;rw[if_pos hj]at h3;exact⟨g',S',H',h1,h2,h3⟩
   .rename_i hj;rw[if_neg hj]at h3;exact⟨g',S',H',h1,h2,h3⟩
  |ret=>exact he
  |panic ch=>exact he
  |goto l=>exact he.elim
  |outgrown=>exact he.elim
 |.loop c,Q,g,S,H,a,w,ib,ho,R,h=>by
  obtain⟨I,μ,h0,hr⟩:=h;refine aaO (λm a w=>∃g S H,g.old=old/\Rel P w0 n dU g S H a w/\I S H/\μ S H=m) ?_ (m:=μ S H) ⟨g,S,H,ho,R,h0,rfl⟩;rintro m a' w' ⟨g',S',H',h1,h2,h3,rfl⟩;refine aiU (O8 hG dS hm c _ g' S' H' a' w' (λd hd=>ib d (by simpa[kT,af.names]using hd)) h1 h2 (hr S' H' h3)) ?_;intro e a'' yT he
  cases e with
  |normal=>
   obtain⟨g2,S2,H2,k1,k2,k3,k4⟩:=he;exact⟨_,k4,g2,S2,H2,k1,k2,k3,rfl⟩
  |exit id=>exact he
  |ret=>exact he
  |panic ch=>exact he
  |goto l=>exact he.elim
  |outgrown=>exact he.elim
 |.exit id,Q,g,S,H,a,w,ib,ho,R,h=>wp_exit ⟨g,S,H,ho,R,h⟩
 |.ret,Q,g,S,H,a,w,ib,ho,R,h=>wp_ret ⟨g,S,H,ho,R,h⟩
 |.rangeFunc ..,_,_,_,_,_,_,_,_,_,h=>h.elim
 |.scope _,_,_,_,_,_,_,_,_,_,h=>h.elim
 |.label _,_,_,_,_,_,_,_,_,_,h=>h.elim
 |.goto _,_,_,_,_,_,_,_,_,_,h=>h.elim
 |.refuse _,_,_,_,_,_,_,_,_,_,h=>h.elim
def AV.out:AV->AV
 |.agg cs=>.agg (cs.map cm)
 |v=>v
def cI(P:Program)(n:Nat)(S:aF)(H:aK):ResultVar->Option AV
 |.tmp t=>if t<n/\(S t).bU=true then some (S t)else none
 |.cell a t=>if a < n then
   match S a with
   |.box i off=>match H i,P.info? t,P.underlying t with
    |some cs,some it,some d=>ck (fg d) it.size (cs.drop off)
    |_,_,_=>none
   |_=>none
  else none
def cH(P:Program)(n:Nat)(S:aF)(H:aK):List ResultVar->Option (List AV)
 |[]=>some []
 |r::rs=>match cI P n S H r,cH P n S H rs with
  |some v,some vs=>some (v::vs)
  |_,_=>none
def cw(P:Program)(n:Nat)(rs:List ResultVar)(S:aF)(H:aK):Option AV:=
 match cH P n S H rs with
 |some [v]=>some v.out
 |some vs=>some (.d_ (vs.map AV.vw))
 |none=>none
def abe(a:Act):ResultVar->Sem Value
 |.tmp t=>pure (a.tmps.getD t undef)
 |.cell x t=>do loadVar t (<-asAddr (a.tmps.getD x undef))
theorem aa9 (R:Rel P w0 n dU g S H a w) {r:ResultVar} {v:AV} (h:cI P n S H r=some v) :
  ∃c,(abe a r).run P w=.ok c w/\RD g.Pr w v c/\Ya P g.base g.hi w v c:=by
 cases r with
 |tmp t=>
  simp only[cI]at h
  split at h<;>cases h
  rename_i hc;refine⟨a.tmps.getD t undef,rfl,(R.slot t hc.1 id).j_ hc.2,?_⟩;have ho:=R.own t hc.1 id;generalize S t=v at ho;generalize a.tmps.getD t undef=c at ho
  cases v<;>try trivial
  rename_i oo es
  cases oo with
  |view=>trivial
  |nil=>trivial
  |own e=>
   obtain⟨i,xs,b,h1,h2,h3,h4,h5⟩:=ho;exact⟨i,xs,b,h1,h2,h3,h5⟩
 |cell x t=>
  simp only[cI]at h;split at h
  case isFalse=>cases h
  rename_i hx;have hs:=R.slot x hx id;generalize S x=q at h hs;generalize Pe:a.tmps.getD x undef=cx at hs
  cases hs<;>(try cases h;done)
  case data hh=>cases hh<;>cases h
  rename_i i off b sC;obtain⟨cs,vs,MC,k1,k2,k3,k4,k5,k6,k7,k8,k9⟩:=R.box i b sC;simp only[k1]at h;split at h
  case h_2=>cases h
  rename_i kd it d IQ hit hd;cases IQ
  obtain ⟨c,h1,h2,h3⟩:=V2 (Pr:=g.Pr) (al:=g.al) (P:=P) (w:=w) (b:=b) (off:=off) hit hd (vs:=fun k=>vs.getD (off+k) undef) (fun k hk=>by
    simp only[agN]at hk
    have:off+k<vs.size:=by omega
    simp[World.cell?,k3,this]) (λk hk=>by
    simp only[agN]at hk;simp only[aik]
    exact k9 (off+k) (by omega)) (λk hk=>by
    simp only[agN]at hk;simp only[aik];have hh:=k7 (off+k) (by omega) (by omega)
    have:off+k<vs.size:=by omega
    simpa[this]using hh) h
  refine⟨c,by simp only[abe,Pe,asAddr,afW,Sem.run_pure,Result.andThen_ok,h1],h2,?_⟩;rw[<-h3]
  cases v<;>try trivial
  rename_i oo es
  cases oo<;>trivial
theorem U' (R:Rel P w0 n dU g S H a w):∀ {rs:List ResultVar} {vs:List AV},cH P n S H rs=some vs →
  ∃cs:List Value,(rs.mapM (abe a)).run P w=Result.ok cs w/\vs.length=cs.length/\
   ∀i (h:i<vs.length)(h':i<cs.length),RD g.Pr w vs[i] cs[i]/\Ya P g.base g.hi w vs[i] cs[i]
 |[],vs,h=>by cases h;exact⟨[],by simp,rfl,λi h=>by simp at h⟩
 |r::rs,vs,h=>by
  simp only[cH]at h
  split at h<;>cases h
  rename_i v Oa h1 h2;obtain⟨c,r1,r2,r3⟩:=aa9 R h1;obtain⟨cs,q1,q2,q3⟩:=U' R h2;refine⟨c::cs,?_,by simp[q2],λi hi gq=>?_⟩
  .simp[List.mapM_cons,r1,q1]
  .cases i with
   |zero=>exact⟨r2,r3⟩
   |succ i=>exact q3 i (by simpa using hi) (by simpa using gq)
theorem WY (R:Rel P w0 n dU g S H a w) {fn:Func} {v:AV} (h:cw P n fn.results.toList S H=some v) :
  ∃c,(results fn a.tmps).run P w=.ok c w/\RD g.Pr w v c/\Ya P g.base g.hi w v c:=by
 unfold cw at h
 have eh:∀ cs:List Value,(fn.results.toList.mapM (abe a)).run P w=Result.ok cs w →
   (results fn a.tmps).run P w=.ok (if h:cs.toArray.size=1 then cs.toArray[0]else .tuple cs.toArray) w:=by
  intro cs IQ;unfold results;rw[Array.mapM_eq_mapM_toList]
  have e:(fn.results.toList.mapM λr=>match r with|.tmp t=>(pure (a.tmps.getD t undef):Sem Value)|.cell x t=>do loadVar t (<-asAddr (a.tmps.getD x undef)))=fn.results.toList.mapM (abe a):=by
   congr 1
  simp only[afW,Sem.run_map]
  erw[e]
  rw[IQ]
  rfl
 split at h
 .rename_i v' hv;cases h;obtain⟨cs,q1,q2,q3⟩:=U' R hv
  match cs,q2 with
  |[c],_=>
   have h1:=(q3 0 (by simp) (by simp)).1;have h2:=(q3 0 (by simp) (by simp)).2;simp only[List.getElem_cons_zero]at h1 h2;refine⟨c,by rw[eh _ q1];rfl,?_,?_⟩
   .cases v'<;>first|exact h1|exact h1.vw
   .cases v'<;>first|exact h2|trivial
 .rename_i vs dO AK;cases h;obtain⟨cs,q1,q2,q3⟩:=U' R AK;refine⟨.tuple cs.toArray,?_,.d_ _ _ (by simp[q2]) (λi h h'=>?_),trivial⟩
  .rw[eh _ q1,dif_neg];intro hl
   have:vs.length=1:=by rw[q2];simpa using hl
   match vs,this with
   |[v],_=>exact dO v rfl
  .simp only[afi]at h;simp only[afl,List.getElem_toArray];exact(q3 i h (by simpa using h')).1.vw
 .cases h
def post(P:Program)(n:Nat)(rs:List ResultVar)(out:eZ):ft->aF->aK->Prop
 |.normal,S,H|.ret,S,H=>∃v,cw P n rs S H=some v/\out=.ret v
 |.panic v,_,_=>out=.panic v
 |_,_,_=>False
def start(args:List AV):aF:=λt=>(args.getD t cG).aI
theorem AC.Oj (hG:au GI) (hm:P.follows .mixedOrders=true) {f:Nat} {fn:Func} {c:Code} {args:List AV} {out:eZ} (hf:P.funcs[f]? = some fn) (hb:fn.body=some c) (hn:fn.ntmps=n) (hl:args.length≤n) {ac:af} (hc:kT P n c=ac)
  (h:bO P GI ac (post P n fn.results.toList out) (start args) (λ_=>none)):AC P GI f args out:=by
 intro w old dH fR hlen hr;refine ahm hf hb ?_;subst hc
 let g:Gh:={ base:=w.heap.size,old:=Old.plain old w,al:=λ_=>none,hi:=λ_=>0,owner:=λ_=>none }
 have bL:(dH++Array.replicate (fn.ntmps-dH.size) undef).size=n:=by simp;omega
 have R:Rel P w n dU g (start args) (λ_=>none) { tmps:=dH++Array.replicate (fn.ntmps-dH.size) undef,defers:=[] } w:=by
  refine{ size:=bL,defers:=rfl,facts:=λ_ h=>(by cases h),slot:=?_,own:=?_,box:=?_,Cf:=?_,BB:=?_,inj:=?_,base:=rfl,below:=aga _ _,fresh:=λb _=>⟨rfl,rfl⟩,still:=⟨λ_ _ h=>h.elim,λ_ h=>h.elim⟩,grown:=afg _,kept:=λ_ _ h=>(by cases h) }
  .intro t ht _
   by_cases hta:t<args.length
   .have h1:start args t=args[t].aI:=by simp[start,hta]
    have h2:(dH++Array.replicate (fn.ntmps-dH.size) undef).getD t undef=dH[t]'(by omega):=by
     have:t<dH.size:=by omega
     simp[ah2,this]
    rw[h1,h2];refine((hr t hta (by omega)).mono (bz.same λb k aw hp=>.inl ⟨aw,hp⟩) (λ_ _ h=>h)).aI
   .have h1:start args t=cG:=by simp[start,hta,cG,AV.aI]
    have h2:(dH++Array.replicate (fn.ntmps-dH.size) undef).getD t undef=undef:=by
     have:¬t<dH.size:=by omega
     simp only[agl,ah2,this,afx]
     by_cases hh:t-dH.size<fn.ntmps-dH.size
     .simp[hh]
     .simp[hh]
    rw[h1,h2];exact .data _ _ (XH _ _)
  .intro t ht _;exact Hh _ _ _
  .intro i b h;cases h
  .intro i cs h;cases h
  .intro i h;rfl
  .intro i j b h;cases h
 refine aiU (O8 hG fR hm c _ g _ _ _ w (λ_ _ h=>h) rfl R h) ?_;intro e a' w' he
 have fin:(∃ g' S H,g'.old=Old.plain old w∧Rel P w n dU g' S H a' w'∧∃ v,cw P n fn.results.toList S H=some v∧out = .ret v) →
   a'.defers=[]/\∃v,(results fn a'.tmps).run P w'=.ok v w'/\Ends P old w out (.returned v) w':=by
  rintro⟨g',S,H,e1,R',v,hv,rfl⟩;obtain⟨c,r1,r2,r3⟩:=WY R' hv;refine⟨by rw[R'.defers,e1];rfl,c,r1,?_,g'.hi,λb hb=>(R'.fresh b hb).1,c,rfl,?_,?_⟩
  .have:=R'.below;rwa [R'.base]at this
  .have:g'.Pr=Tw w.heap.size old g'.hi:=by
    funext b k
    simp only[Gh.Pr,Tw,R'.base,e1,Old.plain]
   rw[this]at r2;exact .data _ _ r2
  .rwa [R'.base]at r3
 cases e with
 |normal=>exact fin he
 |ret=>exact fin he
 |exit id=>obtain⟨_,_,_,_,_,h⟩:=he;exact h.elim
 |panic chain=>
  obtain⟨hd,v,c,hi,S,H,h1,h2,h3,h4,h5⟩:=he;subst h1;cases(show out=.panic v from h5);exact⟨hd,h2,hi,h3,c,rfl,h4⟩
 |goto l=>exact he.elim
 |outgrown=>exact he.elim
end
abbrev SL:=List AV
abbrev HL:=List (Option (List AV))
def gS(s:SL):aF:=λt=>s.getD t cG
def gH(h:HL):aK:=λt=>h.getD t none
inductive Res where
 |go (s:SL) (h:HL)|panic (v:AV)
def Res.on(K:aF->aK->Prop)(Qp:AV->Prop):Res->Prop
 |.go s h=>K (gS s) (gH h)
 |.panic v=>Qp v
abbrev uU:=Nat->List AV->Option eZ
def YP(P:Program)(call:uU)(f:Nat)(args:List AV)(bx:Bool):Option eZ:=
 if dZ P f then match call f args with
  |some out=>if bx&&!out.Xl then none else some out
  |none=>none
 else none
section
variable{P:Program}{GI:World->Prop}{call:uU}(iN:∀f args out,call f args=some out->AC P GI f args out)
include iN
theorem Yu{f:Nat}{args:List AV}{bx:Bool}{out:eZ}(h:YP P call f args bx=some out){K Qp:AV->Prop}(hk:iH out K Qp):mH P GI f args bx K Qp:=by
 unfold YP at h;split at h
 case isFalse=>cases h
 rename_i hc;split at h
 case h_2=>cases h
 rename_i ae7 ho
 split at h<;>cases h
 rename_i hb;refine⟨out,hc,iN _ _ _ ho,λhx=>?_,hk⟩;simpa[hx]using hb
omit iN in
theorem aal{p:Nat->Prop}(h:∃k,p k):∃k,p k/\∀m,m<k->¬p m:=by
 obtain⟨k,hk⟩:=h
 induction k using Nat.strongRecOn with
 |_ k ih=>
  by_cases hm:∃m,m<k/\p m
  .obtain⟨m,h1,h2⟩:=hm;exact ih m h1 h2
  .exact⟨k,hk,λm h1 h2=>hm ⟨m,h1,h2⟩⟩
open Classical in
noncomputable def least(p:Nat->Prop):Nat:=if h:∃k,p k then Classical.choose (aal h)else 0
omit iN in
theorem Y9{p:Nat->Prop}(h:∃k,p k):p (least p)/\∀m,p m->least p<=m:=by
 unfold least;rw[dif_pos h];obtain⟨h1,h2⟩:=Classical.choose_spec (aal h);exact⟨h1,λm hm=>Nat.le_of_not_lt λaw=>h2 m aw hm⟩
end
structure Dh where
 code:af
 n:Nat
 res:List ResultVar
def Tt(P:Program)(Uu:Nat->Option Dh):Prop:=
 ∀f fn,Uu f=some fn->∃(F:Func)(c:Code),P.funcs[f]?=some F/\F.body=some c/\F.ntmps=fn.n/\F.results.toList=fn.res/\kT P fn.n c=fn.code
def FR(ro:Option Nat):Fence:={ Fence.wide with round:=ro }
theorem lR{ro:Option Nat}{m:Nat}{P:Program}{f:FuncId}{args:Array Value}{w:World}{R:Ending->World->Prop}:CallsIn (FR ro) m P f args w R↔Calls P f args w R:=
 callsIn_wide (n:=m)
theorem abW{ro:Option Nat}{m:Nat}{P:Program}{row:String}{args:Array Value}{w:World}{R:Value->World->Prop}(h:Rows P row args w R):RowsIn (FR ro) m P row args w R:=
 λc cs _=>let⟨v,w',r,s⟩:=h c cs;⟨v,w',r,stepsIn_wide.2 s⟩
theorem ez{m:Nat}{P:Program}{c:Code}{Q:Exit->Act->World->Prop}{a:Act}{w:World}:c.wpIn (FR none) m P Q a w↔c.wp P Q a w:=wpIn_wide (n:=m)
def wN:Op->Bool
 |.defer _=>false
 |_=>true
section
variable{P:Program}{Q:Exit->Act->World->Prop}{ro:Option Nat}{m:Nat}
theorem ZY{o:Oper}{a:Act}{w:World}{K:Act->World->Prop}(l7:wN o.op=true)(h:o.wp P a w K Q):o.wpIn (FR ro) m P a w K Q:=by
 refine⟨λ_ _=>trivial,?_⟩;unfold Oper.wp at h;rw[ah6 _ _ _ (λc hc=>by rw[hc]at l7;cases l7)]
 generalize(execOp a.eval o).run P w=r at*
 have hd:(FR ro).depth.isSome=true->1<=m:=λh=>by simp[FR,Fence.wide]at h
 cases r with
 |ok x w'=>
  cases x<;>simp only[Oper.upon,Oper.uponIn]at h⊢<;>first
   |exact h
   |exact⟨hd,lR.2 h⟩
   |exact⟨hd,abW h⟩
 |halt x w'=>cases x<;>simp only[Oper.upon,Oper.uponIn]at h⊢<;>exact h
theorem TO{ops:Array Oper}(l7:ops.all (λo=>wN o.op)=true)(hQ:¬LetsOut Q):∀(l:List Nat)(a:Act)(w:World),wpOps P ops Q l a w->wpOpsIn (FR ro) m P ops Q l a w
 |[],_,_,h=>h
 |i::l,a,w,h=>by
  simp only[wpOps,wpOpsIn]at h⊢
  cases ho:ops[i]? with
  |none=>simp only[ho]at h⊢;exact TO l7 hQ l a w h
  |some o=>
   simp only[ho]at h⊢
   have hc:wN o.op=true:=by
    have:=aip.1 l7 o (ahM ho);exact this
   split
   .rename_i hw;simp only[hw,afH]at h
    rcases h with h|⟨_,h⟩
    .exact ZY hc (Oper.wp_mono (λa w hh=>TO l7 hQ l a w hh) h)
    .exact absurd h hQ
   .rename_i hw;simp only[hw,afj,afx]at h;exact⟨λ_ _=>trivial,TO l7 hQ l _ w h⟩
theorem ade{ops:Array Oper}(l7:ops.all (λo=>wN o.op)=true)(hQ:¬LetsOut Q){i:Nat}{K:Act->World->Prop}{a:Act}{w:World}(h:wpOp P ops Q i K a w):wpOpIn (FR ro) m P ops Q i K a w:=by
 unfold wpOp at h;unfold wpOpIn
 cases ho:ops[i]? with
 |none=>simp only[ho]at h⊢;exact h
 |some o=>
  simp only[ho]at h⊢
  have hc:wN o.op=true:=by
   have:=aip.1 l7 o (ahM ho);exact this
  split
  .rename_i hw;simp only[hw,afH]at h
   rcases h with h|⟨_,h⟩
   .exact ZY hc h
   .exact absurd h hQ
  .rename_i hw;simp only[hw,afj,afx]at h;exact⟨λ_ _=>trivial,h⟩
theorem YA{ops:Array Oper}{md:Region.Mode}(l7:ops.all (λo=>wN o.op)=true)(hQ:¬LetsOut Q):∀(fuel:Nat)(listed:Array Bool)(a:Act)(w:World),wpAny P md ops Q fuel listed a w->wpAnyIn (FR ro) m P md ops Q fuel listed a w
 |0,_,_,_,h=>h
 |fuel+1,listed,a,w,h=>⟨h.1,λi hi=>wpOpIn_mono (λa w hh=>YA l7 hQ fuel _ a w hh) (ade l7 hQ (h.2 i hi))⟩
def ur:Code->Bool
 |.region _ ops _=>ops.all λo=>wN o.op
 |.seq x y|.cond _ x y=>ur x&&ur y
 |.block _ c|.loop c=>ur c
 |_=>true
end
section
variable{P:Program}{GI:World->Prop}{w0:World}{n:Nat}{g:Gh}{S:aF}{H:aK}{a:Act}{w:World}{ro:Option Nat}{m:Nat}
theorem UH{old:Old}{Q:ft->aF->aK->Prop}:¬LetsOut (QQ P w0 n old Q):=λ⟨_,_,h⟩=>h
theorem Uh (hG:au GI) (dS:GI w0) {old:Old} {ops:Array Oper} {Q:ft→aF→aK→Prop} (l7:ops.all (fun o=>wN o.op)=true) (eK:(mV P n false ops).all (·.ok n)=true) (ib:∀ o∈mV P n false ops,∀ d∈o.l5,¬ old.bx d) (ho:g.old=old) (R:Rel P w0 n dU g S H a w)
  (h:bj P GI (mV P n false ops) (Q .normal) (λv=>Q (.panic v) S H) S H):wpOpsIn (FR ro) m P ops (QQ P w0 n old Q) (List.range ops.size) a w:=by
 refine TO l7 UH _ _ _ (UF hG dS (S0:=S) (H0:=H) (List.range ops.size) ops.toList g S H a w ?_ (λo Of=>?_) (λo Of=>ib _ (aif Of)) ho R h)
 .apply ahW;intro i;simp only[afG]
  by_cases hi:i<ops.size
  .simp[hi]
  .simp[hi]
 .simp only[mV,air,afC,Function.comp]at eK;exact eK o Of
theorem aa2 (hG:au GI) (dS:GI w0) {old:Old} {id:Nat} {ops:Array Oper} {Q:ft→aF→aK→Prop} (l7:ops.all (fun o=>wN o.op)=true) (eK:(mV P n false ops).all (·.ok n)=true) (ib:∀ o∈mV P n false ops,∀ d∈o.l5,¬ old.bx d) (ho:g.old=old) (R:Rel P w0 n dU g S H a w)
  (h:bj P GI (mV P n false ops) (Q .normal) (λv=>Q (.panic v) S H) S H):(Code.region id ops false).wpIn (FR ro) m P (QQ P w0 n old Q) a w:=
 afq (Uh hG dS l7 eK ib ho R h)
theorem Rj (hG:au GI) (dS:GI w0) (hm:P.follows .mixedOrders=true) {old:Old} {ops:Array Oper} {Q:ft→aF→aK→Prop} (l7:ops.all (fun o=>wN o.op)=true) (eK:dOK P n ops=true) (ib:∀ o∈mV P n true ops,∀ d∈o.l5,¬ old.bx d) (ho:g.old=old) (R:Rel P w0 n dU g S H a w)
  (h:eB P GI (mV P n true ops) (Q .normal) (fV (mV P n true ops) S) (eG (mV P n true ops) H)):wpAnyIn (FR ro) m P .any ops (QQ P w0 n old Q) ops.size (Array.replicate ops.size false) a { w with drawn:=w.drawn+1 }:=by
 simp only[dOK,afa,aff]at eK;obtain⟨⟨⟨h1,h2⟩,h3⟩,h4⟩:=eK;refine YA l7 UH _ _ _ _ ?_;have R0:Rel P w0 n dU g S H a { w with drawn:=w.drawn+1 }:=R.mw ((aga _ w).drew)
 obtain⟨g',e1,e2,R'⟩:=Rel.fV (mV P n true ops) R0 h3 (λd hd=>by
  simp only[uH,ah8,afX]at hd;obtain⟨o,Of,⟨d',z⟩,k1,rfl⟩:=hd;rw[ho];refine ib o Of d' ?_;unfold da at k1;split at k1
  .rename_i h1 h2;cases k1;simp[fw.l5,h1,h2,nj.l5]
  .cases k1)
 have hU:UU P n ops (Array.replicate ops.size false)=(λt=>dU t\/t∈uH (mV P n true ops)):=by
  funext t
  simp only[UU,dU,aiW,aiF,uH,ah8,afX]
  constructor
  .rintro⟨j,o,z,k1,k2,k3⟩;rw[<-EC]at k1;exact⟨o,agB k1,(t,z),k2,rfl⟩
  .rintro⟨o,ho,⟨d,z⟩,k1,rfl⟩;obtain⟨j,hj⟩:=ai1 ho;refine⟨j,o,z,by rw[<-EC];exact hj,k1,?_⟩
   have:j<ops.size:=by
    have:=(af0.1 hj).1;simpa[mV]using this
   simp[this]
 refine aa4 hG dS h2 (λo Of=>?_) ops.size (Array.replicate ops.size false) g' _ _ a _ (by simp) (e2.trans ho) (by rw[hU];exact R') (λj o d z k1 k2 k3=>?_) ?_
 .simp only[mV,air,afC,Function.comp]at h1;exact h1 o (by simpa using Of)
 .rw[<-EC]at k1;exact X1 _ S H h3 o (agB k1) d z k2
 .have:=YH (QA:=Q .normal) ops.toList 0 (Array.replicate ops.size false) _ _ (by simp) (by simpa using h4) h;simpa using this
theorem aac (hG:au GI) (dS:GI w0) (hm:P.follows .mixedOrders=true) {old:Old} {id:Nat} {ops:Array Oper} {Q:ft→aF→aK→Prop} (l7:ops.all (fun o=>wN o.op)=true) (eK:dOK P n ops=true) (ib:∀ o∈mV P n true ops,∀ d∈o.l5,¬ old.bx d) (ho:g.old=old) (R:Rel P w0 n dU g S H a w)
  (h:eB P GI (mV P n true ops) (Q .normal) (fV (mV P n true ops) S) (eG (mV P n true ops) H)):(Code.region id ops true).wpIn (FR ro) m P (QQ P w0 n old Q) a w:=
 aid hm (Rj hG dS hm l7 eK ib ho R h)
abbrev mL:=ft->Old->aF->aK->Prop
def QS(P:Program)(w0:World)(n:Nat)(Q:mL):Exit->Act->World->Prop
 |.normal,a,w=>∃g S H,Rel P w0 n dU g S H a w/\Q .normal g.old S H
 |.exit id,a,w=>∃g S H,Rel P w0 n dU g S H a w/\Q (.exit id) g.old S H
 |.ret,a,w=>∃g S H,Rel P w0 n dU g S H a w/\Q .ret g.old S H
 |.panic chain,a,w=>∃(o:Old)(v:AV)(c:Value)(hi:Nat->Nat)(S:aF)(H:aK),a.defers=o.ds/\chain=[{ v:=c,recovered:=false }]/\Below w0.heap.size w0 w/\(∀b,w.heap.size<=b->hi b=0)/\RD (Tw w0.heap.size o.c hi) w v c/\Q (.panic v) o S H
 |_,_,_=>False
def SW(P:Program)(GI:World->Prop)(n:Nat)(ro:Option Nat)(c:Code)(Q:mL)(old:Old)(S:aF)(H:aK):Prop:=
 ∀(w0:World)(g:Gh)(a:Act)(w:World)(m:Nat),GI w0->g.old=old->Rel P w0 n dU g S H a w->c.wpIn (FR ro) m P (QS P w0 n Q) a w
def thenS(K:Old->aF->aK->Prop)(Q:mL):mL
 |.normal=>K
 |e=>Q e
def acs(id:Nat)(Q:mL):mL
 |.exit j=>if j=id then Q .normal else Q (.exit j)
 |e=>Q e
variable{old:Old}{Q Q':mL}
theorem QS.mono(h:∀e o S H,Q e o S H->Q' e o S H){e:Exit}{a:Act}{w:World}(hq:QS P w0 n Q e a w):QS P w0 n Q' e a w:=by
 cases e<;>simp only[QS]at hq⊢
 case normal=>obtain⟨g,S,H,h2,h3⟩:=hq;exact⟨g,S,H,h2,h _ _ _ _ h3⟩
 case exit=>obtain⟨g,S,H,h2,h3⟩:=hq;exact⟨g,S,H,h2,h _ _ _ _ h3⟩
 case ret=>obtain⟨g,S,H,h2,h3⟩:=hq;exact⟨g,S,H,h2,h _ _ _ _ h3⟩
 case panic=>obtain⟨o,v,c,hi,S,H,h1,h2,h3,h4,h5,h6⟩:=hq;exact⟨o,v,c,hi,S,H,h1,h2,h3,h4,h5,h _ _ _ _ h6⟩
theorem SW.mono{c:Code}(h:∀e o S H,Q e o S H->Q' e o S H)(hs:SW P GI n ro c Q old S H):SW P GI n ro c Q' old S H:=
 λw0 g a w m hG ho R=>ah4 (hs w0 g a w m hG ho R) λ_ _ _ hq=>QS.mono h hq
theorem SW.seq{x y:Code}(hx:SW P GI n ro x (thenS (SW P GI n ro y Q) Q) old S H):SW P GI n ro (.seq x y) Q old S H:=by
 intro w0 g a w m hG ho R;refine afc (ah4 (hx w0 g a w m hG ho R) ?_);intro e a' w' he
 cases e with
 |normal=>
  obtain⟨g',S',H',h2,h3⟩:=he;exact h3 w0 g' a' w' m hG rfl h2
 |exit id=>exact he
 |ret=>exact he
 |panic ch=>exact he
 |goto l=>exact he.elim
 |outgrown=>exact he.elim
theorem SW.block{id:Nat}{c:Code}(hc:SW P GI n ro c (acs id Q) old S H):SW P GI n ro (.block id c) Q old S H:=by
 intro w0 g a w m hG ho R;refine af3 (ah4 (hc w0 g a w m hG ho R) ?_);intro e a' w' he
 cases e with
 |normal=>exact he
 |exit j=>
  obtain⟨g',S',H',h2,h3⟩:=he;simp only[acs]at h3;simp only[Exit.inBlock];split
  .rename_i hj;rw[if_pos hj]at h3;exact⟨g',S',H',h2,h3⟩
  .rename_i hj;rw[if_neg hj]at h3;exact⟨g',S',H',h2,h3⟩
 |ret=>exact he
 |panic ch=>exact he
 |goto l=>exact he.elim
 |outgrown=>exact he.elim
theorem SW.cond{c:Operand}{c':pR}{x y:Code}(hc:lQ n c=some c')(b:Bool)(hb:ev S c'=.bool b)(h:SW P GI n ro (if b then x else y) Q old S H):SW P GI n ro (.cond c x y) Q old S H:=by
 intro w0 g a w m hG ho R;have hv:=R.ev hc (λ_ _=>id);rw[hb]at hv
 have:a.eval c=.bool b:=by
  generalize a.eval c=v at hv;cases hv;rename_i hv;cases hv;rfl
 exact afF this (h w0 g a w m hG ho R)
theorem SW.exit{id:Nat}(h:Q (.exit id) old S H):SW P GI n ro (.exit id) Q old S H:=
 λ_ g _ _ _ _ ho R=>agT ⟨g,S,H,R,by rw[ho];exact h⟩
theorem SW.ret(h:Q .ret old S H):SW P GI n ro .ret Q old S H:=
 λ_ g _ _ _ _ ho R=>agK ⟨g,S,H,R,by rw[ho];exact h⟩
theorem SW.skip(h:Q .normal old S H):SW P GI n ro .skip Q old S H:=
 λ_ g _ _ _ _ ho R=>af7 ⟨g,S,H,R,by rw[ho];exact h⟩
theorem SW.loop{c:Code}(I:Old->aF->aK->Prop)(μ:aF->aK->Nat)(h0:I old S H)(hr:∀o S H,I o S H->SW P GI n ro c (thenS (λo' S' H'=>I o' S' H'/\μ S' H'<μ S H) Q) o S H):SW P GI n ro (.loop c) Q old S H:=by
 intro w0 g a w m hG ho R;subst ho
 have key:∀ (k:Nat) (g:Gh) (S:aF) (H:aK) (a:Act) (w:World),Rel P w0 n dU g S H a w→I g.old S H→μ S H=k→∀ (b:Frame) (kk:List Item) (cs:List Frame),b.roundOf=ro→(FR ro).room (cs.length+1+m) →
   ∃e a' w',QS P w0 n Q e a' w'/\ArrivesIn (Machine.fenced P (FR ro)) P (lone (b.atR a (.code c::.inLoop c::kk)) cs w) b kk cs e a' w':=by
  intro k
  induction k using Nat.strongRecOn with
  |_ k ih=>
   intro g S H a w R hI hk b kk cs Xk IC;obtain⟨e,JW,Oc,hq,Hw⟩:=hr g.old S H hI w0 g a w m hG rfl R b (.inLoop c::kk) cs Xk trivial IC
   cases e with
   |normal=>
    obtain⟨g',S',H',h2,h3,h4⟩:=hq;obtain⟨Z8,ZA,Z1,XG,T'⟩:=ih _ (by rw[<-hk];exact h4) g' S' H' JW Oc h2 h3 rfl b kk cs Xk IC;exact⟨Z8,ZA,Z1,XG,.of_steps (aiT Hw (.one (aix (F:=FR ro) (fr:=b.atR JW (.inLoop c::kk)) trivial IC rfl) ai9)) T'⟩
   |exit id=>exact⟨.exit id,JW,Oc,hq,.pass (x:=.inLoop c) rfl (λ_ _=>.inl (by simp)) Hw⟩
   |goto l=>exact hq.elim
   |ret=>exact⟨.ret,JW,Oc,hq,.pass (x:=.inLoop c) rfl (λ_ _=>.inl (by simp)) Hw⟩
   |panic ch=>exact⟨.panic ch,JW,Oc,hq,.pass (x:=.inLoop c) rfl (λ_ _=>.inl (by simp)) Hw⟩
   |outgrown=>exact hq.elim
 intro b kk cs Xk hF IC;obtain⟨e,a',w',hq,Hw⟩:=key _ g S H a w R h0 rfl b kk cs Xk IC;exact⟨e,a',w',hq,.of_steps (.one (aix (F:=FR ro) (fr:=b.atR a (.code (.loop c)::kk)) trivial IC rfl) stepR_loop) Hw⟩
def mL.bO(old:Old)(Q:mL):ft->aF->aK->Prop
 |e,S,H=>Q e old S H
theorem aau{e:Exit}{a:Act}{w:World}(h:QQ P w0 n old (Q.bO old) e a w):QS P w0 n Q e a w:=by
 cases e<;>simp only[QQ,QS]at h⊢
 case normal=>obtain⟨g,S,H,h1,h2,h3⟩:=h;exact⟨g,S,H,h2,by rw[h1];exact h3⟩
 case exit=>obtain⟨g,S,H,h1,h2,h3⟩:=h;exact⟨g,S,H,h2,by rw[h1];exact h3⟩
 case ret=>obtain⟨g,S,H,h1,h2,h3⟩:=h;exact⟨g,S,H,h2,by rw[h1];exact h3⟩
 case panic=>obtain⟨h1,v,c,hi,S,H,h2,h3,h4,h5,h6⟩:=h;exact⟨old,v,c,hi,S,H,h1,h2,h3,h4,h5,h6⟩
theorem JG (hG:au GI) (dS:GI w0) (hm:P.follows .mixedOrders=true) {old:Old} :
  ∀(c:Code)(Q:ft->aF->aK->Prop)(g:Gh)(S:aF)(H:aK)(a:Act)(w:World),ur c=true->(∀d∈(kT P n c).names,¬old.bx d)->g.old=old->Rel P w0 n dU g S H a w->bO P GI (kT P n c) Q S H->c.wpIn (FR ro) m P (QQ P w0 n old Q) a w
 |.skip,Q,g,S,H,a,w,_,ib,ho,R,h=>af7 ⟨g,S,H,ho,R,h⟩
 |.region id ops draw,Q,g,S,H,a,w,l7,ib,ho,R,h=>by
  simp only[kT]at h ib
  cases draw with
  |true=>
   simp only[afH]at h ib;split at h
   case isFalse=>exact h.elim
   rename_i eK;rw[if_pos eK]at ib;exact aac hG dS hm l7 eK (λo Of d hd=>ib d (ahh.2 ⟨o,Of,hd⟩)) ho R h
  |false=>
   simp only[afj,afx]at h ib;split at h
   case isFalse=>exact h.elim
   rename_i eK;rw[if_pos eK]at ib;exact aa2 hG dS l7 eK (λo Of d hd=>ib d (ahh.2 ⟨o,Of,hd⟩)) ho R h
 |.seq x y,Q,g,S,H,a,w,l7,ib,ho,R,h=>by
  simp only[ur,afa]at l7;refine afc (ah4 (JG hG dS hm x _ g S H a w l7.1 (λd hd=>ib d (by simp[kT,af.names,hd])) ho R h) ?_);intro e a' w' he
  cases e with
  |normal=>
   obtain⟨g',S',H',h1,h2,h3⟩:=he;exact JG hG dS hm y Q g' S' H' a' w' l7.2 (λd hd=>ib d (by simp[kT,af.names,hd])) h1 h2 h3
  |exit id=>exact he
  |ret=>exact he
  |panic ch=>exact he
  |goto l=>exact he.elim
  |outgrown=>exact he.elim
 |.cond c x y,Q,g,S,H,a,w,l7,ib,ho,R,h=>by
  simp only[ur,afa]at l7;simp only[kT]at h;split at h
  case h_2=>exact h.elim
  rename_i c' hc;simp only[kT,hc,af.names,afr]at ib;simp only[bO]at h;have hv:=R.ev hc (λ_ _=>id)
  have key:∀b,a.eval c=.bool b->(if b then x else y).wpIn (FR ro) m P (QQ P w0 n old Q) a w->(Code.cond c x y).wpIn (FR ro) m P (QQ P w0 n old Q) a w:=λb hb h=>afF hb h
  split at h
  .rename_i hb;rw[hb]at hv
   have:a.eval c=.bool true:=by
    generalize a.eval c=v at hv;cases hv;rename_i hv;cases hv;rfl
   exact key true this (JG hG dS hm x Q g S H a w l7.1 (λd hd=>ib d (.inl hd)) ho R h)
  .rename_i hb;rw[hb]at hv
   have:a.eval c=.bool false:=by
    generalize a.eval c=v at hv;cases hv;rename_i hv;cases hv;rfl
   exact key false this (JG hG dS hm y Q g S H a w l7.2 (λd hd=>ib d (.inr hd)) ho R h)
  .rename_i hb;rw[hb]at hv
   have:∃b,a.eval c=.bool b:=by
    generalize a.eval c=v at hv;cases hv;rename_i hv;cases hv;exact⟨_,rfl⟩
   obtain⟨b,hb⟩:=this
   cases b with
   |true=>exact key true hb (JG hG dS hm x Q g S H a w l7.1 (λd hd=>ib d (.inl hd)) ho R h.1)
   |false=>exact key false hb (JG hG dS hm y Q g S H a w l7.2 (λd hd=>ib d (.inr hd)) ho R h.2)
  .exact h.elim
 |.block id c,Q,g,S,H,a,w,l7,ib,ho,R,h=>by
  refine af3 (ah4 (JG hG dS hm c _ g S H a w l7 (λd hd=>ib d (by simpa[kT,af.names]using hd)) ho R h) ?_);intro e a' w' he
  cases e with
  |normal=>exact he
  |exit j=>
   obtain⟨g',S',H',h1,h2,h3⟩:=he;simp only[db]at h3;simp only[Exit.inBlock];split
   .rename_i hj;rw[if_pos hj]at h3;exact⟨g',S',H',h1,h2,h3⟩
   .rename_i hj;rw[if_neg hj]at h3;exact⟨g',S',H',h1,h2,h3⟩
  |ret=>exact he
  |panic ch=>exact he
  |goto l=>exact he.elim
  |outgrown=>exact he.elim
 |.loop c,Q,g,S,H,a,w,l7,ib,ho,R,h=>by
  obtain⟨I,μ,h0,hr⟩:=h
  have key:∀ (k:Nat) (g:Gh) (S:aF) (H:aK) (a:Act) (w:World),g.old=old→Rel P w0 n dU g S H a w→I S H→μ S H=k→∀ (b:Frame) (kk:List Item) (cs:List Frame),b.roundOf=ro→(FR ro).room (cs.length+1+m) →
    ∃e a' w',QQ P w0 n old Q e a' w'/\ArrivesIn (Machine.fenced P (FR ro)) P (lone (b.atR a (.code c::.inLoop c::kk)) cs w) b kk cs e a' w':=by
   intro k
   induction k using Nat.strongRecOn with
   |_ k ih=>
    intro g S H a w ho R hI hk b kk cs Xk IC;obtain⟨e,JW,Oc,hq,Hw⟩:=JG hG dS hm c _ g S H a w l7 (λd hd=>ib d (by simpa[kT,af.names]using hd)) ho R (hr S H hI) b (.inLoop c::kk) cs Xk trivial IC
    cases e with
    |normal=>
     obtain⟨g',S',H',h1,h2,h3,h4⟩:=hq;obtain⟨Z8,ZA,Z1,XG,T'⟩:=ih _ (by rw[<-hk];exact h4) g' S' H' JW Oc h1 h2 h3 rfl b kk cs Xk IC;exact⟨Z8,ZA,Z1,XG,.of_steps (aiT Hw (.one (aix (F:=FR ro) (fr:=b.atR JW (.inLoop c::kk)) trivial IC rfl) ai9)) T'⟩
    |exit id=>exact⟨.exit id,JW,Oc,hq,.pass (x:=.inLoop c) rfl (λ_ _=>.inl (by simp)) Hw⟩
    |goto l=>exact hq.elim
    |ret=>exact⟨.ret,JW,Oc,hq,.pass (x:=.inLoop c) rfl (λ_ _=>.inl (by simp)) Hw⟩
    |panic ch=>exact⟨.panic ch,JW,Oc,hq,.pass (x:=.inLoop c) rfl (λ_ _=>.inl (by simp)) Hw⟩
    |outgrown=>exact hq.elim
  intro b kk cs Xk hF IC;obtain⟨e,a',w',hq,Hw⟩:=key _ g S H a w ho R h0 rfl b kk cs Xk IC;exact⟨e,a',w',hq,.of_steps (.one (aix (F:=FR ro) (fr:=b.atR a (.code (.loop c)::kk)) trivial IC rfl) stepR_loop) Hw⟩
 |.exit id,Q,g,S,H,a,w,_,ib,ho,R,h=>agT ⟨g,S,H,ho,R,h⟩
 |.ret,Q,g,S,H,a,w,_,ib,ho,R,h=>agK ⟨g,S,H,ho,R,h⟩
 |.rangeFunc ..,_,_,_,_,_,_,_,_,_,_,h=>h.elim
 |.scope _,_,_,_,_,_,_,_,_,_,_,h=>h.elim
 |.label _,_,_,_,_,_,_,_,_,_,_,h=>h.elim
 |.goto _,_,_,_,_,_,_,_,_,_,_,h=>h.elim
 |.refuse _,_,_,_,_,_,_,_,_,_,_,h=>h.elim
theorem SW.nz (hG:au GI) (hm:P.follows .mixedOrders=true) {c:Code} (hc:ur c=true) (ib:∀ d∈(kT P n c).names,¬ old.bx d) {ac:af} (wR:kT P n c=ac)
  (h:bO P GI ac (Q.bO old) S H):SW P GI n ro c Q old S H:=by
 subst wR;intro w0 g a w m dS ho R
 exact ah4 (JG hG dS hm c _ g S H a w hc ib ho R h) λ_ _ _ hq=>aau hq
end
def Xn(g:Gh)(b:Nat):Prop:=g.base<=b/\g.hi b=0/\g.owner b=none/\∀i,g.al i≠some b
structure sB(M:Nat->Prop)(w w':World):Prop where
 os:w'.os=w.os
 tape:w'.tape=w.tape
 output:w'.output=w.output
 size:w.heap.size<=w'.heap.size
 block:∀b,b<w.heap.size->¬M b->w'.heap[b]?=w.heap[b]?
theorem sB.refl(M:Nat->Prop)(w:World):sB M w w:=⟨rfl,rfl,rfl,afg _,λ_ _ _=>rfl⟩
theorem sB.trans{M M' M'':Nat->Prop}{w w' yT:World}(h:sB M w w')(h':sB M' w' yT)(h1:∀b,M b->M'' b)(h2:∀b,M' b->b<w.heap.size->M'' b):sB M'' w yT:=
 ⟨h'.os.trans h.os,h'.tape.trans h.tape,h'.output.trans h.output,agu h.size h'.size,λb hb hm=>
  (h'.block b (afI hb h.size) λhh=>hm (h2 b hh hb)).trans (h.block b hb λhh=>hm (h1 b hh))⟩
theorem sB.qC{M:Nat->Prop}{w w':World}(h:Below w.heap.size w w'):sB M w w':=⟨h.os,h.tape,h.output,h.size,λb hb _=>h.block b hb⟩
theorem sB.below{M:Nat->Prop}{w w':World}(h:sB M w w'){k:Nat}(hk:k<=w.heap.size)(hM:∀b,M b->k<=b):Below k w w':=
 ⟨h.os,h.tape,h.output,h.size,λb hb=>h.block b (afI hb hk) λhm=>by have:=hM b hm;omega⟩
section
variable{P:Program}{w0:World}{n:Nat}{g:Gh}{S:aF}{H:aK}{a:Act}{w w':World}
theorem Rel.c_(R:Rel P w0 n dU g S H a w){M:Nat->Prop}(ht:sB M w w')(hM:∀b,M b->Xn g b)(hk:∀b,M b->g.old.bI b=none):Rel P w0 n dU g S H a w':=by
 have gG:bz g.Pr g.Pr w w':=bz.pX λb k aw hp=>ht.block b aw λhm=>by
  obtain⟨h1,h2,_⟩:=hM b hm;rcases hp with hp|hp
  .omega
  .rw[h2]at hp;omega
 refine R.ext rfl rfl rfl gG ?_ ?_ ?_ ?_ ?_ ht.size
 .intro i b hi;obtain⟨_,_,_,_,_,h3,_⟩:=R.box i b hi;exact⟨ht.block b (afe.1 h3).1 λhm=>(hM b hm).2.2.2 i hi,rfl,rfl⟩
 .intro b loc ho
  have aw:b<w.heap.size:=by
   rcases ahB b w.heap.size with h|h
   .exact h
   .rw[(R.fresh b h).2]at ho;cases ho
  exact⟨ht.block b aw λhm=>(by rw[(hM b hm).2.2.1]at ho;cases ho),rfl,ho⟩
 .exact R.below.trans (ht.below (by rw[R.base];exact R.below.size) λb hm=>(hM b hm).1)
 .exact λb hb=>R.fresh b (agu ht.size hb)
 .intro b o hko ho;exact⟨by rw[ht.block b (afe.1 ho).1 (λhm=>by rw[hk b hm]at hko;cases hko)];exact ho,rfl,rfl⟩
open Classical in
noncomputable def Gh.Dd(g:Gh)(G:Nat->Prop)(gq:Nat->Nat):Gh:={ g with hi:=λb=>if G b then gq b else g.hi b }
theorem Rel.Dd(R:Rel P w0 n dU g S H a w){G:Nat->Prop}(gq:Nat->Nat)(hG:∀b,G b->Xn g b/\b<w.heap.size/\g.old.bI b=none):Rel P w0 n dU (g.Dd G gq) S H a w:=by
 have hn:∀b,¬G b->(g.Dd G gq).hi b=g.hi b:=λb hb=>by simp[Gh.Dd,hb]
 have T6:∀b k,g.Pr b k->(g.Dd G gq).Pr b k:=by
  intro b k hp
  by_cases hb:G b
  .obtain⟨⟨h1,h2,_⟩,_⟩:=hG b hb;rcases hp with hp|hp
   .omega
   .rw[h2]at hp;omega
  .rcases hp with hp|hp
   .exact .inl hp
   .exact .inr ⟨hp.1,by rw[hn b hb];exact hp.2⟩
 refine R.ext (g':=g.Dd G gq) rfl rfl rfl (bz.same λb k _ hp=>T6 b k hp) ?_ ?_ R.below ?_ ?_ (afg _)
 .intro i b hi;exact⟨rfl,hn b λhb=>(hG b hb).1.2.2.2 i hi,rfl⟩
 .intro b loc ho;exact⟨rfl,hn b (λhb=>by rw[(hG b hb).1.2.2.1]at ho;cases ho),ho⟩
 .intro b hb;exact⟨by rw[hn b (λh=>by have:=(hG b h).2.1;omega)];exact(R.fresh b hb).1,(R.fresh b hb).2⟩
 .intro b o hk ho;exact⟨ho,hn b (λh=>by rw[(hG b h).2.2]at hk;cases hk),rfl⟩
theorem Rel.m_(R:Rel P w0 n dU g S H a w){l:Nat}{o:Obj}(hl:g.old.bI l=some o)(o':Obj):Rel P w0 n dU { g with old:={ g.old with bI:=av g.old.bI l (some o') } } S H a (w.putObj l o'):=by
 obtain⟨k1,k2,k3,k4,k5⟩:=R.kept l o hl;have aw:l<w.heap.size:=(afe.1 k2).1
 have ke:∀b,b≠l->(w.putObj l o').heap[b]?=w.heap[b]?:=λb hb=>aia hb
 have dO:∀b k,g.Pr b k->b≠l:=by
  rintro b k hp rfl;rcases hp with hp|hp
  .omega
  .rw[k3]at hp;omega
 have hK:bz g.Pr g.Pr w (w.putObj l o'):=bz.pX λb k _ hp=>ke b (dO b k hp)
 have Dj:(w.putObj l o').heap.size=w.heap.size:=by simp[World.putObj]
 refine{ size:=R.size,defers:=R.defers,facts:=λp hp=>(R.facts p hp).mono hK λ_ _ h=>h,slot:=λt ht hu=>(R.slot t ht hu).mono hK λ_ _ h=>h,own:=λt ht hu=>(R.own t ht hu).bI rfl λb' vn=>⟨ke b' (by rintro rfl;rw[k4]at vn;cases vn),rfl,vn⟩,box:=?_,Cf:=R.Cf,BB:=R.BB,inj:=R.inj,base:=R.base,below:=?_,fresh:=?_,still:=R.still.trans hK,grown:=by rw[Dj];exact R.grown,kept:=?_ }
 .intro i b hi;obtain⟨cs,vs,ty,h1,h2,h3,h4,h5,h6,h7,h8,h9⟩:=R.box i b hi
  have l8:b≠l:=by rintro rfl;exact k5 i hi
  refine⟨cs,vs,ty,h1,h2,by rw[ke b l8];exact h3,h4,h5,h6,λj hj fj=>(h7 j hj fj).mono hK,λj hj fj=>(h8 j hj fj).bI rfl λb' vn=>⟨ke b' (by rintro rfl;rw[k4]at vn;cases vn),rfl,vn⟩,h9⟩
 .refine R.below.trans ⟨rfl,rfl,rfl,by rw[Dj];exact afg _,λk hk=>ke k (by omega)⟩
 .intro b hb;rw[Dj]at hb;exact R.fresh b hb
 .intro b ob h
  by_cases l8:b=l
  .subst l8
   have:ob=o':=by simpa[av]using h.symm
   subst this;exact⟨k1,aic aw,k3,k4,k5⟩
  .have h:g.old.bI b=some ob:=by simpa[av,l8]using h
   obtain⟨q1,q2,q3,q4,q5⟩:=R.kept b ob h;exact⟨q1,by rw[ke b l8];exact q2,q3,q4,q5⟩
theorem Rel.RM (R:Rel P w0 n dU g S H a w) (o2:Old) {a2:Act} {S2:aF} (hc:o2.c=g.old.c) (bL:a2.tmps.size=n) (ea:a2.defers=o2.ds)
  (hf:∀p∈o2.facts,RV g.Pr g.al w p.1 p.2) (kR:bz o2.sp g.Pr o2.sw w) (ry:o2.sw.heap.size<=w.heap.size) (hk:∀b o,o2.bI b=some o->Xn g b/\w.heap[b]?=some o)
  (hS:∀t,t<n->(S2 t).aI=S2 t/\RV g.Pr g.al w (S2 t) (a2.tmps.getD t undef)):Rel P w0 n dU { g with old:=o2 } S2 H a2 w:=by
 have T6:({ g with old:=o2 }:Gh).Pr=g.Pr:=by
  funext b k
  simp only[Gh.Pr,hc]
 refine{ size:=bL,defers:=ea,facts:=by rw[T6];exact hf,slot:=λt ht _=>by rw[T6];exact(hS t ht).2,own:=λt ht _=>?_,box:=?_,Cf:=R.Cf,BB:=R.BB,inj:=R.inj,base:=R.base,below:=R.below,fresh:=R.fresh,still:=by rw[T6];exact kR,grown:=ry,kept:=?_ }
 .rw[<-(hS t ht).1];exact A2.aI
 .intro i b hi;obtain⟨cs,vs,ty,h1,h2,h3,h4,h5,h6,h7,h8,h9⟩:=R.box i b hi;exact⟨cs,vs,ty,h1,h2,h3,h4,h5,h6,by rw[T6];exact h7,λj hj fj=>(h8 j hj fj).bI rfl λb hb=>⟨rfl,rfl,hb⟩,h9⟩
 .intro b o h;obtain⟨⟨q1,q3,q4,q5⟩,q2⟩:=hk b o h;exact⟨q1,q2,q3,q4,q5⟩
def inL(L:Nat->Bool):AV->Bool
 |.box i _=>L i
 |.func ..|.uL _=>true
 |_=>false
def yw(L:Nat->Bool)(v:AV):AV:=match v with
 |.box i o=>if L i then .bB else .box i o
 |.func fn f c=>if f.any (inL L)||c.any (inL L)then .bB else .func fn f c
 |.uL _=>.bB
 |v=>v.aI
theorem RV.yw{Pr:Nat->Nat->Prop}{al:Nat->Option Nat}{w:World}{v:AV}{c:Value}{L:Nat->Bool}(h:RV Pr al w v c):RV Pr al w (Go.AL.yw L v) c:=by
 have hd:=h.aI
 cases v<;>simp only[Go.AL.yw]<;>(try exact hd)
 .split
  .exact .bB _
  .exact h
 .split
  .exact .bB _
  .exact h
 .exact .bB _
theorem ads(L:Nat->Bool)(v:AV):(yw L v).aI=yw L v:=by
 cases v<;>simp only[yw]<;>try rfl
 .rename_i o es;cases o<;>rfl
 .split<;>rfl
 .split<;>rfl
theorem acN(L:Nat->Bool)(v:AV):flat (yw L v)=true:=by
 cases v<;>simp only[yw]<;>try rfl
 .rename_i o es;cases o<;>rfl
 .split<;>rfl
 .split
  .rfl
  .rename_i fn f c h;simp only[ah3,ahN,agb]at h;simp only[flat,afa,afC];refine⟨λv hv=>?_,λv hv=>?_⟩
   .have:=h.1 v hv
    cases v<;>first|rfl|(cases this;done)
   .have:=h.2 v hv
    cases v<;>first|rfl|(cases this;done)
theorem ace(L:Nat->Bool)(v:AV)(d:Nat)(hd:L d=true):cE d (yw L v)=yw L v:=by
 have key:∀v,inL L v=false->¬sy d v=true:=by
  intro v hv hs
  cases v<;>simp only[sy]at hs<;>(try cases hs)<;>(try cases hv)
  simp only[afY]at hs;subst hs;simp only[inL,hd]at hv;cases hv
 cases v<;>simp only[yw]<;>try rfl
 .rename_i o es;cases o<;>rfl
 .split
  .rfl
  .rename_i i o h;simp only[cE];rw[if_neg];rintro rfl;exact h hd
 .split
  .rfl
  .rename_i fn f c h;simp only[ah3,ahN,agb]at h;simp only[cE];rw[if_neg];simp only[age,ag2,not_or,not_exists,not_and];exact⟨λv hv=>key v (h.1 v hv),λv hv=>key v (h.2 v hv)⟩
end
structure Cons(P:Program)(GI:World->Prop)(l:Nat)(xs:List AV) where
 J:Nat->(Nat->Prop)->(Nat->Nat->Prop)->World->Prop
 X:(Nat->Prop)->(Nat->Nat->Prop)->World->Prop
 gi:∀{k M Pr w},J k M Pr w->GI w
 apart:∀{k M Pr w},J k M Pr w->∀b j,M b->¬Pr b j
 c_:∀{k M M' Pr w w'},J k M Pr w->sB M w w'->(∀b,M' b->b<w'.heap.size/\(M b\/w.heap.size<=b))->J k M' Pr w'
 aef:∀{M M' Pr w w'},X M Pr w->sB M w w'->(∀b,M' b->b<w'.heap.size/\(M b\/w.heap.size<=b))->X M' Pr w'
 round:∀{k:Nat}(hk:k<xs.length){M Pr w}(G:Nat->Prop)(gq:Nat->Nat)(c:Value),J k M Pr w->(∀b,G b->M b)->RD (λb j=>Pr b j\/(G b/\j<gq b)) w xs[k] c->
  ∃f tmps assign body,(Instr.yield l #[c]).run P w=.ok (.round l f tmps assign body) w/\
   ∀m,RoundIn (FR none) m P l f tmps assign body w λe w'=>(∀b,M b->¬G b->w'.heap[b]?=w.heap[b]?)/\∃fl,bz Pr fl w w'/\
    ((e=.returned (.bool true)/\J (k+1) (λb=>M b/\¬G b) fl w')\/(e=.returned (.bool false)/\X (λb=>M b/\¬G b) fl w'))
def cd:Nat->Option Nat:=λ_=>none
def sT(P:Program)(GI:World->Prop)(f:Nat)(caps:List AV)(xs:List AV):Prop:=
 ∀(l:Nat)(C:Cons P GI l xs)(w:World)(Pr:Nat->Nat->Prop)(dH:Array Value),C.J 0 (λ_=>False) Pr w->caps.length=dH.size->
  (∀i (h:i<caps.length)(h':i<dH.size),RV Pr cd w caps[i] dH[i])->
  Calls P f (#[.func (.yield l) #[] #[]]++dH) w λe w'=>∃v M fl,e=.returned v/\(C.J xs.length M fl w'\/C.X M fl w')
def aaW:AV->Bool
 |.box ..|.func ..|.uL _=>false
 |_=>true
def ab6:AV->Bool
 |.box ..|.uL _=>false
 |.func _ f c=>f.all aaW&&c.all aaW
 |_=>true
theorem RV.acq{Pr:Nat->Nat->Prop}{al:Nat->Option Nat}{w:World}{v:AV}{c:Value}(h:RV Pr al w v c)(hv:aaW v=true):RV Pr Go.AL.cd w v c:=by
 cases h with
 |data v c h=>exact .data _ _ h
 |box=>cases hv
 |func=>cases hv
 |uL=>cases hv
 |bB c=>exact .bB c
theorem RV.cd{Pr:Nat->Nat->Prop}{al:Nat->Option Nat}{w:World}{v:AV}{c:Value}(h:RV Pr al w v c)(hv:ab6 v=true):RV Pr Go.AL.cd w v c:=by
 cases h with
 |data v c h=>exact .data _ _ h
 |box=>cases hv
 |func fn f c vs us h1 h2 r1 r2=>
  simp only[ab6,afa,afC]at hv;exact .func _ _ _ _ _ h1 h2 (λi hi gq=>(r1 i hi gq).acq (hv.1 _ (ae_ hi))) (λi hi gq=>(r2 i hi gq).acq (hv.2 _ (ae_ hi)))
 |uL=>cases hv
 |bB c=>exact .bB c
def Old.mark(o:Old)(D:Nat):Old:={ o with ds:={ target:=.collected D,args:=#[] }::o.ds,bI:=av o.bI D (some (.deferred (some []))) }
def aaZ:ft->Option Code
 |.exit id=>some (.exit id)
 |.ret=>some .ret
 |_=>none
def pP(I:aK->Prop)(Ix:ft->aK->Prop):ft->aF->aK->Prop
 |.normal,_,H=>I H
 |.panic _,_,_=>False
 |e,_,H=>Ix e H
def aP(K:aF->aK->Prop):ft->aF->aK->Prop
 |.normal,S,H=>K S H
 |_,_,_=>False
section
variable{P:Program}{GI:World->Prop}{n:Nat}{S:aF}{H:aK}
open Classical in
theorem SW.range (hG:au GI) (hm:P.follows .mixedOrders=true) {old:Old} {Q:mL} {OA:Operand} {y:pR} {p:Tmp} {assign body:Code} {f:Nat} {caps xs:List AV}
  (hg:lQ n OA=some y) (hS:ev S y=.func (.func f) [] caps) (hf:dZ P f=true) (ma:caps.all ab6=true) (hit:sT P GI f caps xs) (hp:p<n) (pF:∀x∈xs,x.aI=x)
  (L:Nat->Bool) {aa ab:af} (haa:kT P n assign=aa) (oD:kT P n body=ab) (hLa:∀d∈aa.names,L d=true) (hLb:∀d∈ab.names,L d=true) (hLo:∀d,L d=true->¬old.bx d)
  (Zc:ur assign=true) (sX:ur body=true) (I:Nat->aK->Prop) (Ix:ft->aK->Prop) (h0:I 0 H)
  (vV:∀k (hk:k<xs.length) H',I k H'->bO P GI aa (aP (bO P GI ab (pP (I (k+1)) Ix))) (av (λt=>yw L (S t)) p xs[k]) H')
  (aeh:∀D H',old.bI D=none->I xs.length H'->Q .normal (old.mark D) (λt=>yw L (S t)) H')
  (aee:∀D e H',old.bI D=none->(aaZ e).isSome=true->Ix e H'->Q e (old.mark D) (λt=>yw L (S t)) H'):
  SW P GI n none (.rangeFunc OA #[p] assign body) Q old S H:=by
 subst haa oD;intro w0 g a w m dS ho R;subst ho;refine wpIn_rangeFunc ?_;intro fn Lf
 obtain⟨rec,XO⟩:∃rec:LoopState->Option Code->Loop,rec=λst pe=>{ state:=st,pending:=pe,fn,tmps:=a.tmps,params:=#[p],assign,body,defers:=w.heap.size }:=⟨_,rfl⟩
 obtain⟨W1,hW1⟩:∃W1,(w.alloc (.deferred (some []))).alloc (.loop (rec .ready none))=W1:=⟨_,rfl⟩
 obtain⟨D,hD⟩:∃D,w.heap.size=D:=⟨_,rfl⟩
 have hL1:W1.heap[D+1]?=some (.loop (rec .ready none)):=by
  rw[<-hW1,<-hD];have:=afO (w.alloc (.deferred (some []))) (.loop (rec .ready none));rwa [World.size_alloc]at this
 have hK1:W1.heap[D]?=some (.deferred (some [])):=by
  rw[<-hW1,<-hD];exact(ahS _ _ _ (by simp)).trans (afO w _)
 have tj:Below w.heap.size w W1:=by
  rw[<-hW1];exact(((aga _ w).alloc (afg _) _).alloc (by simp) _)
 have R1:Rel P w0 n dU g S H a W1:=R.mw tj
 have hle:g.base<=D:=by rw[<-hD,R.base];exact R.below.size
 have G':∀b,D<=b->Xn g b:=λb hb=>⟨by omega,(R.fresh b (by omega)).1,(R.fresh b (by omega)).2,λi hi=>by
  obtain⟨_,_,_,_,_,h3,_⟩:=R.box i b hi;have:=(afe.1 h3).1
  omega⟩
 have Zh:∀b,D<=b->g.old.bI b=none:=λb hb=>by
  cases hk:g.old.bI b with
  |none=>rfl
  |some o=>have:=(afe.1 (R.kept b o hk).2.1).1;omega
 have jQ:=R.ev hg (λ_ _=>id);rw[hS]at jQ
 obtain⟨us,UE,yS,hcr⟩:∃us:Array Value,a.eval OA=.func (.func f) #[] us/\caps.length=us.size/\∀i (h:i<caps.length)(h':i<us.size),RV g.Pr cd W1 caps[i] us[i]:=by
  generalize hq:a.eval OA=q at jQ
  cases jQ with
  |data _ _ h=>cases h
  |func _ _ _ vs us h1 h2 r1 r2=>
   have:vs=#[]:=agv (by simpa using h1.symm);subst this;refine⟨us,rfl,h2,λi h h'=>?_⟩;have:=(r2 i h h').cd (by simp only[afC]at ma;exact ma _ (ae_ h))
   exact this.mono (bz.jV (λb aw=>tj.block b aw) λ_ _ _ h=>h) λ_ _ h=>h
 let Se:aF:=λt=>yw L (S t)
 let al:Act:={ tmps:=a.tmps,defers:=[] }
 let fs:List (AV×Value):=(List.range n).map λt=>(Se t,a.tmps.getD t undef)
 let kp:Nat->Option Obj:=av (av g.old.bI D (some (.deferred (some [])))) (D+1) (some (.loop (rec .ready none)))
 have eK:∀q∈fs++g.old.facts,flat q.1=true/\∀d,¬(L d=false)->cE d q.1=q.1:=by
  intro q hq;rcases afr.1 hq with h|h
  .obtain⟨t,_,rfl⟩:=afp.1 h;exact⟨acN L _,λd hd=>ace L _ d (by simpa using hd)⟩
  .exact⟨(g.old.ok q h).1,λd hd=>(g.old.ok q h).2 d (hLo d (by simpa using hd))⟩
 let mk:(Nat->Option Obj)->(Nat->Nat->Prop)->World->Old:=λbI sp sw=>
  { c:=g.old.c,facts:=fs++g.old.facts,bx:=λd=>L d=false,ds:=[],bI:=bI,sp:=sp,sw:=sw,ok:=eK }
 let aae:Old:=mk kp g.old.sp g.old.sw
 let kx:Code->Nat->Option Obj:=λc=>av kp (D+1) (some (.loop (rec .done (some c))))
 have hSe:∀t,(Se t).aI=Se t:=λt=>ads L _
 have bL:a.tmps.size=n:=R.size
 have acx:∀{g':Gh}{W:World}{H':aK}{n' S' a'},Rel P w0 n' dU g' S' H' a' W->g'.old.facts=fs++g.old.facts->∀t,t<n->(Se t).aI=Se t/\RV g'.Pr g'.al W (Se t) (a.tmps.getD t undef):=by
  intro g' W H' n' S' a' R' hfa t ht;exact⟨hSe t,R'.facts (Se t,a.tmps.getD t undef) (by rw[hfa];exact agX _ (afp.2 ⟨t,afE.2 ht,rfl⟩))⟩
 have ae1:∀b,D<=b->b≠D->b≠D+1->kp b=none:=λb hb h1 h2=>by simp[kp,av,h1,h2,Zh b hb]
 have kpl:kp (D+1)=some (.loop (rec .ready none)):=bm _ _ _
 let J:Nat->(Nat->Prop)->(Nat->Nat->Prop)->World->Prop:=λk M Pr W=>∃g' H',Rel P w0 n dU g' Se H' al W/\g'.old=aae/\g'.Pr=Pr/\I k H'/\∀b,M b->Xn g' b/\b<W.heap.size/\kp b=none
 let X:(Nat->Prop)->(Nat->Nat->Prop)->World->Prop:=λM Pr W=>∃e jc g' H',Rel P w0 n dU g' Se H' al W/\g'.old=mk (kx jc) g.old.sp g.old.sw/\aaZ e=some jc/\g'.Pr=Pr/\Ix e H'/\∀b,M b->Xn g' b/\b<W.heap.size/\kp b=none
 have yQ:∀{g':Gh}{H':aK}{W:World},Rel P w0 n dU g' Se H' al W->GI W:=λR'=>by
  have hb:=R'.below;rw[R'.base]at hb;exact hG w0 _ dS hb
 have ado:∀{g':Gh}{H':aK}{W:World}(k':Nat->Option Obj),Rel P w0 n dU g' Se H' al W->g'.old.bI=k'->(∀b,kp b=none↔k' b=none)->∀b,W.heap.size<=b->Xn g' b/\kp b=none:=by
  intro g' H' W k' R' hk JQ b hb;refine⟨⟨?_,(R'.fresh b hb).1,(R'.fresh b hb).2,λi hi=>?_⟩,?_⟩
  .have:=R'.below.size;rw[R'.base];omega
  .obtain⟨_,_,_,_,_,h3,_⟩:=R'.box i b hi;have:=(afe.1 h3).1;omega
  .rw[JQ]
   cases hq:k' b with
   |none=>rfl
   |some o=>have:=(afe.1 (R'.kept b o (by rw[hk];exact hq)).2.1).1;omega
 have EJ:∀c b,kp b=none↔kx c b=none:=λc b=>by
  by_cases hb:b=D+1
  .subst hb;simp[kpl,kx,av]
  .simp[kx,av,hb]
 let C:Cons P GI (D+1) xs:={
  J:=J
  X:=X
  gi:=λ⟨g',H',R',_⟩=>yQ R'
  apart:=by
   rintro k M Pr W ⟨g',H',R',e1,rfl,e3,e4⟩ b j hb hp;obtain⟨⟨h1,h2,_⟩,_⟩:=e4 b hb;rcases hp with hp|hp
   .omega
   .rw[h2]at hp;omega
  c_:=by
   rintro k M M' Pr W W' ⟨g',H',R',e1,e2,e3,e4⟩ ht hM';have R2:=R'.c_ ht (λb hb=>(e4 b hb).1) (λb hb=>by rw[e1];exact(e4 b hb).2.2);refine⟨g',H',R2,e1,e2,e3,λb hb=>?_⟩;obtain⟨q1,q2⟩:=hM' b hb;rcases q2 with q2|q2
   .exact⟨(e4 b q2).1,q1,(e4 b q2).2.2⟩
   .obtain⟨z1,z2⟩:=ado kp R' (by rw[e1]) (λ_=>Iff.rfl) b q2;exact⟨z1,q1,z2⟩
  aef:=by
   rintro M M' Pr W W' ⟨e,jc,g',H',R',e1,ej,e2,e3,e4⟩ ht hM';have R2:=R'.c_ ht (λb hb=>(e4 b hb).1) (λb hb=>by rw[e1];exact(EJ jc b).1 (e4 b hb).2.2);refine⟨e,jc,g',H',R2,e1,ej,e2,e3,λb hb=>?_⟩;obtain⟨q1,q2⟩:=hM' b hb;rcases q2 with q2|q2
   .exact⟨(e4 b q2).1,q1,(e4 b q2).2.2⟩
   .obtain⟨z1,z2⟩:=ado (kx jc) R' (by rw[e1]) (EJ jc) b q2;exact⟨z1,q1,z2⟩
  round:=by
   rintro k hk M Pr W G gq c ⟨g',H',R',e1,rfl,e3,e4⟩ hGM hx
   have hkg:∀b,M b->g'.old.bI b=none:=λb hb=>by rw[e1];exact(e4 b hb).2.2
   have Rc:=R'.Dd (G:=G) gq (λb hb=>⟨(e4 b (hGM b hb)).1,(e4 b (hGM b hb)).2.1,hkg b (hGM b hb)⟩)
   obtain⟨gc,Z6⟩:∃gc,g'.Dd G gq=gc:=⟨_,rfl⟩
   rw[Z6]at Rc
   have gco:gc.old=aae:=by rw[<-Z6];exact e1
   have hKc:bz g'.Pr gc.Pr W W:=bz.same λb j _ SU=>by
    rw[<-Z6]
    by_cases hb:G b
    .obtain⟨⟨h1,h2,_⟩,_⟩:=e4 b (hGM b hb);rcases SU with hp|hp
     .omega
     .rw[h2]at hp;omega
    .rcases SU with hp|hp
     .exact .inl hp
     .exact .inr ⟨hp.1,by simpa[Gh.Dd,hb]using hp.2⟩
   have A9:RD gc.Pr W xs[k] c:=hx.mono (bz.same λb j aw SU=>by
    rcases SU with SU|⟨h1,h2⟩
    .by_cases hex:∃u,W.cell? ⟨b,j,none⟩=some u
     .obtain⟨u,hu⟩:=hex;exact(hKc.cell b j SU u hu).1
     .rw[<-Z6]
      by_cases hb:G b
      .obtain⟨⟨h1,h2,_⟩,_⟩:=e4 b (hGM b hb);rcases SU with hp|hp
       .omega
       .rw[h2]at hp;omega
      .rcases SU with hp|hp
       .exact .inl hp
       .exact .inr ⟨hp.1,by simpa[Gh.Dd,hb]using hp.2⟩
    .rw[<-Z6]
     exact .inr ⟨(e4 b (hGM b h1)).1.1,by simpa[Gh.Dd,h1]using h2⟩)
   let kr:Nat->Option Obj:=λb=>if M b/\¬G b then W.heap[b]? else kp b
   have hMl:¬M (D+1):=λhh=>by have:=(e4 _ hh).2.2;rw[kpl]at this;cases this
   have krl:kr (D+1)=some (.loop (rec .ready none)):=by simp[kr,hMl,kpl]
   have Rr:=Rc.RM (mk kr gc.Pr W) (a2:={ tmps:=a.tmps.setIfInBounds p c,defers:=[] }) (S2:=av Se p xs[k]) (by rw[gco]) (by simpa using bL) rfl
    (λq hq=>Rc.facts q (by rw[gco];exact hq)) (bz.same λ_ _ _ h=>h) (afg _)
    (λb ob hb=>by
     simp only[mk,kr]at hb;split at hb
     .rename_i HC;obtain⟨h1,h2,h3,h4⟩:=(e4 b HC.1).1;exact⟨⟨by rw[<-Z6];exact h1,by rw[<-Z6];simpa[Gh.Dd,HC.2]using h2,by rw[<-Z6];exact h3,by rw[<-Z6];exact h4⟩,hb⟩
     .obtain⟨h1,h2,h3,h4,h5⟩:=Rc.kept b ob (by rw[gco];exact hb)
      exact⟨⟨h1,h3,h4,h5⟩,h2⟩)
    (λt ht=>by
     by_cases htp:t=p
     .subst htp;rw[bm];refine⟨pF _ (ae_ hk),.data _ _ ?_⟩
      have:(a.tmps.setIfInBounds t c).getD t undef=c:=by simp[bL,ht]
      rw[this];exact A9
     .rw[cN _ _ htp]
      have:(a.tmps.setIfInBounds p c).getD t undef=a.tmps.getD t undef:=by
       simp[afb (afQ htp)]
      rw[this]
      exact⟨hSe t,(Rc.slot t ht id)⟩)
   have pU:W.heap[D+1]?=some (.loop (rec .ready none)):=(R'.kept (D+1) _ (by rw[e1];exact kpl)).2.1;have hy:=run_yield (P:=P) (args:=#[c]) pU (by rw[XO];rfl);rw[XO]at hy
   have hy':(Instr.yield (D+1) #[c]).run P W=.ok (.round (D+1) fn (a.tmps.setIfInBounds p c) assign body) W:=by rw[hy];simp
   refine⟨fn,_,assign,body,hy',λm'=>roundIn_of_wpIn (F:=FR none) trivial ?_⟩;show assign.wpIn (FR (some (D+1))) m' P _ { tmps:=a.tmps.setIfInBounds p c,defers:=[] } W;refine ah4 (JG hG dS hm (old:=mk kr gc.Pr W) assign _ _ _ H' _ W Zc (λd hd (hh:L d=false)=>by have:=hLa d hd;rw[this]at hh;cases hh) rfl Rr (vV k hk H' e3)) ?_;intro e a1 w1 hq
   cases e with
   |normal=>
    obtain⟨g1,S1,H1,IA,KY,hb⟩:=hq;have S_:w1.heap[D+1]?=some (.loop (rec .ready none)):=(KY.kept (D+1) _ (by rw[IA];exact krl)).2.1;have hbr:=run_beginRound (P:=P) S_ (by rw[XO]);refine⟨_,hbr,?_⟩;have R2:=KY.m_ (l:=D+1) (o:=.loop (rec .ready none)) (by rw[IA];exact krl) (.loop { rec .ready none with state:=.busy })
    let kb:Nat->Option Obj:=av kr (D+1) (some (.loop { rec .ready none with state:=.busy }))
    have HO:({ g1.old with bI:=av g1.old.bI (D+1) (some (.loop { rec .ready none with state:=.busy })) }:Old)=mk kb gc.Pr W:=by rw[IA]
    refine ah4 (JG hG dS hm (old:=mk kb gc.Pr W) body _ _ _ _ _ _ sX (λd hd (hh:L d=false)=>by have:=hLb d hd;rw[this]at hh;cases hh) HO R2 hb) ?_;have kbl:kb (D+1)=some (.loop { rec .ready none with state:=.busy }):=bm _ _ _
    have fin:∀ (g3:Gh) (S3:aF) (H3:aK) (a3:Act) (w3:World) (jump:Option Code),g3.old=mk kb gc.Pr W→Rel P w0 n dU g3 S3 H3 a3 w3 →
      ∃w4,(Instr.endRound (D+1) jump).run P w3=.ok (.bool jump.isNone) w4/\(∀b,M b->¬G b->w4.heap[b]?=W.heap[b]?)/\∃g4,bz g'.Pr g4.Pr W w4/\
       Rel P w0 n dU g4 Se H3 al w4/\g4.old=mk (av kp (D+1) (some (.loop (rec (if jump.isNone then .ready else .done) jump)))) g.old.sp g.old.sw/\∀b,M b/\¬G b->Xn g4 b/\b<w4.heap.size/\kp b=none:=by
     intro g3 S3 H3 a3 w3 jump YQ R3;have HB:w3.heap[D+1]?=some (.loop { rec .ready none with state:=.busy }):=(R3.kept (D+1) _ (by rw[YQ];exact kbl)).2.1;have her:=run_endRound (P:=P) jump HB
     obtain⟨w4,jz⟩:∃w4,w3.putObj (D+1) (.loop { ({ rec .ready none with state:=.busy }:Loop)with state:=if jump.isNone then .ready else .done,pending:=jump })=w4:=⟨_,rfl⟩
     rw[jz]at her;have R4:=R3.m_ (l:=D+1) (o:=.loop { rec .ready none with state:=.busy }) (by rw[YQ];exact kbl) (.loop { ({ rec .ready none with state:=.busy }:Loop)with state:=if jump.isNone then .ready else .done,pending:=jump });rw[jz]at R4
     have Ob:({ ({ rec .ready none with state:=.busy }:Loop)with state:=if jump.isNone then .ready else .done,pending:=jump })=rec (if jump.isNone then .ready else .done) jump:=by rw[XO]
     rw[Ob]at R4
     have ho4:({ g3.old with bI:=av g3.old.bI (D+1) (some (.loop (rec (if jump.isNone then .ready else .done) jump))) }:Old)=mk (av kr (D+1) (some (.loop (rec (if jump.isNone then .ready else .done) jump)))) gc.Pr W:=by
      rw[YQ];simp only[mk,Old.mk.injEq,aiu,ah_]
      funext b
      by_cases Ju:b=D+1
      .subst Ju;simp[av]
      .simp[av,kb,Ju]
     obtain⟨g4,hg4⟩:∃g4,({ g3 with old:={ g3.old with bI:=av g3.old.bI (D+1) (some (.loop (rec (if jump.isNone then .ready else .done) jump))) } }:Gh)=g4:=⟨_,rfl⟩
     rw[hg4]at R4
     have Y2:g4.old=mk (av kr (D+1) (some (.loop (rec (if jump.isNone then .ready else .done) jump)))) gc.Pr W:=by rw[<-hg4];exact ho4
     have hKW:bz g'.Pr g4.Pr W w4:=hKc.trans (by have:=R4.still;rw[Y2]at this;exact this)
     have aex:∀b,M b->b≠D+1:=by rintro b hb rfl;exact hMl hb
     have hkr:∀b,M b->¬G b->∃ob,W.heap[b]?=some ob/\g4.old.bI b=some ob:=by
      intro b hb Hg;have aw:=(e4 b hb).2.1;refine⟨W.heap[b],by simp[aw],?_⟩;rw[Y2];simp[mk,av,aex b hb,kr,hb,Hg,aw]
     have R5:=R4.RM (mk (av kp (D+1) (some (.loop (rec (if jump.isNone then .ready else .done) jump)))) g.old.sp g.old.sw) (a2:=al) (S2:=Se) (by rw[Y2]) bL rfl
      (λq hq=>R4.facts q (by rw[Y2];exact hq)) (by
       have h1:=R'.still;rw[e1]at h1
       exact h1.trans hKW) (by
       have h1:=R'.grown;rw[e1]at h1;have h2:=R4.grown;rw[Y2]at h2
       exact agu h1 h2)
      (λb ob hb=>by
       have hq:g4.old.bI b=some ob:=by
        rw[Y2];simp only[mk]at hb⊢
        by_cases Ju:b=D+1
        .subst Ju;simpa[av]using hb
        .simp only[cN _ _ Ju]at hb⊢;simp only[kr];rw[if_neg];exact hb;rintro⟨hMb,_⟩;rw[(e4 b hMb).2.2]at hb;cases hb
       obtain⟨h1,h2,h3,h4,h5⟩:=R4.kept b ob hq
       exact⟨⟨h1,h3,h4,h5⟩,h2⟩)
      (λt ht=>acx R4 (by rw[Y2]) t ht)
     refine⟨w4,her,λb hb Hg=>?_,{ g4 with old:=mk (av kp (D+1) (some (.loop (rec (if jump.isNone then .ready else .done) jump)))) g.old.sp g.old.sw },?_,R5,rfl,λb hb=>?_⟩
     .obtain⟨ob,h1,h2⟩:=hkr b hb Hg;rw[h1];exact(R4.kept b ob h2).2.1
     .have:(({ g4 with old:=mk (av kp (D+1) (some (.loop (rec (if jump.isNone then .ready else .done) jump)))) g.old.sp g.old.sw }:Gh)).Pr=g4.Pr:=by
       funext b j;simp only[Gh.Pr,Y2,mk]
      rw[this];exact hKW
     .obtain⟨ob,h1,h2⟩:=hkr b hb.1 hb.2;obtain⟨q1,q2,q3,q4,q5⟩:=R4.kept b ob h2;exact⟨⟨q1,q3,q4,q5⟩,(afe.1 q2).1,(e4 b hb.1).2.2⟩
    intro e2 a3 w3 hq3
    cases e2 with
    |normal=>
     obtain⟨g3,S3,H3,YQ,R3,hI3⟩:=hq3;obtain⟨w4,her,q1,g4,q3,R4,q4,q5⟩:=fin g3 S3 H3 a3 w3 none YQ R3;refine⟨_,w4,her,q1,g4.Pr,q3,.inl ⟨rfl,g4,H3,R4,?_,rfl,hI3,q5⟩⟩;rw[q4];simp only[aae,mk,Old.mk.injEq,aiu,ah_,Option.isNone_none,afH]
     funext b
     by_cases Ju:b=D+1
     .subst Ju;simp[av,kpl]
     .simp[av,Ju]
    |ret=>
     obtain⟨g3,S3,H3,YQ,R3,hI3⟩:=hq3;obtain⟨w4,her,q1,g4,q3,R4,q4,q5⟩:=fin g3 S3 H3 a3 w3 (some .ret) YQ R3;exact⟨_,w4,her,q1,g4.Pr,q3,.inr ⟨rfl,.ret,.ret,g4,H3,R4,q4,rfl,rfl,hI3,q5⟩⟩
    |exit id=>
     obtain⟨g3,S3,H3,YQ,R3,hI3⟩:=hq3;obtain⟨w4,her,q1,g4,q3,R4,q4,q5⟩:=fin g3 S3 H3 a3 w3 (some (.exit id)) YQ R3;exact⟨_,w4,her,q1,g4.Pr,q3,.inr ⟨rfl,.exit id,.exit id,g4,H3,R4,q4,rfl,rfl,hI3,q5⟩⟩
    |panic ch=>obtain⟨_,_,_,_,_,_,_,_,_,_,hh⟩:=hq3;exact hh.elim
    |goto l=>exact hq3.elim
    |outgrown=>exact hq3.elim
   |exit id=>obtain⟨_,_,_,_,_,hh⟩:=hq;exact hh.elim
   |ret=>obtain⟨_,_,_,_,_,hh⟩:=hq;exact hh.elim
   |panic ch=>obtain⟨_,_,_,_,_,_,_,_,_,_,hh⟩:=hq;exact hh.elim
   |goto l=>exact hq.elim
   |outgrown=>exact hq.elim }
 have Jz:∀ (g':Gh) (H':aK) (w2:World) (st:LoopState) (pe:Option Code),st ≠ .busy→Rel P w0 n dU g' Se H' al w2→g'.old=mk (av kp (D+1) (some (.loop (rec st pe)))) g.old.sp g.old.sw →
   ∃w4 g4,(Instr.endLoop (D+1)).run P w2=.ok pe w4/\Rel P w0 n dU g4 Se H' { a with defers:=[{ target:=.collected D,args:=#[] }]++a.defers } w4/\g4.old=g.old.mark D:=by
  intro g' H' w2 st pe kR R' e1
  have j9:g'.old.bI (D+1)=some (.loop (rec st pe)):=by rw[e1];exact bm _ _ _
  have tg:=(R'.kept (D+1) _ j9).2.1;have Ej:=run_endLoop (P:=P) tg (by rw[XO];exact kR);have R2:=R'.m_ j9 (.loop { rec st pe with state:=.exhausted })
  obtain⟨W4,hW4⟩:∃W4,w2.putObj (D+1) (.loop { rec st pe with state:=.exhausted })=W4:=⟨_,rfl⟩
  rw[hW4]at Ej R2
  have ZB:(rec st pe).pending=pe:=by rw[XO]
  rw[ZB]at Ej
  have hold:∀b ob,(g.old.mark D).bI b=some ob->({ g' with old:={ g'.old with bI:=av g'.old.bI (D+1) (some (.loop { rec st pe with state:=.exhausted })) } }:Gh).old.bI b=some ob:=by
   intro b ob hb;simp only[Old.mark]at hb
   by_cases hbD:b=D
   .subst hbD;rw[bm]at hb;cases hb;show av g'.old.bI (b+1) _ b=_;rw[cN _ _ (by omega),e1];show av kp (b+1) _ b=_;rw[cN _ _ (by omega)];show av (av g.old.bI b _) (b+1) _ b=_;rw[cN _ _ (by omega),bm]
   .rw[cN _ _ hbD]at hb
    have aw:b<D:=by
     rcases ahB b D with h|h
     .exact h
     .rw[Zh b h]at hb;cases hb
    show av g'.old.bI (D+1) _ b=_;rw[cN _ _ (by omega),e1];show av kp (D+1) _ b=_;rw[cN _ _ (by omega)];show av (av g.old.bI D _) (D+1) _ b=_;rw[cN _ _ (by omega),cN _ _ hbD];exact hb
  have R3:=R2.RM (g.old.mark D) (a2:={ a with defers:=[{ target:=.collected D,args:=#[] }]++a.defers }) (S2:=Se) (by show g.old.c=g'.old.c;rw[e1]) bL (by show[_]++a.defers=_::_;rw[R.defers];rfl) (λq hq=>R2.facts q ?_) ?_ ?_ (λb ob hb=>?_) (λt ht=>acx R2 (by show g'.old.facts=_;rw[e1]) t ht)
  .refine⟨_,_,Ej,R3,?_⟩
   rfl
  .show q∈g'.old.facts;rw[e1];exact aib _ hq
  .have h:=R2.still
   have:({ g' with old:={ g'.old with bI:=av g'.old.bI (D+1) (some (.loop { rec st pe with state:=.exhausted })) } }:Gh).old.sp=g.old.sp:=by show g'.old.sp=_;rw[e1]
   rw[this]at h
   have:({ g' with old:={ g'.old with bI:=av g'.old.bI (D+1) (some (.loop { rec st pe with state:=.exhausted })) } }:Gh).old.sw=g.old.sw:=by show g'.old.sw=_;rw[e1]
   rw[this]at h;exact h
  .have h:=R2.grown
   have:({ g' with old:={ g'.old with bI:=av g'.old.bI (D+1) (some (.loop { rec st pe with state:=.exhausted })) } }:Gh).old.sw=g.old.sw:=by show g'.old.sw=_;rw[e1]
   rw[this]at h;exact h
  .obtain⟨h1,h2,h3,h4,h5⟩:=R2.kept b ob (hold b ob hb);exact⟨⟨h1,h3,h4,h5⟩,h2⟩
 refine⟨D+1,[{ target:=.collected D,args:=#[] }],W1,{ target:=.fn (.func f) us,args:=#[.func (.yield (D+1)) #[] #[]] },W1,f,#[.func (.yield (D+1)) #[] #[]]++us,W1,?_,?_,λ_ _=>trivial,?_,λh=>by simp[FR,Fence.wide]at h,?_⟩
 .rw[<-hW1,XO,<-hD];exact run_enterLoop_outer _ _ _ _ _
 .simp only[resolve,UE];simp[go_sem]
 .simp[invoke,go_sem,je hf]
 .refine lR.2 ((hit (D+1) C W1 g.Pr us ?_ yS hcr).mono ?_)
  .refine⟨{ g with old:=aae },H,R1.RM aae rfl bL rfl (λq hq=>?_) R1.still R1.grown (λb ob hb=>?_) (λt ht=>⟨hSe t,(R1.slot t ht id).yw⟩),rfl,rfl,h0,λb hb=>hb.elim⟩
   .rcases afr.1 hq with h|h
    .obtain⟨t,ht,rfl⟩:=afp.1 h;exact(R1.slot t (afE.1 ht) id).yw
    .exact R1.facts q h
   .simp only[aae,mk,kp]at hb
    by_cases h1:b=D+1
    .subst h1;rw[bm]at hb;cases hb;exact⟨G' _ (by omega),hL1⟩
    .rw[cN _ _ h1]at hb
     by_cases h2:b=D
     .subst h2;rw[bm]at hb;cases hb;exact⟨G' _ (by omega),hK1⟩
     .rw[cN _ _ h2]at hb;obtain⟨q1,q2,q3,q4,q5⟩:=R1.kept b ob hb;exact⟨⟨q1,q3,q4,q5⟩,q2⟩
  .rintro e w2 ⟨v,M,fl,rfl,hJ|hX⟩
   .obtain⟨g',H',R',e1,_,hI,_⟩:=hJ
    have Hd:av kp (D+1) (some (.loop (rec .ready none)))=kp:=by
     funext b
     by_cases hb:b=D+1
     .subst hb;rw[bm,kpl]
     .rw[cN _ _ hb]
    obtain⟨w4,g4,h1,R4,h2⟩:=Jz g' H' w2 .ready none (by simp) R' (by rw[Hd];exact e1);exact⟨none,w4,h1,g4,Se,H',R4,by rw[h2];exact aeh D H' (Zh D (afg _)) hI⟩
   .obtain⟨e,jc,g',H',R',e1,ej,_,hI,_⟩:=hX;obtain⟨w4,g4,h1,R4,h2⟩:=Jz g' H' w2 .done (some jc) (by simp) R' e1;refine⟨some jc,w4,h1,?_⟩;have hq:=aee D e H' (Zh D (afg _)) (by rw[ej];rfl) hI
    cases e<;>simp only[aaZ]at ej<;>cases ej
    .exact agT ⟨g4,Se,H',R4,by rw[h2];exact hq⟩
    .exact agK ⟨g4,Se,H',R4,by rw[h2];exact hq⟩
end
def eD(o:Old):Prop:=∃Ds:List Nat,Ds.Nodup/\o.ds=Ds.map (λD=>{ target:=.collected D,args:=#[] })/\∀D∈Ds,o.bI D=some (.deferred (some []))
theorem eD.plain{o:Old}(h:o.ds=[]):eD o:=⟨[],.nil,by simpa using h,by simp⟩
theorem eD.mark{o:Old}{D:Nat}(h:eD o)(hD:o.bI D=none):eD (o.mark D):=by
 obtain⟨Ds,h1,h2,h3⟩:=h
 have hn:D∉Ds:=λhm=>by rw[h3 D hm]at hD;cases hD
 refine⟨D::Ds,ahH.2 ⟨hn,h1⟩,by simp[Old.mark,h2],λE hE=>?_⟩;rcases afU.1 hE with rfl|hE
 .exact bm _ _ _
 .show av o.bI D _ E=_;rw[cN _ _ (λe:E=D=>hn (by rw[<-e];exact hE))];exact h3 E hE
section
variable{P:Program}{GI:World->Prop}{w0:World}{n:Nat}{g:Gh}{S:aF}{H:aK}{a:Act}{w:World}
theorem Xo {F:Fence} {m:Nat} {fn:Func} {tmps:Array Value} {R:Ending→World→Prop}:∀ (Ds:List Nat) {g:Gh} {w:World},Rel P w0 n dU g S H a w→Ds.Nodup→(∀ D∈Ds,g.old.bI D=some (.deferred (some []))) →
  (∀g' w',Rel P w0 n dU g' S H a w'->g'.old.c=g.old.c->∃v,(results fn tmps).run P w'=.ok v w'/\R (.returned v) w')->
  LeavesInM F m P fn tmps R (Ds.map λD=>{ target:=.collected D,args:=#[] }) .returning w
 |[],g,w,R',_,_,Ey=>Ey g w R' rfl
 |D::Ds,g,w,R',l7,hk,Ey=>by
  obtain⟨h1,h2⟩:=ahH.1 l7;have hD:=hk D aft;have R2:=R'.m_ hD (.deferred none);refine⟨by simp,.inl ⟨D,_,rfl,run_takeDeferred (R'.kept D _ hD).2.1,?_⟩⟩;refine Xo Ds R2 h2 (λE hE=>?_) (λg' w' R3 hc=>Ey g' w' R3 hc);show av g.old.bI D _ E=_;rw[cN _ _ (λe:E=D=>h1 (by rw[<-e];exact hE))];exact hk E (afk _ hE)
theorem Rel.begin {fn:Func} {args:List AV} {old:Nat→Nat→Prop} {dH:Array Value} (hn:fn.ntmps=n) (hl:args.length≤n) (hlen:args.length=dH.size)
  (hr:∀i (h:i<args.length)(h':i<dH.size),RV old (λ_=>none) w args[i] dH[i]):
  Rel P w n dU { base:=w.heap.size,old:=Old.plain old w,al:=λ_=>none,hi:=λ_=>0,owner:=λ_=>none } (start args) (λ_=>none) { tmps:=dH++Array.replicate (fn.ntmps-dH.size) undef,defers:=[] } w:=by
 have bL:(dH++Array.replicate (fn.ntmps-dH.size) undef).size=n:=by simp;omega
 refine{ size:=bL,defers:=rfl,facts:=λ_ h=>(by cases h),slot:=?_,own:=?_,box:=?_,Cf:=?_,BB:=?_,inj:=?_,base:=rfl,below:=aga _ _,fresh:=λb _=>⟨rfl,rfl⟩,still:=⟨λ_ _ h=>h.elim,λ_ h=>h.elim⟩,grown:=afg _,kept:=λ_ _ h=>(by cases h) }
 .intro t ht _
  by_cases hta:t<args.length
  .have h1:start args t=args[t].aI:=by simp[start,hta]
   have h2:(dH++Array.replicate (fn.ntmps-dH.size) undef).getD t undef=dH[t]'(by omega):=by
    have:t<dH.size:=by omega
    simp[ah2,this]
   rw[h1,h2];refine((hr t hta (by omega)).mono (bz.same λb k aw hp=>.inl ⟨aw,hp⟩) (λ_ _ h=>h)).aI
  .have h1:start args t=cG:=by simp[start,hta,cG,AV.aI]
   have h2:(dH++Array.replicate (fn.ntmps-dH.size) undef).getD t undef=undef:=by
    have:¬t<dH.size:=by omega
    simp only[agl,ah2,this,afx]
    by_cases hh:t-dH.size<fn.ntmps-dH.size
    .simp[hh]
    .simp[hh]
   rw[h1,h2];exact .data _ _ (XH _ _)
 .intro t ht _;exact Hh _ _ _
 .intro i b h;cases h
 .intro i cs h;cases h
 .intro i h;rfl
 .intro i j b h;cases h
def JT(P:Program)(n:Nat)(rs:List ResultVar)(out:eZ)(c:Nat->Nat->Prop):mL
 |.normal,o,S,H|.ret,o,S,H=>eD o/\o.c=c/\∃v,cw P n rs S H=some v/\out=.ret v
 |.panic v,o,_,_=>o.ds=[]/\o.c=c/\out=.panic v
 |_,_,_,_=>False
theorem AC.gY {f:Nat} {fn:Func} {c:Code} {args:List AV} {out:eZ} (hf:P.funcs[f]? = some fn) (hb:fn.body=some c) (hn:fn.ntmps=n) (hl:args.length≤n)
  (h:∀cc w,SW P GI n none c (JT P n fn.results.toList out cc) (Old.plain cc w) (start args) (λ_=>none)):AC P GI f args out:=by
 intro w old dH fR hlen hr;refine(lR (ro:=none) (m:=0)).1 (callsIn_of_wp_marks hf hb trivial ?_);have R:Rel P w n dU _ (start args) (λ_=>none) { tmps:=dH++Array.replicate (fn.ntmps-dH.size) undef,defers:=[] } w:=Rel.begin hn hl hlen hr;refine ah4 (h old w w _ _ w 0 fR rfl R) ?_;intro e a' w' he
 have fin:(∃ g' S H,Rel P w n dU g' S H a' w'∧eD g'.old∧g'.old.c=old∧∃ v,cw P n fn.results.toList S H=some v∧out = .ret v) →
   LeavesInM (FR none) 0 P fn a'.tmps (Ends P old w out) a'.defers .returning w':=by
  rintro⟨g',S,H,R',⟨Ds,h1,h2,h3⟩,hc,v,hv,rfl⟩;rw[R'.defers,h2]
  refine Xo Ds R' h1 h3 λg2 w2 R2 K4=>?_
  obtain⟨c,r1,r2,r3⟩:=WY R2 hv;refine⟨c,r1,?_,g2.hi,λb hb=>(R2.fresh b hb).1,c,rfl,?_,?_⟩
  .have:=R2.below;rwa [R2.base]at this
  .have:g2.Pr=Tw w.heap.size old g2.hi:=by
    funext b k
    simp only[Gh.Pr,Tw,R2.base,K4,hc]
   rw[this]at r2;exact .data _ _ r2
  .rwa [R2.base]at r3
 cases e with
 |normal=>exact fin he
 |ret=>exact fin he
 |exit id=>obtain⟨_,_,_,_,h⟩:=he;exact h.elim
 |panic chain=>
  obtain⟨o,v,c,hi,S,H,h1,h2,h3,h4,h5,h6,rfl,rfl⟩:=he;subst h2;show LeavesInM (FR none) 0 P fn a'.tmps _ a'.defers _ w';rw[h1,h6];exact⟨h3,hi,h4,c,rfl,h5⟩
 |goto l=>exact he.elim
 |outgrown=>exact he.elim
def ad7(n:Nat)(rs:List ResultVar)(out:eZ):ft->aF->aK->Prop
 |.normal,S,H|.ret,S,H=>∃t fn fi ca,rs=[.tmp t]/\t<n/\S t=.func fn fi ca/\out=.ret (fz H (S t))
 |_,_,_=>False
open Classical in
theorem AC.De (hG:au GI) (hm:P.follows .mixedOrders=true) {f:Nat} {fn:Func} {c:Code} {args:List AV} {out:eZ} (hf:P.funcs[f]? = some fn) (hb:fn.body=some c) (hn:fn.ntmps=n) (hl:args.length≤n) {ac:af} (hc:kT P n c=ac)
  (h:bO P GI ac (ad7 n fn.results.toList out) (start args) (λ_=>none)):AC P GI f args out:=by
 intro w old dH fR hlen hr;refine ahm hf hb ?_;subst hc;have R:Rel P w n dU _ (start args) (λ_=>none) { tmps:=dH++Array.replicate (fn.ntmps-dH.size) undef,defers:=[] } w:=Rel.begin hn hl hlen hr;refine aiU (O8 hG fR hm c _ _ _ _ _ w (λ_ _ h=>h) rfl R h) ?_;intro e a' w' he
 have fin:(∃ g' S H,g'.old=Old.plain old w∧Rel P w n dU g' S H a' w'∧∃ t f' fi ca,fn.results.toList=[.tmp t]∧t < n∧S t = .func f' fi ca∧out = .ret (fz H (S t))) →
   a'.defers=[]/\∃v,(results fn a'.tmps).run P w'=.ok v w'/\Ends P old w out (.returned v) w':=by
  rintro⟨g',S,H,e1,R',t,f',fi,ca,hrs,ht,hS,rfl⟩
  have aeB:fn.results=#[.tmp t]:=by
   rw[<-Array.toArray_toList (xs:=fn.results),hrs]
  have hv:=R'.fz (R'.slot t ht id) true (λ_=>rfl)
  have N6:∀b,(∃i,g'.al i=some b)->g'.base<=b/\g'.hi b=0/\∃vs ty,w'.heap[b]?=some (.cells vs ty (0,0)):=by
   rintro b ⟨i,hi⟩;obtain⟨cs,vs,ty,h1,h2,h3,h4,_⟩:=R'.box i b hi;exact⟨h2,h4,vs,ty,h3⟩
  let gq:Nat->Nat:=λb=>if∃i,g'.al i=some b then(match w'.heap[b]? with|some (.cells vs _ _)=>vs.size|_=>0)else g'.hi b
  have T6:∀b k,g'.Pr b k->Tw w.heap.size old gq b k:=by
   intro b k hp
   rcases hp with⟨q1,q2⟩|⟨q1,q2⟩
   .exact .inl ⟨by rw[<-R'.base];exact q1,by rw[e1]at q2;exact q2⟩
   .refine .inr ⟨by rw[<-R'.base];exact q1,?_⟩;show k<(if∃i,g'.al i=some b then _ else g'.hi b);rw[if_neg]
    .exact q2
    .intro hex;rw[(N6 b hex).2.1]at q2;omega
  refine⟨by rw[R'.defers,e1];rfl,a'.tmps.getD t undef,by simp[results,aeB],?_,gq,λb hb=>?_,_,rfl,?_,?_⟩
  .have:=R'.below;rwa [R'.base]at this
  .show(if∃i,g'.al i=some b then _ else g'.hi b)=0;rw[if_neg]
   .exact(R'.fresh b hb).1
   .intro hex;obtain⟨_,_,vs,ty,h3⟩:=N6 b hex;have:=(afe.1 h3).1;omega
  .refine hv.mono ?_ (λ_ _ h=>h);refine{ cell:=λb k hp u hu=>⟨?_,hu⟩,map:=λb hp es cc Ei=>⟨?_,Ei⟩ }
   .rcases hp with hp|⟨_,hex⟩
    .exact T6 b k hp
    .obtain⟨h1,h2,vs,ty,h3⟩:=N6 b hex;refine .inr ⟨by rw[<-R'.base];exact h1,?_⟩;show k<(if∃i,g'.al i=some b then _ else g'.hi b);rw[if_pos hex,h3];simp[World.cell?,h3]at hu;exact(afe.1 hu).1
   .rcases hp with hp|⟨_,hex⟩
    .exact T6 b 0 hp
    .obtain⟨h1,h2,vs,ty,h3⟩:=N6 b hex;rw[h3]at Ei;cases Ei
  .rw[hS];simp only[fz]
   trivial
 cases e with
 |normal=>exact fin he
 |ret=>exact fin he
 |exit id=>obtain⟨_,_,_,_,_,h⟩:=he;exact h.elim
 |panic chain=>obtain⟨_,_,_,_,_,_,_,_,_,_,h⟩:=he;exact h.elim
 |goto l=>exact he.elim
 |outgrown=>exact he.elim
end
theorem oc{α:Type}{p A b s:α->Prop}{o:α}(h:A o)(k:s o)(hp:p o:=by kernel_rfl)(hb:b o:=by simp[du,av]):∃o,p o/\A o/\b o/\s o:=⟨o,hp,h,hb,k⟩
inductive TT(α:Type) where
 |lf (v:α)
 |nd (a b c d:TT α)
namespace TT
variable{α:Type}
noncomputable def G(z:α)(k:Nat):TT α->Nat->α:=
 Nat.rec (motive:=λ_=>TT α->Nat->α) (λt _=>match t with|.lf v=>v|.nd ..=>z)
  (λ_ ih t i=>match t with
   |.lf v=>v
   |.nd a b c d=>bif Nat.beq (i % 4) 0 then ih a (i/4)else bif Nat.beq (i % 4) 1 then ih b (i/4)else bif Nat.beq (i % 4) 2 then ih c (i/4)else ih d (i/4)) k
noncomputable def P(k:Nat):TT α->Nat->α->TT α:=
 Nat.rec (motive:=λ_=>TT α->Nat->α->TT α) (λ_ _ v=>.lf v)
  (λ_ ih t i v=>match t with
   |.lf x=>bif Nat.beq (i % 4) 0 then .nd (ih (.lf x) (i/4) v) (.lf x) (.lf x) (.lf x)else bif Nat.beq (i % 4) 1 then .nd (.lf x) (ih (.lf x) (i/4) v) (.lf x) (.lf x)else bif Nat.beq (i % 4) 2 then .nd (.lf x) (.lf x) (ih (.lf x) (i/4) v) (.lf x)else .nd (.lf x) (.lf x) (.lf x) (ih (.lf x) (i/4) v)
   |.nd a b c d=>bif Nat.beq (i % 4) 0 then .nd (ih a (i/4) v) b c d else bif Nat.beq (i % 4) 1 then .nd a (ih b (i/4) v) c d else bif Nat.beq (i % 4) 2 then .nd a b (ih c (i/4) v) d else .nd a b c (ih d (i/4) v)) k
noncomputable def M(f:α->α)(k:Nat):TT α->TT α:=
 Nat.rec (motive:=λ_=>TT α->TT α) (λt=>match t with|.lf v=>.lf (f v)|t=>t)
  (λ_ ih t=>match t with
   |.lf v=>.lf (f v)
   |.nd a b c d=>.nd (ih a) (ih b) (ih c) (ih d)) k
theorem acC(z x:α):∀k i,G z k (.lf x) i=x
 |0,_=>rfl
 |_+1,_=>rfl
theorem adF(z:α)(k:Nat)(a b c d:TT α)(i:Nat):G z (k+1) (.nd a b c d) i=bif Nat.beq (i % 4) 0 then G z k a (i/4)else bif Nat.beq (i % 4) 1 then G z k b (i/4)else bif Nat.beq (i % 4) 2 then G z k c (i/4)else G z k d (i/4):=rfl
theorem four(i:Nat):i % 4=0\/i % 4=1\/i % 4=2\/i % 4=3:=by omega
theorem G_P(z:α):∀(k:Nat)(t:TT α)(i j:Nat)(v:α),i<4^k->j<4^k->G z k (P k t i v) j=if j=i then v else G z k t j
 |0,t,i,j,v,hi,hj=>by
  have:i=0:=by simpa using hi
  have:j=0:=by simpa using hj
  subst_vars;rfl
 |k+1,t,i,j,v,hi,hj=>by
  have La:i/4<4^k:=by rw[Nat.pow_succ]at hi;omega
  have hj4:j/4<4^k:=by rw[Nat.pow_succ]at hj;omega
  have ih:=λt=>G_P z k t (i/4) (j/4) v La hj4
  have hd:j=i↔(j % 4=i % 4/\j/4=i/4):=⟨λh=>by subst h;exact⟨rfl,rfl⟩,λ⟨h1,h2⟩=>by omega⟩
  cases t with
  |lf x=>
   show G z (k+1) (bif Nat.beq (i % 4) 0 then .nd (P k (.lf x) (i/4) v) (.lf x) (.lf x) (.lf x)else bif Nat.beq (i % 4) 1 then .nd (.lf x) (P k (.lf x) (i/4) v) (.lf x) (.lf x)else bif Nat.beq (i % 4) 2 then .nd (.lf x) (.lf x) (P k (.lf x) (i/4) v) (.lf x)else .nd (.lf x) (.lf x) (.lf x) (P k (.lf x) (i/4) v)) j=_;rw[acC];have ih:=ih (.lf x);rw[acC]at ih
   rcases four i with h|h|h|h<;>rcases four j with h'|h'|h'|h'<;>simp[h,h',adF,hd,ih,acC,Nat.beq]
  |nd a b c d=>
   show G z (k+1) (bif Nat.beq (i % 4) 0 then .nd (P k a (i/4) v) b c d else bif Nat.beq (i % 4) 1 then .nd a (P k b (i/4) v) c d else bif Nat.beq (i % 4) 2 then .nd a b (P k c (i/4) v) d else .nd a b c (P k d (i/4) v)) j=_
   rcases four i with h|h|h|h<;>rcases four j with h'|h'|h'|h'<;>simp[h,h',adF,hd,ih,Nat.beq]
theorem G_M(z:α)(f:α->α)(hz:f z=z):∀(k:Nat)(t:TT α)(j:Nat),G z k (M f k t) j=f (G z k t j)
 |0,t,j=>by cases t<;>first|rfl|exact hz.symm
 |k+1,t,j=>by
  cases t with
  |lf x=>rfl
  |nd a b c d=>
   show G z (k+1) (.nd (M f k a) (M f k b) (M f k c) (M f k d)) j=_
   rcases four j with h|h|h|h<;>simp[h,adF,G_M z f hz k,Nat.beq]
end TT
abbrev TS:=TT AV
abbrev TH:=TT (Option (List AV))
noncomputable def gT(s:TS):aF:=λt=>bif Nat.ble 256 t then cG else s.G cG 4 t
noncomputable def gU(h:TH):aK:=λt=>bif Nat.ble 256 t then none else h.G none 4 t
noncomputable def Oi{α:Type}(s:TT α)(i:Nat)(v:α):Option (TT α):=bif Nat.ble 256 i then none else some (s.P 4 i v)
theorem aam{α:Type}{s s':TT α}{i:Nat}{v:α}(z:α)(h:Oi s i v=some s'):(λt=>bif Nat.ble 256 t then z else s'.G z 4 t)=av (λt=>bif Nat.ble 256 t then z else s.G z 4 t) i v:=by
 unfold Oi at h
 cases hb:Nat.ble 256 i with
 |true=>rw[hb]at h;cases h
 |false=>
  rw[hb]at h;cases h
  have hi:i<256:=by
   have:¬256<=i:=λhh=>by rw[ai0 hh]at hb;cases hb
   omega
  funext t
  unfold av
  cases ht:Nat.ble 256 t with
  |true=>
   have:256<=t:=aiq ht;rw[if_neg (by omega)];simp[ht]
  |false=>
   have:t<256:=by
    have:¬256<=t:=λhh=>by rw[ai0 hh]at ht;cases ht
    omega
   simp only[ht,cond_false];exact TT.G_P z 4 s i t v hi this
theorem SZ{s s':TS}{i:Nat}{v:AV}(h:Oi s i v=some s'):gT s'=av (gT s) i v:=aam cG h
theorem UG{s s':TH}{i:Nat}{v:Option (List AV)}(h:Oi s i v=some s'):gU s'=av (gU s) i v:=aam none h
noncomputable def VG(d:Nat)(s:TS):TS:=s.M (cE d) 4
theorem W_(d:Nat)(s:TS):gT (VG d s)=λt=>cE d (gT s t):=by
 funext t
 unfold gT VG
 cases Nat.ble 256 t with
 |true=>rfl
 |false=>exact TT.G_M cG (cE d) rfl 4 s t
noncomputable def Yv(s:TS):Option Nat->AV->Option TS
 |some d,v=>Oi s d v
 |none,_=>some s
theorem Xe{s s':TS}{d:Option Nat}{v:AV}(h:Yv s d v=some s'):gT s'=aY (gT s) d v:=by
 cases d with
 |none=>cases h;rfl
 |some d=>exact SZ h
noncomputable def acA(e:aT)(dst:Option Nat)(s:TS)(h:TH):Option (TS×TH):=
 match(match e.dm with|some t=>Oi s t (gT s t).aI|none=>some s)with
 |none=>none
 |some s1=>match Yv s1 dst e.v with
  |none=>none
  |some s2=>match e.hw with
   |some (i,cs)=>match Oi h i (some cs)with
    |some h'=>some (s2,h')
    |none=>none
   |none=>some (s2,h)
theorem acR{e:aT}{dst:Option Nat}{s s':TS}{h h':TH}(hh:acA e dst s h=some (s',h')):gT s'=e.S (gT s) dst/\gU h'=e.H (gU h):=by
 unfold acA at hh;split at hh
 .cases hh
 rename_i s1 h1
 have e1:gT s1=(match e.dm with|some t=>av (gT s) t (gT s t).aI|none=>gT s):=by
  cases hd:e.dm with
  |none=>rw[hd]at h1;cases h1;rfl
  |some t=>rw[hd]at h1;exact SZ h1
 split at hh
 .cases hh
 rename_i s2 h2;have e2:=Xe h2;unfold aT.S aT.H;rw[e1]at e2;split at hh
 .rename_i i cs hw
  split at hh<;>cases hh
  rename_i h3;exact⟨e2,by rw[hw];exact UG h3⟩
 .rename_i hw;cases hh;exact⟨e2,by rw[hw]⟩
inductive Xc where
 |go (s:TS) (h:TH)|panic (v:AV)
noncomputable def Xc.on(K:aF->aK->Prop)(Qp:AV->Prop):Xc->Prop
 |.go s h=>K (gT s) (gU h)
 |.panic v=>Qp v
noncomputable def jt(dst:Option Nat)(s:TS)(h:TH):eZ->Option Xc
 |.ret v=>(Yv s dst v).map λs'=>.go s' h
 |.panic v=>some (.panic v)
noncomputable def stepT(P:Program)(call:uU)(op:nj)(dst:Option Nat)(s:TS)(h:TH):Option Xc:=
 match op with
 |.alloc _ zero=>match dst with
  |some d=>match Oi (VG d s) d (.box d 0),Oi h d (some zero)with
   |some s',some h'=>some (.go s' h')
   |_,_=>none
  |none=>none
 |.box _ size x=>match dst with
  |some d=>if (ev (gT s) x).cells.length=size∧(ev (gT s) x).storable=true then
    match Oi (VG d s) d (.box d 0),Oi h d (some ((ev (gT s) x).cells.map AV.aI))with
    |some s',some h'=>some (.go s' h')
    |_,_=>none
   else none
  |none=>none
 |.call f args=>match YP P call f (args.map λy=>fz (gU h) (ev (gT s) y)) (args.any λy=>du (ev (gT s) y))with
  |some out=>jt dst s h out
  |none=>none
 |.nP f args=>match ev (gT s) f with
  |.func (.func k) first cap=>match YP P call k ((first++args.map (ev (gT s))++cap).map (fz (gU h))) ((first++args.map (ev (gT s))++cap).any du)with
   |some out=>jt dst s h out
   |none=>none
  |_=>none
 |.panic x=>match ev (gT s) x with
  |.iface t v=>some (.panic (.iface t v))
  |_=>none
 |op=>match aL (gT s) (gU h) op with
  |some e=>(acA e dst s h).map λ(s',h')=>.go s' h'
  |none=>none
noncomputable def ZW(P:Program)(call:uU):List fw->TS->TH->Option Xc
 |[],s,h=>some (.go s h)
 |o::rest,s,h=>match aD (gT s) o.guard with
  |some true=>match stepT P call o.op o.dst s h with
   |some (.go s' h')=>ZW P call rest s' h'
   |r=>r
  |some false=>match Yv s o.dst cG with
   |some s'=>ZW P call rest s' h
   |none=>none
  |none=>none
noncomputable def Xw:List fw->TS->TH->Option (TS×TH)
 |[],s,h=>some (s,h)
 |o::l,s,h=>match da o with
  |some (d,z)=>match Oi (VG d s) d (.box d 0),Oi h d (some z)with
   |some s',some h'=>Xw l s' h'
   |_,_=>none
  |none=>Xw l s h
noncomputable def Ug(P:Program)(call:uU)(op:nj)(dst:Option Nat)(s:TS)(h:TH):Option (TS×TH):=
 match op with
 |.alloc _ _=>match dst with
  |some d=>(Oi s d (.box d 0)).map λs'=>(s',h)
  |none=>none
 |.box ..|.panic _|.other=>none
 |.call f args=>if(args.any λy=>du (ev (gT s) y))then none else match stepT P call (.call f args) dst s h with
  |some (.go s' h')=>some (s',h')
  |_=>none
 |.nP f args=>if(match ev (gT s) f with|.func _ first cap=>(first++args.map (ev (gT s))++cap).any du|_=>true)then none else match stepT P call (.nP f args) dst s h with
  |some (.go s' h')=>some (s',h')
  |_=>none
 |op=>match stepT P call op dst s h with
  |some (.go s' h')=>some (s',h')
  |_=>none
noncomputable def Xu(P:Program)(call:uU):List fw->TS->TH->Option (TS×TH)
 |[],s,h=>some (s,h)
 |o::rest,s,h=>match aD (gT s) o.guard with
  |some true=>match Ug P call o.op o.dst s h with
   |some (s',h')=>Xu P call rest s' h'
   |none=>none
  |some false=>match Yv s o.dst cG with
   |some s'=>Xu P call rest s' h
   |none=>none
  |none=>none
noncomputable def YO(body:TS->TH->Option (ft×TS×TH)):Nat->TS->TH->Option (ft×TS×TH)
 |0,_,_=>none
 |k+1,s,h=>match body s h with
  |some (.normal,s',h')=>YO body k s' h'
  |r=>r
noncomputable def Om(P:Program)(call:uU)(m:Nat):af->TS->TH->Option (ft×TS×TH)
 |.skip,s,h=>some (.normal,s,h)
 |.ops l,s,h=>match ZW P call l s h with
  |some (.go s' h')=>some (.normal,s',h')
  |some (.panic v)=>some (.panic v,s,h)
  |none=>none
 |.eB l,s,h=>match Xw l s h with
  |some (s1,h1)=>match Xu P call l s1 h1 with
   |some (s',h')=>some (.normal,s',h')
   |none=>none
  |none=>none
 |.seq x y,s,h=>match Om P call m x s h with
  |some (.normal,s',h')=>Om P call m y s' h'
  |r=>r
 |.cond c x y,s,h=>match ev (gT s) c with
  |.bool true=>Om P call m x s h
  |.bool false=>Om P call m y s h
  |_=>none
 |.block id c,s,h=>match Om P call m c s h with
  |some (.exit j,s',h')=>if j=id then some (.normal,s',h')else some (.exit j,s',h')
  |r=>r
 |.loop c,s,h=>YO (Om P call m c) m s h
 |.exit id,s,h=>some (.exit id,s,h)
 |.ret,s,h=>some (.ret,s,h)
 |.bad,_,_=>none
section
variable{P:Program}{GI:World->Prop}{call:uU}(iN:∀f args out,call f args=some out->AC P GI f args out)
include iN
omit iN in
theorem abw {dst:Option Nat} {s:TS} {h:TH} {out:eZ} {r:Xc} (hr:jt dst s h out=some r) {K:aF→aK→Prop} {Qp:AV→Prop}
  (hk:r.on K Qp):iH out (λv=>K (aY (gT s) dst v) (gU h)) Qp:=by
 cases out with
 |ret v=>
  simp only[jt,afX]at hr;obtain⟨s',h1,rfl⟩:=hr;show K _ _;rw[<-Xe h1];exact hk
 |panic v=>cases hr;exact hk
theorem Qu {op:nj} {dst:Option Nat} {s:TS} {h:TH} {r:Xc} (hr:stepT P call op dst s h=some r) {K:aF→aK→Prop} {Qp:AV→Prop}
  (hk:r.on K Qp):bf P GI op dst K Qp (gT s) (gU h):=by
 cases op
 case alloc t z=>
  cases dst with
  |none=>cases hr
  |some d=>
   simp only[stepT]at hr
   split at hr<;>cases hr
   rename_i h1 h2;simp only[bf];rw[<-W_,<-SZ h1,<-UG h2];exact hk
 case box t size x=>
  cases dst with
  |none=>cases hr
  |some d=>
   simp only[stepT]at hr;split at hr
   case isFalse=>cases hr
   rename_i hc
   split at hr<;>cases hr
   rename_i h1 h2;simp only[bf];rw[<-W_,<-SZ h1,<-UG h2];exact⟨hc.1,hc.2,hk⟩
 case call f args=>
  simp only[stepT]at hr;split at hr
  case h_2=>cases hr
  rename_i out ho;exact Yu iN ho (abw hr hk)
 case nP f args=>
  simp only[stepT]at hr;simp only[bf];split at hr
  case h_2=>cases hr
  rename_i k first cap hf;rw[hf];split at hr
  case h_2=>cases hr
  rename_i out ho;exact Yu iN ho (abw hr hk)
 case panic x=>
  simp only[stepT]at hr;split at hr
  case h_2=>cases hr
  rename_i t v hx;cases hr;simp only[bf,hx];exact hk
 case other=>cases hr
 all_goals
  simp only[stepT]at hr;simp only[bf];split at hr
  case h_2=>cases hr
  rename_i e he;simp only[afX,Prod.exists]at hr;obtain⟨s',h',h1,rfl⟩:=hr;rw[he];obtain⟨e1,e2⟩:=acR h1;simp only;rw[<-e1,<-e2];exact hk
theorem Uj:∀ {l:List fw} {s:TS} {h:TH} {r:Xc},ZW P call l s h=some r→∀ {K:aF→aK→Prop} {Qp:AV→Prop},
  r.on K Qp->bj P GI l K Qp (gT s) (gU h)
 |[],s,h,r,hr,K,Qp,hk=>by cases hr;exact hk
 |o::l,s,h,r,hr,K,Qp,hk=>by
  simp only[ZW]at hr;simp only[bj];split at hr
  .rename_i hw;rw[hw];simp only;split at hr
   .rename_i s' h' hs;exact Qu iN hs (r:=.go s' h') (Uj hr hk)
   .rename_i dO
    cases r with
    |go s' h'=>exact absurd hr (dO s' h')
    |panic v=>exact Qu iN hr hk
  .rename_i hw;rw[hw];simp only;split at hr
   case h_2=>cases hr
   rename_i s' hs;rw[<-Xe hs];exact Uj hr hk
  .cases hr
omit iN in
theorem XF:∀{l:List fw}{s s':TS}{h h':TH},Xw l s h=some (s',h')->gT s'=fV l (gT s)/\gU h'=eG l (gU h)
 |[],s,s',h,h',hh=>by cases hh;exact⟨rfl,rfl⟩
 |o::l,s,s',h,h',hh=>by
  simp only[Xw]at hh;simp only[fV,eG];split at hh
  .rename_i d z ha
   try rw[ha]
   try simp only
   split at hh
   case h_2=>cases hh
   rename_i s1 h1 e1 e2;rw[<-W_,<-SZ e1,<-UG e2];exact XF hh
  .rename_i ha
   try rw[ha]
   exact XF hh
theorem aaa{op:nj}{dst:Option Nat}{s s':TS}{h h':TH}(hr:Ug P call op dst s h=some (s',h')){K:aF->aK->Prop}(hk:K (gT s') (gU h')):jH P GI op dst K (gT s) (gU h):=by
 cases op
 case alloc t z=>
  simp only[Ug]at hr;split at hr
  case h_2=>cases hr
  simp only[afX]at hr;obtain⟨s1,h1,h2⟩:=hr;cases h2;simp only[jH];rw[<-SZ h1];exact hk
 case box=>cases hr
 case panic=>cases hr
 case other=>cases hr
 case call f args=>
  simp only[Ug]at hr;split at hr
  case isTrue=>cases hr
  rename_i hb;split at hr
  case h_2=>cases hr
  rename_i s1 h1 hs;cases hr;exact⟨by simpa using hb,Qu iN hs (r:=.go s' h') hk⟩
 case nP f args=>
  unfold Ug at hr;simp only at hr
  by_cases hb:(match ev (gT s) f with|.func _ first cap=>(first++args.map (ev (gT s))++cap).any du|_=>true)=true
  .rw[if_pos hb]at hr;cases hr
  .rw[if_neg hb]at hr;split at hr
   case h_2=>cases hr
   rename_i s1 h1 hs;cases hr;refine⟨?_,Qu iN hs (r:=.go s' h') hk⟩;generalize ev (gT s) f=q at hb
   cases q<;>first|exact absurd trivial hb|exact absurd rfl hb|(exact Bool.eq_false_iff.2 hb)
 all_goals
  simp only[Ug]at hr;split at hr
  case h_2=>cases hr
  rename_i s1 h1 hs;cases hr;exact Qu iN hs (r:=.go s' h') (Qp:=λ_=>False) hk
theorem Wv:∀{l:List fw}{s s':TS}{h h':TH},Xu P call l s h=some (s',h')->∀{K:aF->aK->Prop},K (gT s') (gU h')->eB P GI l K (gT s) (gU h)
 |[],s,s',h,h',hr,K,hk=>by cases hr;exact hk
 |o::l,s,s',h,h',hr,K,hk=>by
  simp only[Xu]at hr;simp only[eB];split at hr
  .rename_i hw;rw[hw];simp only;split at hr
   case h_2=>cases hr
   rename_i s1 h1 hs;exact aaa iN hs (Wv hr hk)
  .rename_i hw;rw[hw];simp only;split at hr
   case h_2=>cases hr
   rename_i s1 hs;rw[<-Xe hs];exact Wv hr hk
  .cases hr
theorem FL{m:Nat}:∀{c:af}{s s':TS}{h h':TH}{e:ft},Om P call m c s h=some (e,s',h')->∀{Q:ft->aF->aK->Prop},Q e (gT s') (gU h')->bO P GI c Q (gT s) (gU h)
 |.skip,s,s',h,h',e,hr,Q,hq=>by cases hr;exact hq
 |.ops l,s,s',h,h',e,hr,Q,hq=>by
  simp only[Om]at hr;simp only[bO]
  split at hr<;>cases hr
  .rename_i hs;exact Uj iN hs (r:=.go s' h') hq
  .rename_i v hs;exact Uj iN hs (r:=.panic v) hq
 |.eB l,s,s',h,h',e,hr,Q,hq=>by
  simp only[Om]at hr;simp only[bO];split at hr
  case h_2=>cases hr
  rename_i s1 h1 hp
  split at hr<;>cases hr
  rename_i hs;obtain⟨e1,e2⟩:=XF hp;rw[<-e1,<-e2];exact Wv iN hs hq
 |.seq x y,s,s',h,h',e,hr,Q,hq=>by
  simp only[Om]at hr;simp only[bO];split at hr
  .rename_i s1 h1 hx;exact FL hx (show cV _ _ _ _ _ from FL hr hq)
  .rename_i dO;refine FL hr ?_
   cases e with
   |normal=>exact absurd hr (dO _ _)
   |exit id=>exact hq
   |ret=>exact hq
   |panic v=>exact hq
 |.cond c x y,s,s',h,h',e,hr,Q,hq=>by
  simp only[Om]at hr;simp only[bO];split at hr
  .rename_i hc;rw[hc];exact FL hr hq
  .rename_i hc;rw[hc];exact FL hr hq
  .cases hr
 |.block id c,s,s',h,h',e,hr,Q,hq=>by
  simp only[Om]at hr;simp only[bO];split at hr
  .rename_i j s1 h1 hx;refine FL hx ?_;simp only[db];split at hr
   .rename_i hj;cases hr;rw[if_pos hj];exact hq
   .rename_i hj;cases hr;rw[if_neg hj];exact hq
  .rename_i dO;refine FL hr ?_
   cases e with
   |normal=>exact hq
   |exit j=>exact absurd hr (dO _ _ _)
   |ret=>exact hq
   |panic v=>exact hq
 |.loop c,s,s',h,h',e,hr,Q,hq=>by
  simp only[Om]at hr;simp only[bO]
  let p:aF->aK->Nat->Prop:=λS H k=>∃s h,gT s=S/\gU h=H/\YO (Om P call m c) k s h=some (e,s',h')
  refine⟨λS H=>∃k,p S H k,λS H=>least (p S H),⟨m,s,h,rfl,rfl,hr⟩,?_⟩;intro S H hI;obtain⟨⟨s1,h1,rfl,rfl,hl⟩,_⟩:=Y9 hI;generalize hk:least (p (gT s1) (gU h1))=k at hl
  cases k with
  |zero=>cases hl
  |succ k=>
   simp only[YO]at hl;split at hl
   .rename_i s2 h2 hb;refine FL hb ?_
    have hp:p (gT s2) (gU h2) k:=⟨s2,h2,rfl,rfl,hl⟩
    refine⟨⟨k,hp⟩,?_⟩;have:=(Y9 ⟨k,hp⟩).2 k hp;show least (p (gT s2) (gU h2))<least (p (gT s1) (gU h1));omega
   .rename_i dO;refine FL hl ?_
    cases e with
    |normal=>exact absurd hl (dO _ _)
    |exit id=>exact hq
    |ret=>exact hq
    |panic v=>exact hq
 |.exit id,s,s',h,h',e,hr,Q,hq=>by cases hr;exact hq
 |.ret,s,s',h,h',e,hr,Q,hq=>by cases hr;exact hq
 |.bad,s,s',h,h',e,hr,Q,hq=>by cases hr
end
noncomputable def Yy:TS->Nat->List AV->TS
 |s,_,[]=>s
 |s,i,v::vs=>Yy (s.P 4 i v.aI) (i+1) vs
theorem Y3:∀(args:List AV)(s:TS)(i:Nat),i+args.length<=256->gT (Yy s i args)=λt=>if t<i then gT s t else if t<i+args.length then(args.getD (t-i) cG).aI else gT s t
 |[],s,i,_=>by
  funext t
  simp only[Yy,List.length_nil,Nat.add_zero];split
  .rfl
  .rfl
 |v::vs,s,i,hl=>by
  simp only[List.length_cons]at hl;rw[Yy,Y3 vs _ (i+1) (by omega)]
  have hs:Oi s i v.aI=some (s.P 4 i v.aI):=by
   unfold Oi
   have:Nat.ble 256 i=false:=by
    cases h:Nat.ble 256 i with
    |false=>rfl
    |true=>have:=aiq h;omega
   rw[this];rfl
  rw[SZ hs]
  funext t
  by_cases h1:t<i
  .rw[if_pos (by omega),if_pos h1,cN _ _ (by omega)]
  .by_cases h2:t=i
   .subst h2;rw[if_pos (by omega),if_neg (by omega),if_pos (by simp),bm];simp
   .rw[if_neg (by omega),if_neg h1]
    by_cases h3:t<i+1+vs.length
    .rw[if_pos h3,if_pos (by simp;omega)]
     have:t-i=(t-(i+1))+1:=by omega
     rw[this];rfl
    .rw[if_neg h3,if_neg (by simp;omega),cN _ _ h2]
noncomputable def Xf(args:List AV):TS:=Yy (.lf cG) 0 args
theorem Y4(args:List AV)(h:args.length<=256):gT (Xf args)=start args:=by
 unfold Xf;rw[Y3 args _ 0 (by omega)]
 funext t
 simp only[ahX,afx,af6,start]
 by_cases ht:t<args.length
 .simp[ht]
 .have:args[t]?=none:=afn (by omega);simp only[ht,afx];unfold gT
  cases Nat.ble 256 t<;>simp[TT.acC,this,cG,AV.aI,ht]
theorem abp:gU (.lf none)=λ_=>none:=by
 funext t
 unfold gU
 cases Nat.ble 256 t<;>rfl
noncomputable def ZN(P:Program)(call:uU)(m:Nat)(fn:Dh)(args:List AV):Option eZ:=
 bif Nat.ble args.length fn.n&&Nat.ble args.length 256 then
  match Om P call m fn.code (Xf args) (.lf none)with
  |some (.normal,s,h)|some (.ret,s,h)=>(cw P fn.n fn.res (gT s) (gU h)).map .ret
  |some (.panic v,_,_)=>some (.panic v)
  |_=>none
 else none
noncomputable def runT(P:Program)(NZ:uU)(Uu:Nat->Option Dh)(m:Nat)(d:Nat):uU:=
 Nat.rec (motive:=λ_=>uU) (λ_ _=>none) (λ_ ih f args=>match Uu f with
  |some fn=>ZN P ih m fn args
  |none=>NZ f args) d
theorem Y6 {P:Program} {GI:World→Prop} (hG:au GI) (hm:P.follows .mixedOrders=true) {NZ:uU} {Uu:Nat→Option Dh} {m:Nat} (hp:∀ f args out,NZ f args=some out→AC P GI f args out) (ht:Tt P Uu) :
  ∀(d:Nat)(f:Nat)(args:List AV)(out:eZ),runT P NZ Uu m d f args=some out->AC P GI f args out
 |0,_,_,_,h=>by cases h
 |d+1,f,args,out,h=>by
  have h:(match Uu f with|some fn=>ZN P (runT P NZ Uu m d) m fn args|none=>NZ f args)=some out:=h;split at h
  case h_2=>exact hp _ _ _ h
  rename_i fn hf;obtain⟨F,c,h1,h2,h3,h4,h5⟩:=ht f fn hf;unfold ZN at h
  cases hb:(Nat.ble args.length fn.n&&Nat.ble args.length 256)with
  |false=>rw[hb]at h;cases h
  |true=>
  rw[hb]at h;simp only[cond_true]at h;rw[afa]at hb;have hl:=aiq hb.1;have tg:=aiq hb.2
  have hs:=λ(e:ft)(s:TS)(hh:TH)=>@FL P GI (runT P NZ Uu m d) (λf args out=>Y6 hG hm hp ht d f args out) m fn.code (Xf args) s (.lf none) hh e
  simp only[Y4 args tg,abp]at hs;refine AC.Oj hG hm h1 h2 h3 hl h5 ?_;rw[h4];split at h
  .rename_i s hh hc;simp only[afX]at h;obtain⟨v,hv,rfl⟩:=h;exact hs _ _ _ hc ⟨v,hv,rfl⟩
  .rename_i s hh hc;simp only[afX]at h;obtain⟨v,hv,rfl⟩:=h;exact hs _ _ _ hc ⟨v,hv,rfl⟩
  .rename_i v s hh hc;cases h;exact hs _ _ _ hc rfl
  .cases h
end Go.AL
namespace Go.AL
open Go.RowKit
def acp:nj->aF->aK->Option aT
 |.mv take x=>λS H=>if take then some { v:=ev S x,dm:=bu x }else some { v:=(ev S x).aI }
 |.pick c a b=>λS H=>match ev S c with
  |.bool t=>some { v:=(if t then ev S a else ev S b).aI }
  |_=>none
 |.build zero parts=>λS H=>(bC zero (parts.map λ(o,s,x)=>(o,s,ev S x))).map λcs=>{ v:=.agg cs }
 |.buildSlice _ e size parts=>λS H=>
  if aM size (parts.map (ev S))&&parts.length*size<=16777216 then some { v:=.slice (.own e) ((parts.map (ev S)).map AV.vw) }else none
 |.load hr agg size x=>λS H=>match ev S x with
  |.box i off=>if hr.okB i then match H i with
   |some cs=>(ck agg size (cs.drop off)).map λv=>{ v:=v }
   |none=>none
   else none
  |.ref cs=>(ck agg size cs).map λv=>{ v:=v }
  |_=>none
 |.loadT hr x=>λS H=>match ev S x with
  |.box i off=>if hr.okB i then match H i with
   |some cs=>match cs[off]? with
    |some v=>some { v:=v,hw:=some (i,cs.set off v.aI) }
    |none=>none
   |none=>none
   else none
  |_=>none
 |.store hr size x y=>λS H=>match ev S x with
  |.box i off=>if hr.okB i then match H i with
   |some cs=>if (ev S y).cells.length=size∧off+size≤cs.length∧(ev S y).storable=true then
     some { v:=cG,dm:=bu y,hw:=some (i,bo cs off (ev S y).cg) }else none
   |none=>none
   else none
  |_=>none
 |.bin op x y=>λS H=>(dI op (ev S x) (ev S y)).map λv=>{ v:=v }
 |.JI neg x y=>λS H=>match ev S x,ev S y with
  |.bool a,.bool b=>some { v:=.bool (if neg then a !=b else a==b) }
  |_,_=>none
 |.eqs neg k x y=>λS H=>match ev S x,ev S y with
  |.agg xs,.agg ys=>match wx xs,wx ys with
   |some a,some b=>if a.length=k/\b.length=k then some { v:=.bool (if neg then a !=b else a==b) }else none
   |_,_=>none
  |_,_=>none
 |.te ag len size x i=>λS H=>match ev S x,ev S i with
  |.agg cs,.int .i64 k=>if 0<=k/\k<len then(ck ag size (cs.drop (k.toNat*size))).map λv=>{ v:=v }else none
  |_,_=>none
 |.uz xs=>λS H=>if(xs.map (ev S)).all Hs then some { v:=.uL (xs.map (ev S)) }else none
 |.ux len x i=>λS H=>match ev S x,ev S i with
  |.uL fs,.int .i64 k=>if 0≤k∧k < len then match fs[k.toNat]? with
    |some v=>if Hs v then some { v:=v }else none
    |none=>none
   else none
  |_,_=>none
 |.Ef x=>λS H=>match ev S x with
  |.slice _ es=>(bytesOf es).map λl=>{ v:=.str l }
  |_=>none
 |.lookup k z x i=>λS H=>match ev S x,ev S i with
  |.map ks vs,.agg c=>match wx c with
   |some key=>if key.length=k then match rA key ks vs with
     |some (some v)=>some { v:=.d_ [v.aI,.bool true] }
     |some none=>some { v:=.d_ [z,.bool false] }
     |none=>none
    else none
   |none=>none
  |_,_=>none
 |.not x=>λS H=>match ev S x with
  |.bool b=>some { v:=.bool !b }
  |_=>none
 |.conv k x=>λS H=>match ev S x with
  |.int _ n=>some { v:=.int k (k.wrap n) }
  |_=>none
 |.iface t x=>λS H=>if(ev S x).storable then some { v:=.iface t (ev S x).vw }else none
 |.JU fn first cap=>λS H=>some { v:=.func fn (first.map λx=>(ev S x).aI) (cap.map λx=>(ev S x).aI) }
 |.uy x lo hi=>λS H=>match ev S x with
  |.str l=>match bound (lo.map (ev S)) 0,bound (hi.map (ev S)) l.length with
   |some a,some b=>if 0<=a/\a<=b/\b<=l.length then some { v:=.str ((l.take b.toNat).drop a.toNat) }else none
   |_,_=>none
  |_=>none
 |.uG len x=>λS H=>match ev S x with
  |.ref cs=>if cs.length=len then some { v:=.slice .view cs }else none
  |_=>none
 |.qz size x lo hi=>λS H=>match ev S x with
  |.slice _ es=>match bound (lo.map (ev S)) 0,bound (hi.map (ev S)) es.length with
   |some a,some b=>if 0<=a/\a<=b/\b<=es.length/\aM size es=true then some { v:=.slice .view ((es.take b.toNat).drop a.toNat) }else none
   |_,_=>none
  |_=>none
 |.fieldAddr off x=>λS H=>match ev S x with
  |.box i o=>some { v:=.box i (o+off) }
  |.ref cs=>some { v:=.ref (cs.drop off) }
  |_=>none
 |.indexAddr size x i=>λS H=>match ev S x,ev S i with
  |.slice _ es,.int .i64 k=>if 0≤k then match es[k.toNat]? with
    |some v=>if v.cells.length=size then some { v:=.ref v.cells }else none
    |none=>none
   else none
  |_,_=>none
 |.uw x i=>λS H=>match ev S x,ev S i with
  |.str l,.int .i64 k=>if 0≤k then match l[k.toNat]? with
    |some b=>some { v:=.int .u8 b.toNat }
    |none=>none
   else none
  |_,_=>none
 |.extract x i=>λS H=>match ev S x with
  |.d_ vs=>(vs[i]?).map λv=>{ v:=v.aI }
  |_=>none
 |.Eh x=>λS H=>match ev S x with
  |.str l=>some { v:=.int .i64 l.length }
  |_=>none
 |.lO x=>λS H=>match ev S x with
  |.slice _ es=>some { v:=.int .i64 es.length }
  |_=>none
 |.isNil neg x=>λS H=>match ev S x with
  |.slice _ es=>some { v:=if es.isEmpty then .JJ else .bool neg }
  |_=>none
 |.empty _=>λS H=>some { v:=.slice .nil [] }
 |.append _ e size _ x y=>λS H=>match ev S x,ev S y with
  |.slice .nil [],.slice _ ys=>if aM size ys&&ys.length<1048576 then some { v:=.slice (if ys.isEmpty then .nil else .own e) ys }else none
  |.slice (.own e') xs,.slice _ ys=>if e'=e/\(aM size ys&&aM size xs&&(xs.length+ys.length<1048576))=true then some { v:=.slice (.own e) (xs++ys),dm:=bu x }else none
  |_,_=>none
 |.max x y=>λS H=>match ev S x,ev S y with
  |.int .i64 a,.int .i64 b=>some { v:=.int .i64 (max a b) }
  |_,_=>none
 |.min x y=>λS H=>match ev S x,ev S y with
  |.int .i64 a,.int .i64 b=>some { v:=.int .i64 (min a b) }
  |_,_=>none
 |.assert t zero x=>λS H=>match ev S x with
  |.iface t' v=>some { v:=if t'=t then .d_ [v,.bool true]else .d_ [zero,.bool false] }
  |.Tv=>some { v:=.d_ [zero,.bool false] }
  |_=>none
 |_=>λS H=>none
theorem abP(S:aF)(H:aK)(op:nj):acp op S H=aL S H op:=by
 cases op<;>rfl
noncomputable def js:nj->(P:Program)->(call:uU)->(dst:Option Nat)->(s:TS)->(h:TH)->Option Xc
 |.alloc _ zero=>λ_ _ dst s h=>match dst with
  |some d=>match Oi (VG d s) d (.box d 0),Oi h d (some zero)with
   |some s',some h'=>some (.go s' h')
   |_,_=>none
  |none=>none
 |.box _ size x=>λ_ _ dst s h=>match dst with
  |some d=>if (ev (gT s) x).cells.length=size∧(ev (gT s) x).storable=true then
    match Oi (VG d s) d (.box d 0),Oi h d (some ((ev (gT s) x).cells.map AV.aI))with
    |some s',some h'=>some (.go s' h')
    |_,_=>none
   else none
  |none=>none
 |.call f args=>λP call dst s h=>match YP P call f (args.map λy=>fz (gU h) (ev (gT s) y)) (args.any λy=>du (ev (gT s) y))with
  |some out=>jt dst s h out
  |none=>none
 |.nP f args=>λP call dst s h=>match ev (gT s) f with
  |.func (.func k) first cap=>match YP P call k ((first++args.map (ev (gT s))++cap).map (fz (gU h))) ((first++args.map (ev (gT s))++cap).any du)with
   |some out=>jt dst s h out
   |none=>none
  |_=>none
 |.panic x=>λ_ _ _ s _=>match ev (gT s) x with
  |.iface t v=>some (.panic (.iface t v))
  |_=>none
 |op=>λ_ _ dst s h=>match acp op (gT s) (gU h)with
  |some e=>(acA e dst s h).map λ(s',h')=>.go s' h'
  |none=>none
theorem aaA(op:nj)(P:Program)(call:uU)(dst:Option Nat)(s:TS)(h:TH):js op P call dst s h=stepT P call op dst s h:=by
 cases op<;>first|rfl|(simp only[js,stepT,abP])
noncomputable def aai(P:Program)(call:uU)(l:List fw):TS->TH->Option Xc:=
 List.rec (motive:=λ_=>TS->TH->Option Xc) (λs h=>some (.go s h)) (λo _ ih s h=>match aD (gT s) o.guard with
  |some true=>match js o.op P call o.dst s h with
   |some (.go s' h')=>ih s' h'
   |r=>r
  |some false=>match Yv s o.dst cG with
   |some s'=>ih s' h
   |none=>none
  |none=>none) l
theorem abL(P:Program)(call:uU):∀(l:List fw)(s:TS)(h:TH),aai P call l s h=ZW P call l s h
 |[],_,_=>rfl
 |o::l,s,h=>by
  have e:aai P call (o::l) s h=(match aD (gT s) o.guard with
   |some true=>match js o.op P call o.dst s h with
    |some (.go s' h')=>aai P call l s' h'
    |r=>r
   |some false=>match Yv s o.dst cG with
    |some s'=>aai P call l s' h
    |none=>none
   |none=>none):=rfl
  rw[e];simp only[ZW,aaA,abL P call l]
  try rfl
noncomputable def Zi:nj->(P:Program)->(call:uU)->(dst:Option Nat)->(s:TS)->(h:TH)->Option (TS×TH)
 |.alloc _ _=>λ_ _ dst s h=>match dst with
  |some d=>(Oi s d (.box d 0)).map λs'=>(s',h)
  |none=>none
 |.box ..|.panic _|.other=>λ_ _ _ _ _=>none
 |.call f args=>λP call dst s h=>if(args.any λy=>du (ev (gT s) y))then none else match js (.call f args) P call dst s h with
  |some (.go s' h')=>some (s',h')
  |_=>none
 |.nP f args=>λP call dst s h=>if(match ev (gT s) f with|.func _ first cap=>(first++args.map (ev (gT s))++cap).any du|_=>true)then none else match js (.nP f args) P call dst s h with
  |some (.go s' h')=>some (s',h')
  |_=>none
 |op=>λP call dst s h=>match js op P call dst s h with
  |some (.go s' h')=>some (s',h')
  |_=>none
theorem acb(op:nj)(P:Program)(call:uU)(dst:Option Nat)(s:TS)(h:TH):Zi op P call dst s h=Ug P call op dst s h:=by
 cases op<;>first|rfl|(simp only[Zi,Ug,aaA])
noncomputable def YL(P:Program)(call:uU)(l:List fw):TS->TH->Option (TS×TH):=
 List.rec (motive:=λ_=>TS->TH->Option (TS×TH)) (λs h=>some (s,h)) (λo _ ih s h=>match aD (gT s) o.guard with
  |some true=>match Zi o.op P call o.dst s h with
   |some (s',h')=>ih s' h'
   |none=>none
  |some false=>match Yv s o.dst cG with
   |some s'=>ih s' h
   |none=>none
  |none=>none) l
theorem aan(P:Program)(call:uU):∀(l:List fw)(s:TS)(h:TH),YL P call l s h=Xu P call l s h
 |[],_,_=>rfl
 |o::l,s,h=>by
  have e:YL P call (o::l) s h=(match aD (gT s) o.guard with
   |some true=>match Zi o.op P call o.dst s h with
    |some (s',h')=>YL P call l s' h'
    |none=>none
   |some false=>match Yv s o.dst cG with
    |some s'=>YL P call l s' h
    |none=>none
   |none=>none):=rfl
  rw[e];simp only[Xu,acb,aan P call l]
  try rfl
abbrev W0:=TS->TH->Option (ft×TS×TH)
noncomputable def ZJ(body:W0)(k:Nat):W0:=
 Nat.rec (motive:=λ_=>W0) (λ_ _=>none) (λ_ ih s h=>match body s h with
  |some (.normal,s',h')=>ih s' h'
  |r=>r) k
theorem aas(body:W0):∀(k:Nat)(s:TS)(h:TH),ZJ body k s h=YO body k s h
 |0,_,_=>rfl
 |k+1,s,h=>by
  have e:ZJ body (k+1) s h=(match body s h with
   |some (.normal,s',h')=>ZJ body k s' h'
   |r=>r):=rfl
  rw[e];simp only[YO,aas body k]
  try rfl
noncomputable def codeF(P:Program)(call:uU)(m:Nat)(c:af):W0:=
 af.rec (motive:=λ_=>W0) (λs h=>some (.normal,s,h))
  (λl s h=>match aai P call l s h with
   |some (.go s' h')=>some (.normal,s',h')
   |some (.panic v)=>some (.panic v,s,h)
   |none=>none)
  (λl s h=>match Xw l s h with
   |some (s1,h1)=>match YL P call l s1 h1 with
    |some (s',h')=>some (.normal,s',h')
    |none=>none
   |none=>none)
  (λ_ _ ihx ihy s h=>match ihx s h with
   |some (.normal,s',h')=>ihy s' h'
   |r=>r)
  (λc _ _ ihx ihy s h=>match ev (gT s) c with
   |.bool true=>ihx s h
   |.bool false=>ihy s h
   |_=>none)
  (λid _ ih s h=>match ih s h with
   |some (.exit j,s',h')=>if j=id then some (.normal,s',h')else some (.exit j,s',h')
   |r=>r)
  (λ_ ih s h=>ZJ ih m s h)
  (λid s h=>some (.exit id,s,h))
  (λs h=>some (.ret,s,h))
  (λ_ _=>none) c
theorem codeF_eq(P:Program)(call:uU)(m:Nat):∀(c:af),codeF P call m c=Om P call m c
 |.skip=>rfl
 |.ops l=>by
  funext s h
  show(match aai P call l s h with
   |some (.go s' h')=>some (ft.normal,s',h')
   |some (.panic v)=>some (.panic v,s,h)
   |none=>none)=_
  rw[abL];rfl
 |.eB l=>by
  funext s h
  show(match Xw l s h with
   |some (s1,h1)=>match YL P call l s1 h1 with
    |some (s',h')=>some (ft.normal,s',h')
    |none=>none
   |none=>none)=_
  simp only[aan,Om]
  try rfl
 |.seq x y=>by
  funext s h
  show(match codeF P call m x s h with
   |some (.normal,s',h')=>codeF P call m y s' h'
   |r=>r)=_
  rw[codeF_eq P call m x,codeF_eq P call m y];rfl
 |.cond c x y=>by
  funext s h
  show(match ev (gT s) c with
   |.bool true=>codeF P call m x s h
   |.bool false=>codeF P call m y s h
   |_=>none)=_
  rw[codeF_eq P call m x,codeF_eq P call m y];rfl
 |.block id c=>by
  funext s h
  show(match codeF P call m c s h with
   |some (ft.exit j,s',h')=>if j=id then some (ft.normal,s',h')else some (ft.exit j,s',h')
   |r=>r)=_
  rw[codeF_eq P call m c];rfl
 |.loop c=>by
  funext s h
  show ZJ (codeF P call m c) m s h=_;rw[aas,codeF_eq P call m c];rfl
 |.exit id=>rfl
 |.ret=>rfl
 |.bad=>rfl
noncomputable def aaK(P:Program)(call:uU)(m:Nat)(fn:Dh)(args:List AV):Option eZ:=
 bif Nat.ble args.length fn.n&&Nat.ble args.length 256 then
  match codeF P call m fn.code (Xf args) (.lf none)with
  |some (.normal,s,h)|some (.ret,s,h)=>(cw P fn.n fn.res (gT s) (gU h)).map .ret
  |some (.panic v,_,_)=>some (.panic v)
  |_=>none
 else none
theorem ac2(P:Program)(call:uU)(m:Nat)(fn:Dh)(args:List AV):aaK P call m fn args=ZN P call m fn args:=by
 unfold aaK ZN;rw[codeF_eq]
 try rfl
noncomputable def UC(P:Program)(NZ:uU)(Uu:Nat->Option Dh)(m:Nat)(d:Nat):uU:=
 Nat.rec (motive:=λ_=>uU) (λ_ _=>none) (λ_ ih f args=>match Uu f with
  |some fn=>aaK P ih m fn args
  |none=>NZ f args) d
theorem abb(P:Program)(NZ:uU)(Uu:Nat->Option Dh)(m:Nat):∀d,UC P NZ Uu m d=AL.runT P NZ Uu m d
 |0=>rfl
 |d+1=>by
  funext f args
  show(match Uu f with|some fn=>aaK P (UC P NZ Uu m d) m fn args|none=>NZ f args)=_;rw[abb P NZ Uu m d];simp only[ac2]
  try rfl
theorem JB {P:Program} {GI:World→Prop} (hG:au GI) (hm:P.follows .mixedOrders=true) {NZ:uU} {Uu:Nat→Option Dh} {m:Nat} (hp:∀ f args out,NZ f args=some out→AC P GI f args out) (ht:Tt P Uu)
  (d:Nat) (f:Nat) (args:List AV) (out:eZ) (h:UC P NZ Uu m d f args=some out):AC P GI f args out:=by
 rw[abb]at h;exact Y6 hG hm hp ht d f args out h
section
variable{P:Program}{GI:World->Prop}{n:Nat}{S:aF}{H:aK}{a:Act}{w:World}{ro:Option Nat}{m:Nat}{Q:Exit->Act->World->Prop}
theorem Rel.adf (c:Nat→Nat→Prop) (bL:a.tmps.size=n) (ea:a.defers=[]) (hS:∀ t,t < n→(S t).aI=S t∧RV c cd w (S t) (a.tmps.getD t undef)) :
  Rel P w n dU { base:=w.heap.size,old:=Old.plain c w,al:=cd,hi:=λ_=>0,owner:=λ_=>none } S (λ_=>none) a w:={
 size:=bL
 defers:=ea
 facts _ h:=by cases h
 slot t ht _:=(hS t ht).2.mono (bz.same λb k aw hp=>.inl ⟨aw,hp⟩) (λ_ _ h=>h)
 own t ht _:=by rw[<-(hS t ht).1];exact A2.aI
 box i b h:=by cases h
 Cf i cs h:=by cases h
 BB i _:=rfl
 inj i j b h:=by cases h
 base:=rfl
 below:=aga _ _
 fresh b _:=⟨rfl,rfl⟩
 still:=⟨λ_ _ h=>h.elim,λ_ h=>h.elim⟩
 grown:=afg _
 kept _ _ h:=by cases h }
theorem aW {ops:Array Oper} {i:Nat} {rest:List Nat} {o:Oper} (ho:ops[i]? = some o) (hg:o.guard=none) (l7:wN o.op=true) {v:Value} {w':World}
  (hr:(execOp a.eval o).run P w=.ok (.value v) w') (hk:wpOpsIn (FR ro) m P ops Q rest (a.put o.dst v) w'):wpOpsIn (FR ro) m P ops Q (i::rest) a w:=by
 simp only[wpOpsIn,ho]
 have:Region.wanted o (yielded ops a.tmps)=true:=by simp[Region.wanted,hg]
 rw[if_pos this];refine⟨λ_ _=>trivial,?_⟩;rw[ah6 _ _ _ (λc hc=>by rw[hc]at l7;cases l7),hr];exact hk
theorem dk {ops:Array Oper} {i:Nat} {rest:List Nat} {o:Oper} (ho:ops[i]? = some o) (hg:o.guard=none) (l7:wN o.op=true) {w':World}
  (hr:(execOp a.eval o).run P w=.ok .skip w') (hk:wpOpsIn (FR ro) m P ops Q rest (a.put o.dst undef) w'):wpOpsIn (FR ro) m P ops Q (i::rest) a w:=by
 simp only[wpOpsIn,ho]
 have:Region.wanted o (yielded ops a.tmps)=true:=by simp[Region.wanted,hg]
 rw[if_pos this];refine⟨λ_ _=>trivial,?_⟩;rw[ah6 _ _ _ (λc hc=>by rw[hc]at l7;cases l7),hr];exact hk
theorem eS {ops:Array Oper} {i:Nat} {rest:List Nat} {o:Oper} (ho:ops[i]? = some o) (hg:o.guard=none) (l7:wN o.op=true) {f:Nat} {args:Array Value} {w':World}
  (hr:(execOp a.eval o).run P w=.ok (.enter f args) w') {R:Ending->World->Prop} (hc:Calls P f args w' R) (hk:∀e yT,R e yT->∃v,e=.returned v/\wpOpsIn (FR ro) m P ops Q rest (a.put o.dst v) yT):wpOpsIn (FR ro) m P ops Q (i::rest) a w:=by
 simp only[wpOpsIn,ho]
 have:Region.wanted o (yielded ops a.tmps)=true:=by simp[Region.wanted,hg]
 rw[if_pos this];refine⟨λ_ _=>trivial,?_⟩;rw[ah6 _ _ _ (λc hc=>by rw[hc]at l7;cases l7),hr];refine⟨λh=>by simp[FR,Fence.wide]at h,lR.2 (hc.mono λe yT hh=>?_)⟩;obtain⟨v,rfl,h⟩:=hk e yT hh;exact h
theorem JA {ops:Array Oper} {i:Nat} {rest:List Nat} {o:Oper} (ho:ops[i]? = some o) (hg:o.guard=none) (l7:wN o.op=true) {l f:Nat} {tmps:Array Value} {XE bd:Code} {w':World}
  (hr:(execOp a.eval o).run P w=.ok (.round l f tmps XE bd) w') {R:Ending->World->Prop} (hc:∀m,RoundIn (FR none) m P l f tmps XE bd w' R) (hk:∀e yT,R e yT->∃v,e=.returned v/\wpOpsIn (FR none) m P ops Q rest (a.put o.dst v) yT):wpOpsIn (FR none) m P ops Q (i::rest) a w:=by
 simp only[wpOpsIn,ho]
 have:Region.wanted o (yielded ops a.tmps)=true:=by simp[Region.wanted,hg]
 rw[if_pos this];refine⟨λ_ _=>trivial,?_⟩;rw[ah6 _ _ _ (λc hc=>by rw[hc]at l7;cases l7),hr];refine⟨λh=>by simp[FR,Fence.wide]at h,(hc (m-1)).mono λe yT hh=>?_⟩;obtain⟨v,rfl,h⟩:=hk e yT hh;exact h
def adj(K:Act->World->Prop)(Q:Exit->Act->World->Prop):Exit->Act->World->Prop
 |.normal,a,w=>K a w
 |e,a,w=>Q e a w
theorem acg{F:Fence}{o:Oper}{K K':Act->World->Prop}(h:o.wpIn F m P a w K' (adj K Q)):o.wpIn F m P a w K' Q:=by
 unfold Oper.wpIn at*
 refine⟨h.1,?_⟩;have h2:=h.2
 generalize(o.semAt F.round a.eval).run P w=r at*
 cases r with
 |ok x w'=>
  cases x<;>simp only[Oper.uponIn]at h2⊢<;>first
   |exact h2
   |exact⟨h2.1,aiM h2.2 (λe yT he=>by cases e<;>exact he)⟩
   |exact⟨h2.1,aiS h2.2 (λ_ _ he=>he)⟩
   |exact⟨h2.1,aiN h2.2 (λe yT he=>by cases e<;>exact he)⟩
 |halt x w'=>cases x<;>simp only[Oper.uponIn]at h2⊢<;>exact h2
def XL(ops:Array Oper):Nat->Nat->Array Bool->Bool
 |0,_,listed=>Region.ready .any ops listed==[]
 |k+1,i,listed=>Region.ready .any ops listed==[i]&&XL ops k (i+1) (listed.setIfInBounds i true)
def Z2(ops:Array Oper)(p:Nat):Nat->Array Bool->Array Bool->Bool
 |0,la,l=>(Region.ready .any (ops.extract 0 p) la==[])&&XL ops (ops.size-p) p l
 |k+1,la,l=>let r:=Region.ready .any ops l
  r !=[]&&r==Region.ready .any (ops.extract 0 p) la&&r.all (λi=>decide (i<p)&&Z2 ops p k (la.setIfInBounds i true) (l.setIfInBounds i true))
def cutAt(ops:Array Oper)(p:Nat):Bool:=
 decide (p<=ops.size)&&ops.all (λo=>o.guard.isNone)&&Z2 ops p p (Array.replicate p false) (Array.replicate ops.size false)
theorem Xr{F:Fence}{ops:Array Oper}(hg:ops.all (λo=>o.guard.isNone)=true):∀(k i:Nat)(l:Array Bool)(a:Act)(w:World),XL ops k i l=true->wpOpsIn F m P ops Q (List.range' i k) a w->wpAnyIn F m P .any ops Q k l a w
 |0,i,l,a,w,h,hh=>⟨by simpa[XL]using h,hh⟩
 |k+1,i,l,a,w,h,hh=>by
  simp only[XL,afa,afY]at h;refine⟨λhr=>(by rw[hr]at h;cases h.1),λj hj=>?_⟩;rw[h.1,afs]at hj;subst hj;simp only[agr]at hh;rw[wpOpsIn_cons]at hh;exact wpOpIn_mono (λa w hq=>Xr hg k _ _ a w h.2 hq) hh
theorem VT {F:Fence} {ops:Array Oper} {p:Nat} (hp:p≤ops.size) (hg:ops.all (fun o=>o.guard.isNone)=true):∀ (k:Nat) (la l:Array Bool) (a:Act) (w:World),Z2 ops p k la l=true →
  wpAnyIn F m P .any (ops.extract 0 p) (adj (wpOpsIn F m P ops Q (List.range' p (ops.size-p))) Q) k la a w->wpAnyIn F m P .any ops Q (k+(ops.size-p)) l a w
 |0,la,l,a,w,h,hh=>by
  simp only[Z2,afa]at h;rw[af6];exact Xr hg _ _ _ a w h.2 hh.2
 |k+1,la,l,a,w,h,hh=>by
  simp only[Z2,afa,ah9,ne_eq,afY,afC,aff]at h;obtain⟨⟨h1,h2⟩,h3⟩:=h;rw[show k+1+(ops.size-p)=(k+(ops.size-p))+1 by omega];refine⟨λhr=>absurd hr h1,λi hi=>?_⟩
  have gq:i∈Region.ready .any (ops.extract 0 p) la:=by rw[<-h2];exact hi
  obtain⟨Ut,hc⟩:=h3 i hi;have hs:=hh.2 i gq;unfold wpOpIn at hs⊢
  have jy:(ops.extract 0 p)[i]?=ops[i]?:=by
   rw[aiK]
   have:i<min p ops.size-0:=by omega
   rw[if_pos this,af6]
  rw[jy]at hs
  cases ho:ops[i]? with
  |none=>rw[ho]at hs;exact VT hp hg k _ _ a w hc hs
  |some o=>
   rw[ho]at hs
   have nq:o.guard=none:=by
    have:=aip.1 hg o (ahM ho);simpa using this
   have hw:∀y,Region.wanted o y=true:=λy=>by simp[Region.wanted,nq]
   simp only[hw,afH]at hs⊢;exact aiQ (λa w hq=>VT hp hg k _ _ a w hc hq) (acg hs)
theorem acZ (hm:P.follows .mixedOrders=true) {F:Fence} {id:Nat} {ops:Array Oper} {p:Nat} (h:cutAt ops p=true)
  (hh:wpAnyIn F m P .any (ops.extract 0 p) (adj (wpOpsIn F m P ops Q (List.range' p (ops.size-p))) Q) p (Array.replicate p false) a { w with drawn:=w.drawn+1 }):(Code.region id ops true).wpIn F m P Q a w:=by
 simp only[cutAt,afa,aff]at h;refine aid hm ?_;have:=VT h.1.1 h.1.2 p _ _ a _ h.2 hh;rwa [show p+(ops.size-p)=ops.size by omega]at this
theorem ET{F:Fence}{md:Region.Mode}{ops:Array Oper}{Q':Exit->Act->World->Prop}(hQ:∀e a w,Q e a w->Q' e a w):∀(fuel:Nat)(l:Array Bool)(a:Act)(w:World),wpAnyIn F m P md ops Q fuel l a w->wpAnyIn F m P md ops Q' fuel l a w
 |0,_,_,_,h=>⟨h.1,hQ _ _ _ h.2⟩
 |k+1,l,a,w,h=>⟨fun hr=>hQ _ _ _ (h.1 hr),fun i hi=>by
   have hs:=h.2 i hi;unfold wpOpIn at hs⊢
   cases ho:ops[i]? with
   |none=>rw[ho]at hs;exact ET hQ k _ a w hs
   |some o=>
    rw[ho]at hs;simp only at hs⊢;split
    .rename_i hw;rw[if_pos hw]at hs;have hs:=aiQ (λa w hq=>ET hQ k _ a w hq) hs
     unfold Oper.wpIn at*
     refine⟨hs.1,?_⟩;have h2:=hs.2
     generalize(o.semAt F.round a.eval).run P w=r at*
     cases r with
     |ok x w'=>
      have EG:LetsOut Q->LetsOut Q':=λ⟨a,w,h⟩=>⟨a,w,hQ _ _ _ h⟩
      cases x<;>simp only[Oper.uponIn]at h2⊢<;>first
       |exact h2
       |exact⟨h2.1,aiM h2.2 (λe yT he=>by cases e<;>first|exact he|exact hQ _ _ _ he|exact EG he)⟩
       |exact⟨h2.1,aiS h2.2 (λ_ _ he=>he)⟩
       |exact⟨h2.1,aiN h2.2 (λe yT he=>by cases e<;>first|exact he|exact hQ _ _ _ he|exact EG he)⟩
     |halt x w'=>cases x<;>simp only[Oper.uponIn]at h2⊢<;>first|exact h2|exact hQ _ _ _ h2
    .rename_i hw;rw[if_neg hw]at hs
     exact⟨hs.1,ET hQ k _ _ w hs.2⟩⟩
end
def rr(Pr:Nat->Nat->Prop)(w:World)(size:Nat)(es:List AV)(xs:List Value):Prop:=
 (∀x∈es,x.cells.length=size/\x.storable=true/\∀c∈x.cells,c.one=true)/\∀j (h:j<es.length) k (hk:k<(es[j]).cells.length),∃u,xs[j*size+k]?=some u/\RD Pr w ((es[j]).cells[k]) u
theorem rr.mono{Pr fl:Nat->Nat->Prop}{w w':World}{size:Nat}{es:List AV}{xs:List Value}(h:rr Pr w size es xs)(hk:bz Pr fl w w'):rr fl w' size es xs:=
 ⟨h.1,λj hj k JQ=>let⟨u,h1,h2⟩:=h.2 j hj k JQ;⟨u,h1,h2.mono hk⟩⟩
theorem RD.ofRow {Pr:Nat→Nat→Prop} {w:World} {base:Nat} {e:TypeId} {size:Nat} {v:Value} {es:List AV} {xs:List Value} (h_:w.ownsRow base e size v es.length xs) (hf:rr Pr w size es xs)
  (K5:∀b,v.ownBlock=some b->∀k,k<es.length*size->Pr b k):RD Pr w (.slice .view es) v:=by
 rcases h_.2 with⟨rfl,hn⟩|⟨g,cap,cur,rfl,uq,hg,hnc,CA,IQ,YF⟩
 .have:es=[]:=afR hn;subst this;exact .qw _
 .refine .slice _ es g 0 cap size (λk=>xs.getD k undef) hnc (λh=>by cases h) (λi h=>(hf.1 _ (ae_ h)).1) (λi h j hj=>(hf.1 _ (ae_ h)).2.2 _ (ae_ hj)) (λk hk=>⟨?_,?_⟩) (λi h j hj=>?_)
  .rw[af6];exact K5 g rfl k hk
  .have aw:k<xs.length:=by rw[h_.1];exact hk
   have:=h_.cells (g:=g) rfl k _ (ae9 aw);rw[ahn]at this;simp only[afA,ae9 aw,Option.getD_some];exact this
  .obtain⟨u,h1,h2⟩:=hf.2 i h j hj;simpa[h1]using h2
theorem RD.aec{Pr:Nat->Nat->Prop}{w:World}{o:Ow}{es:List AV}{c:Value}(h:RD Pr w (.slice o es) c)(e:TypeId):RD Pr w (.slice (.own e) es) c:=by
 cases h with
 |qw=>exact .qw _
 |sF _ a=>exact .sF _ a
 |slice _ _ b off cap size cs iV hn bL h1 hc hr=>exact .slice _ es b off cap size cs iV (λh=>by cases h) bL h1 hc hr
def tT(e:TypeId)(v:Value)(es:List AV):AV:=match v.ownBlock with
 |some _=>.slice (.own e) es
 |none=>.slice .nil []
theorem RD.NR{Pr fl:Nat->Nat->Prop}{w:World}{o:Ow}{c:Value}(h:RD Pr w (.slice o []) c):RD fl w (.slice .view []) c:=by
 cases h with
 |qw=>exact .qw _
 |sF _ a=>exact .sF _ a
 |slice _ _ b off cap size cs iV hn bL h1 hc hr=>exact .slice _ [] b off cap size cs iV (λh=>by cases h) (λi h=>by simp at h) (λi h=>by simp at h) (λk h=>by simp at h) (λi h=>by simp at h)
theorem rr.ab8 {Pr:Nat→Nat→Prop} {w:World} {base:Nat} {e:TypeId} {size:Nat} {o:Ow} {c:Value} {es:List AV} {xs:List Value} (hr:RD Pr w (.slice o es) c) (h_:w.ownsRow base e size c es.length xs)
  (sk:∀x∈es,x.cells.length=size/\x.storable=true/\∀c∈x.cells,c.one=true) (PT:∀x∈es,∀c∈x.cells,jA c=true):rr (λ_ _=>False) w size es xs:=by
 refine⟨sk,λj hj k hk=>?_⟩
 rcases hr.Pb size (by simp only[aM,afC,afa,afY];exact λx hx=>⟨(sk x hx).2.1,(sk x hx).1⟩)with⟨rfl,_⟩|⟨b2,off,cap,news,ER,hl,hn,pV,Ob⟩
 .simp at hj
 .obtain⟨u,u1,u2⟩:=Ob j hj k hk;refine⟨u,?_,u2.jA (PT _ (ae_ hj) _ (ae_ hk))⟩
  have aw:j*size+k<xs.length:=by
   rw[h_.1,<-hl];exact(af0.1 u1).1
  rcases h_.2 with⟨Xm,h0⟩|⟨gg,abn,cur,SV,_⟩
  .rw[afR h0]at hj;simp at hj
  .have e1:=h_.cells (g:=gg) (by rw[SV];rfl) _ _ (ae9 aw);have e2:=hn _ _ u1;rw[SV]at ER;cases ER;rw[ahn,af6]at e1;rw[af6]at e2;rw[e2]at e1;rw[ae9 aw,afo e1]
section
variable{P:Program}{n:Nat}{S:aF}{a:Act}{w:World}
def Pc(pr:Nat->Nat->Prop)(w:World)(bN:Nat)(v:Value):Old:=
 { c:=pr,facts:=[],bx:=λ_=>False,ds:=[],bI:=λb=>if bN<b/\v.ownBlock≠some b then w.heap[b]? else none,sp:=λ_ _=>False,sw:=w,ok:=λ_ h=>by cases h }
theorem Rel.stack (pr:Nat→Nat→Prop) {bN nm:Nat} {v:Value} {e ty:TypeId} {i:TypeInfo} {es:List AV} {xs:List Value} (bL:a.tmps.size=n) (ea:a.defers=[])
  (hN:w.heap[bN]?=some (.cells #[v] ty (0,0))) (hi:P.info? e=some i) (h_:w.ownsRow (bN+1) e i.size v es.length xs) (hf:rr (λb k=>b<bN/\pr b k) w i.size es xs)
  (hS:∀t,t<n->(S t).aI=S t/\((S t=.box nm 0/\a.tmps.getD t undef=.pointer (some ⟨bN,0,none⟩))\/RV (λb k=>b<bN/\pr b k) cd w (S t) (a.tmps.getD t undef))):
  ∃g,g.old=Pc pr w bN v/\g.base=bN/\g.al=(λj=>if j=nm then some bN else none)/\
   Rel P { w with heap:=w.heap.extract 0 bN } n dU g S (λj=>if j=nm then some [tT e v es]else none) a w:=by
 have aw:=(afe.1 hN).1
 let g:Gh:={ base:=bN,old:=Pc pr w bN v,al:=λj=>if j=nm then some bN else none,hi:=λb=>if v.ownBlock=some b then es.length*i.size else 0,owner:=λb=>if v.ownBlock=some b then some (.cell nm 0)else none }
 have T6:∀b k,b<bN/\pr b k->g.Pr b k:=λb k h=>.inl h
 have Tn:∀b,v.ownBlock=some b->bN<b/\b<w.heap.size:=λb hb=>h_.lt b hb
 have Zx:v.ownBlock≠some bN:=λh=>by have:=Tn _ h;omega
 have pV:v.oneCell'=true:=by
  rcases h_.2 with⟨rfl,_⟩|⟨_,_,_,rfl,_⟩<;>rfl
 have jX:RD g.Pr w (tT e v es) v:=by
  unfold tT
  rcases h_.2 with⟨rfl,hn⟩|⟨gg,cap,cur,rfl,uq,hg,hnc,CA,IQ,YF⟩
  .exact .qw _
  .simp only[Value.ownBlock]
   have h1:RD g.Pr w (.slice .view es) (.slice (some ⟨gg,0,none⟩) es.length cap):=RD.ofRow h_ (hf.mono (bz.same λb k _ h=>T6 b k h)) (λb hb k hk=>by
    refine .inr ⟨by have:=(Tn b hb).1;show bN<=b;omega,?_⟩;show k<(if _=some b then es.length*i.size else 0)
    rw[if_pos hb];exact hk)
   exact h1.aec e
 refine⟨g,rfl,rfl,rfl,{ size:=bL,defers:=ea,facts:=λ_ h=>(by cases h),slot:=?_,own:=?_,box:=?_,Cf:=?_,BB:=λi h=>h.elim,inj:=?_,base:=?_,below:=?_,fresh:=?_,still:=⟨λ_ _ h=>h.elim,λ_ h=>h.elim⟩,grown:=afg _,kept:=?_ }⟩
 .intro t ht _;rcases(hS t ht).2 with⟨h1,h2⟩|h
  .rw[h1,h2];exact .box _ _ _ (by simp[g])
  .exact h.mono (bz.same λb k _ h=>T6 b k h) (λ_ _ h=>by cases h)
 .intro t ht _;rw[<-(hS t ht).1];exact A2.aI
 .intro j b hj
  by_cases HA:j=nm
  .subst HA
   have hb:b=bN:=by simpa[g]using hj.symm
   subst hb;refine⟨[tT e v es],#[v],ty,by simp,afg _,hN,by simp[g,Zx],by simp[g,Zx],rfl,λk hk ee=>?_,λk hk ee=>?_,λk hk=>?_⟩
   .have:k=0:=by simpa using hk
    subst this;exact jX
   .have:k=0:=by simpa using hk
    subst this;simp only[List.getElem_cons_zero,List.getElem_toArray];unfold tT
    cases A4:v.ownBlock with
    |none=>trivial
    |some b'=>
     refine⟨i,xs,b',hi,?_,A4,by simp[g,A4],by simp[g,A4]⟩;refine⟨h_.1,?_⟩
     rcases h_.2 with h|⟨gg,cap,cur,rfl,uq,rest⟩
     .exact .inl h
     .exact .inr ⟨gg,cap,cur,rfl,agu (Nat.le_succ _) uq,rest⟩
   .have:k=0:=by simpa using hk
    subst this;simp only[List.getElem_cons_zero];unfold tT
    cases v.ownBlock<;>rfl
  .simp[g,HA]at hj
 .intro j cs hj _
  by_cases HA:j=nm
  .subst HA;simp[g]
  .simp[HA]at hj
 .intro j k b hj hk
  by_cases HA:j=nm<;>by_cases uv:k=nm
  .rw[HA,uv]
  .simp[g,uv]at hk
  .simp[g,HA]at hj
  .simp[g,HA]at hj
 .show bN=(w.heap.extract 0 bN).size;simp;omega
 .refine⟨rfl,rfl,rfl,by simp;omega,λk hk=>?_⟩;have ee:k<bN:=hk;show w.heap[k]?=(w.heap.extract 0 bN)[k]?;rw[aiK,if_pos (by omega),af6]
 .intro b hb
  have:v.ownBlock≠some b:=λh=>by have:=Tn b h;omega
  simp[g,this]
 .intro b o h;simp only[g,Pc]at h;split at h
  case isFalse=>cases h
  rename_i hc;refine⟨by show bN<=b;omega,h,by simp[g,hc.2],by simp[g,hc.2],λj hj=>?_⟩
  by_cases HA:j=nm
  .simp[g,HA]at hj;omega
  .simp[g,HA]at hj
theorem Rel.acH {w0 w':World} {g':Gh} {S':aF} {H':aK} {a':Act} (pr:Nat→Nat→Prop) {bN nm:Nat} {v:Value} {e:TypeId} {i:TypeInfo} {es':List AV} (hi:P.info? e=some i)
  (R:Rel P w0 n dU g' S' H' a' w') (hold:g'.old=Pc pr w bN v) (oL:g'.base=bN) (AN:∀b,b<bN->w0.heap[b]?=w.heap[b]?) (sC:g'.al nm=some bN) (hH:H' nm=some [.slice (.own e) es'])
  (sk:∀x∈es',x.cells.length=i.size/\x.storable=true/\∀c∈x.cells,c.one=true) (PT:∀x∈es',∀c∈x.cells,jA c=true):
  ∃v' MC yx,w'.heap[bN]?=some (.cells #[v'] MC (0,0))/\w'.ownsRow (bN+1) e i.size v' es'.length yx/\rr (λ_ _=>False) w' i.size es' yx/\
   (∀b,b<w.heap.size->b≠bN->v.ownBlock≠some b->w'.heap[b]?=w.heap[b]?)/\∀b,v'.ownBlock=some b->v.ownBlock=some b\/w.heap.size<=b:=by
 obtain⟨cs,vs,ty,h1,h2,h3,h4,h5,h6,h7,h8,h9⟩:=R.box nm bN sC;rw[hH]at h1;cases h1;have AK:vs.size=1:=h6.symm
 obtain⟨v',Dn⟩:∃v',vs=#[v']:=⟨vs[0],by
  apply agp
  .simpa using AK
  .intro j hj fj
   have:j=0:=by omega
   subst this;rfl⟩
 subst Dn;have hr:=h7 0 (by simp) (by simp);have ho:=h8 0 (by simp) (by simp);simp only[List.getElem_cons_zero,List.getElem_toArray]at hr ho;obtain⟨i',xs,b,k1,k2,k3,k4,k5⟩:=ho;rw[hi]at k1;cases k1
 have dO:b≠bN:=by
  rintro rfl;rw[h5]at k4;cases k4
 refine⟨v',ty,xs,h3,?_,⟨sk,λj hj k hk=>?_⟩,λb' vn HU hbv=>?_,λb' vn=>?_⟩
 .refine⟨k2.1,?_⟩
  rcases k2.2 with h|⟨gg,cap,cur,rfl,uq,rest⟩
  .exact .inl h
  .have:gg=b:=by simpa[Value.ownBlock]using k3
   subst this;exact .inr ⟨gg,cap,cur,rfl,by rw[oL]at uq;omega,rest⟩
 .rcases hr.Pb i.size (by simp only[aM,afC,afa,afY];exact λx hx=>⟨(sk x hx).2.1,(sk x hx).1⟩)with⟨rfl,_⟩|⟨b2,off,cap,news,ER,hl,hn,pV,Ob⟩
  .simp at hj
  .obtain⟨u,u1,u2⟩:=Ob j hj k hk;refine⟨u,?_,u2.jA (PT _ (ae_ hj) _ (ae_ hk))⟩
   have aw:j*i.size+k<xs.length:=by
    rw[k2.1,<-hl];exact(af0.1 u1).1
   have e1:=k2.cells k3 _ _ (ae9 aw);have e2:=hn _ _ u1
   rcases k2.2 with⟨Xm,_⟩|⟨gg,abn,cur,SV,_⟩
   .rw[Xm]at k3;cases k3
   .rw[SV]at ER k3
    have Hg:gg=b:=by simpa[Value.ownBlock]using k3
    subst Hg;cases ER;rw[ahn,af6]at e1;rw[af6]at e2;rw[e2]at e1;rw[ae9 aw,afo e1]
 .rcases ahB b' bN with aw|EE
  .have:=R.below.block b' (by rw[oL];exact aw);rw[this];exact AN b' aw
  .have JZ:g'.old.bI b'=w.heap[b']? := by
    rw[hold];simp only[Pc];rw[if_pos ⟨by omega,hbv⟩]
   have:w.heap[b']?=some (w.heap[b']):=by simp[vn]
   rw[this]at JZ;rw[(R.kept b' _ JZ).2.1,this]
 .rw[k3]at vn;cases vn;rcases ahB b w.heap.size with aw|EE
  .by_cases hbv:v.ownBlock=some b
   .exact .inl hbv
   .exfalso
    have Ju:bN<=b:=by
     have:=(k2.lt b k3).1;rw[oL]at this;exact this
    have JZ:g'.old.bI b=w.heap[b]?:=by
     rw[hold];simp only[Pc];rw[if_pos ⟨by omega,hbv⟩]
    have:w.heap[b]?=some (w.heap[b]):=by simp[aw]
    rw[this]at JZ;have:=(R.kept b _ JZ).2.2.2.1;rw[k4]at this;cases this
  .exact .inr EE
end
section
variable{P:Program}{GI:World->Prop}{n:Nat}{S:aF}{H:aK}{a:Act}{w:World}{ro:Option Nat}{m:Nat}{Q Q':Exit->Act->World->Prop}{F:Fence}
theorem RP{o:Oper}{K K':Act->World->Prop}(hK:∀a w,K a w->K' a w)(hQ:∀e a w,e≠.normal->Q e a w->Q' e a w)(hs:o.wpIn F m P a w K Q):o.wpIn F m P a w K' Q':=by
 have hs:=aiQ hK hs
 unfold Oper.wpIn at*
 refine⟨hs.1,?_⟩;have h2:=hs.2
 generalize(o.semAt F.round a.eval).run P w=r at*
 have EG:LetsOut Q->LetsOut Q':=λ⟨a,w,h⟩=>⟨a,w,hQ _ _ _ (by simp) h⟩
 cases r with
 |ok x w'=>
  cases x<;>simp only[Oper.uponIn]at h2⊢<;>first
   |exact h2
   |exact⟨h2.1,aiM h2.2 (λe yT he=>by cases e<;>first|exact he|exact hQ _ _ _ (by simp) he|exact EG he)⟩
   |exact⟨h2.1,aiS h2.2 (λ_ _ he=>he)⟩
   |exact⟨h2.1,aiN h2.2 (λe yT he=>by cases e<;>first|exact he|exact hQ _ _ _ (by simp) he|exact EG he)⟩
 |halt x w'=>cases x<;>simp only[Oper.uponIn]at h2⊢<;>first|exact h2|exact hQ _ _ _ (by simp) h2
theorem ES{ops:Array Oper}(hQ:∀e a w,Q e a w->Q' e a w):∀(l:List Nat)(a:Act)(w:World),wpOpsIn F m P ops Q l a w->wpOpsIn F m P ops Q' l a w
 |[],a,w,h=>hQ _ _ _ h
 |i::l,a,w,h=>by
  simp only[wpOpsIn]at h⊢
  cases ho:ops[i]? with
  |none=>simp only[ho]at h⊢;exact ES hQ l a w h
  |some o=>
   simp only[ho]at h⊢;split
   .rename_i hw;rw[if_pos hw]at h;exact RP (λa w hh=>ES hQ l a w hh) (λe a w _ hh=>hQ e a w hh) h
   .rename_i hw;rw[if_neg hw]at h;exact⟨h.1,ES hQ l _ w h.2⟩
def fC(W:Nat->Bool)(a a':Act):Prop:=∀t,W t=false->a'.tmps.getD t undef=a.tmps.getD t undef
theorem fC.refl(W:Nat->Bool)(a:Act):fC W a a:=λ_ _=>rfl
theorem fC.trans{W:Nat->Bool}{a a' a'':Act}(h:fC W a a')(h':fC W a' a''):fC W a a'':=λt ht=>(h' t ht).trans (h t ht)
theorem fC.put{W:Nat->Bool}{a:Act}{d:Option Nat}(hd:∀t,d=some t->W t=true)(v:Value):fC W a (a.put d v):=by
 intro t ht
 cases d with
 |none=>rfl
 |some k=>
  have:t≠k:=by rintro rfl;rw[hd t rfl]at ht;cases ht
  simp[Act.put,afb (afQ this)]
theorem Um{W:Nat->Bool}{o:Oper}{K:Act->World->Prop}(hd:∀t,o.dst=some t->W t=true)(h:o.wpIn F m P a w K Q):o.wpIn F m P a w (λa' w'=>K a' w'/\fC W a a') Q:=by
 unfold Oper.wpIn at*
 refine⟨h.1,?_⟩;have h2:=h.2
 generalize(o.semAt F.round a.eval).run P w=r at*
 cases r with
 |ok x w'=>
  cases x<;>simp only[Oper.uponIn]at h2⊢<;>first
   |exact⟨h2,fC.put hd _⟩
   |exact⟨h2,(fC.put (a:={ a with defers:=_ }) hd _:fC W { a with defers:=_ } _)⟩
   |exact⟨h2.1,aiM h2.2 (λe yT he=>by cases e<;>first|exact⟨he,fC.put hd _⟩|exact he)⟩
   |exact⟨h2.1,aiS h2.2 (λ_ _ he=>⟨he,fC.put hd _⟩)⟩
   |exact⟨h2.1,aiN h2.2 (λe yT he=>by cases e<;>first|exact⟨he,fC.put hd _⟩|exact he)⟩
 |halt x w'=>cases x<;>simp only[Oper.uponIn]at h2⊢<;>exact h2
def Ai(ops:Array Oper)(W:Nat->Bool):Bool:=ops.all λo=>match o.dst with|some t=>W t|none=>true
theorem Ai.spec{ops:Array Oper}{W:Nat->Bool}(h:Ai ops W=true){i:Nat}{o:Oper}(ho:ops[i]?=some o):∀t,o.dst=some t->W t=true:=by
 intro t ht;have:=aip.1 h o (ahM ho);simpa[ht]using this
def YB(W:Nat->Bool)(a:Act)(Q:Exit->Act->World->Prop):Exit->Act->World->Prop
 |.normal,a',w'=>Q .normal a' w'/\fC W a a'
 |e,a',w'=>Q e a' w'
theorem YB.next{W:Nat->Bool}{ad3 JW:Act}(h:fC W ad3 JW):∀e a w,YB W JW Q e a w->YB W ad3 Q e a w:=by
 intro e a w hh
 cases e<;>first|exact hh|exact⟨hh.1,h.trans hh.2⟩
theorem JR{ops:Array Oper}{W:Nat->Bool}(hW:Ai ops W=true):∀(l:List Nat)(a:Act)(w:World),wpOpsIn F m P ops Q l a w->wpOpsIn F m P ops (YB W a Q) l a w
 |[],a,w,h=>⟨h,fC.refl _ _⟩
 |i::l,a,w,h=>by
  simp only[wpOpsIn]at h⊢
  cases ho:ops[i]? with
  |none=>simp only[ho]at h⊢;exact JR hW l a w h
  |some o=>
   simp only[ho]at h⊢;split
   .rename_i hw;rw[if_pos hw]at h;refine RP (λa' w' hh=>ES (YB.next hh.2) l a' w' (JR hW l a' w' hh.1)) (λe a w dO hh=>?_) (Um (Ai.spec hW ho) h)
    cases e<;>first|exact hh|exact absurd rfl dO
   .rename_i hw;rw[if_neg hw]at h;exact⟨h.1,ES (YB.next (fC.put (Ai.spec hW ho) _)) l _ w (JR hW l _ w h.2)⟩
theorem JS{ops:Array Oper}{md:Region.Mode}{W:Nat->Bool}(hW:Ai ops W=true):∀(fuel:Nat)(l:Array Bool)(a:Act)(w:World),wpAnyIn F m P md ops Q fuel l a w->wpAnyIn F m P md ops (YB W a Q) fuel l a w
 |0,l,a,w,h=>⟨h.1,h.2,fC.refl _ _⟩
 |k+1,l,a,w,h=>⟨fun hr=>⟨h.1 hr,fC.refl _ _⟩,fun i hi=>by
   have hs:=h.2 i hi;unfold wpOpIn at hs⊢
   cases ho:ops[i]? with
   |none=>rw[ho]at hs;exact JS hW k _ a w hs
   |some o=>
    rw[ho]at hs;simp only at hs⊢;split
    .rename_i hw;rw[if_pos hw]at hs;refine RP (λa' w' hh=>ET (YB.next hh.2) k _ a' w' (JS hW k _ a' w' hh.1)) (λe a w dO hh=>?_) (Um (Ai.spec hW ho) hs)
     cases e<;>first|exact hh|exact absurd rfl dO
    .rename_i hw;rw[if_neg hw]at hs
     exact⟨hs.1,ET (YB.next (fC.put (Ai.spec hW ho) _)) k _ _ w (JS hW k _ _ w hs.2)⟩⟩
theorem bG (hG:au GI) (hm:P.follows .mixedOrders=true) {id:Nat} {ops:Array Oper} {draw:Bool} (hc:ur (.region id ops draw)=true) {ac:af} (wR:kT P n (.region id ops draw)=ac) {W:Nat→Bool} (hW:Ai ops W=true) (fR:GI w) (pr:Nat→Nat→Prop) (S:aF)
  (bL:a.tmps.size=n) (ea:a.defers=[]) (hS:∀t,t<n->(S t).aI=S t/\RV pr cd w (S t) (a.tmps.getD t undef)) {K:aF->aK->Prop} (h:bO P GI ac (aP K) S (λ_=>none))
  (hk:∀g S' H' a' w',g.old=Old.plain pr w->Rel P w n dU g S' H' a' w'->K S' H'->fC W a a'->Q .normal a' w'):(Code.region id ops draw).wpIn (FR ro) m P Q a w:=by
 subst wR;have R:=Rel.adf (P:=P) pr bL ea hS
 have fin:∀e a' w',YB W a (QQ P w n (Old.plain pr w) (aP K)) e a' w'->Q e a' w':=by
  intro e a' w' hq
  cases e with
  |normal=>
   obtain⟨⟨g',S',H',h1,h2,h3⟩,h4⟩:=hq;exact hk g' S' H' a' w' h1 h2 h3 h4
  |exit id=>obtain⟨_,_,_,_,_,h⟩:=hq;exact h.elim
  |ret=>obtain⟨_,_,_,_,_,h⟩:=hq;exact h.elim
  |panic ch=>obtain⟨_,_,_,_,_,_,_,_,_,_,h⟩:=hq;exact h.elim
  |goto l=>exact hq.elim
  |outgrown=>exact hq.elim
 simp only[kT]at h
 cases draw with
 |true=>
  simp only[afH]at h;split at h
  case isFalse=>exact h.elim
  rename_i eK;exact aid hm (ET fin _ _ _ _ (JS hW _ _ _ _ (Rj hG fR hm (old:=Old.plain pr w) hc eK (λ_ _ _ _ h=>h) rfl R h)))
 |false=>
  simp only[afj,afx]at h;split at h
  case isFalse=>exact h.elim
  rename_i eK;exact afq (ES fin _ _ _ (JR hW _ _ _ (Uh hG fR (old:=Old.plain pr w) hc eK (λ_ _ _ _ h=>h) rfl R h)))
theorem uD (hm:P.follows .mixedOrders=true) {id:Nat} {ops:Array Oper} {draw:Bool} (hc:ur (.region id ops draw)=true) {ac:af} (wR:kT P n (.region id ops draw)=ac) (zW:ac.names=[]) {W:Nat→Bool} (hW:Ai ops W=true) (pr:Nat→Nat→Prop) (S:aF)
  {bN nm tp:Nat} {v:Value} {e ty:TypeId} {i:TypeInfo} {es es':List AV} {xs:List Value} (htp:tp<n) (hWt:W tp=false) (aeo:a.tmps.getD tp undef=.pointer (some ⟨bN,0,none⟩)) (bL:a.tmps.size=n) (ea:a.defers=[])
  (hN:w.heap[bN]?=some (.cells #[v] ty (0,0))) (hi:P.info? e=some i) (h_:w.ownsRow (bN+1) e i.size v es.length xs) (hf:rr (λb k=>b<bN/\pr b k) w i.size es xs)
  (hS:∀t,t<n->(S t).aI=S t/\((S t=.box nm 0/\a.tmps.getD t undef=.pointer (some ⟨bN,0,none⟩))\/RV (λb k=>b<bN/\pr b k) cd w (S t) (a.tmps.getD t undef)))
  (h:bO P (λ_=>True) ac (aP λS' H'=>S' tp=.box nm 0/\H' nm=some [.slice (.own e) es']) S (λj=>if j=nm then some [tT e v es]else none))
  (sk:∀x∈es',x.cells.length=i.size/\x.storable=true/\∀c∈x.cells,c.one=true) (PT:∀x∈es',∀c∈x.cells,jA c=true)
  (hk:∀a' w' v' MC yx,a'.tmps.size=n->a'.defers=[]->fC W a a'->w'.heap[bN]?=some (.cells #[v'] MC (0,0))->w'.ownsRow (bN+1) e i.size v' es'.length yx->rr (λ_ _=>False) w' i.size es' yx->
   sB (λb=>b=bN\/v.ownBlock=some b) w w'->(∀b,v'.ownBlock=some b->v.ownBlock=some b\/w.heap.size<=b)->Q .normal a' w'):(Code.region id ops draw).wpIn (FR ro) m P Q a w:=by
 subst wR;obtain⟨g,jq,lv,hg3,R⟩:=Rel.stack (P:=P) (nm:=nm) (S:=S) (a:=a) pr bL ea hN hi h_ hf hS;have aw:=(afe.1 hN).1
 have fin:∀e1 a' w',YB W a (QQ P { w with heap:=w.heap.extract 0 bN } n (Pc pr w bN v) (aP λS' H'=>S' tp=.box nm 0/\H' nm=some [.slice (.own e) es'])) e1 a' w'->Q e1 a' w':=by
  intro e1 a' w' hq
  cases e1 with
  |normal=>
   obtain⟨⟨g',S',H',h1,h2,h3⟩,h4⟩:=hq
   have Hg:g'.base=bN:=by rw[h2.base];simp;omega
   have sC:g'.al nm=some bN:=by
    have hs:=h2.slot tp htp (λhh=>hh);rw[h3.1,h4 tp hWt,aeo]at hs
    cases hs with
    |data _ _ h=>cases h
    |box _ _ b h=>exact h
   obtain⟨v',MC,yx,k1,k2,k3,k4,k5⟩:=Rel.acH (w:=w) pr hi h2 h1 Hg (λb hb=>by
    show(w.heap.extract 0 bN)[b]?=w.heap[b]?
    rw[aiK,if_pos (by omega),af6]) sC h3.2 sk PT
   have ry:=h2.grown;rw[h1]at ry;refine hk a' w' v' MC yx h2.size (by rw[h2.defers,h1];rfl) h4 k1 k2 k3 ⟨h2.below.os,h2.below.tape,h2.below.output,ry,λb hb hM=>?_⟩ k5;exact k4 b hb (λh=>hM (.inl h)) (λh=>hM (.inr h))
  |exit id=>obtain⟨_,_,_,_,_,h⟩:=hq;exact h.elim
  |ret=>obtain⟨_,_,_,_,_,h⟩:=hq;exact h.elim
  |panic ch=>obtain⟨_,_,_,_,_,_,_,_,_,_,h⟩:=hq;exact h.elim
  |goto l=>exact hq.elim
  |outgrown=>exact hq.elim
 simp only[kT]at h zW
 have hb:∀(b:Nat),(Pc pr w bN v).bx b->False:=λ_ h=>h
 cases draw with
 |true=>
  simp only[afH]at h;split at h
  case isFalse=>exact h.elim
  rename_i eK;exact aid hm (ET fin _ _ _ _ (JS hW _ _ _ _ (Rj (GI:=λ_=>True) (λ_ _ _ _=>trivial) trivial hm hc eK (λ_ _ _ _ h=>h) jq R h)))
 |false=>
  simp only[afj,afx]at h;split at h
  case isFalse=>exact h.elim
  rename_i eK;exact afq (ES fin _ _ _ (JR hW _ _ _ (Uh (GI:=λ_=>True) (λ_ _ _ _=>trivial) trivial hc eK (λ_ _ _ _ h=>h) jq R h)))
theorem Rel.yH {w0 w':World} {g:Gh} {S':aF} {H':aK} {a':Act} (R:Rel P w0 n dU g S' H' a' w') {t:Nat} (ht:t < n) {e:TypeId} {i:TypeInfo} (hi:P.info? e=some i) {es:List AV} (hS:S' t = .slice (if es.isEmpty then .nil else .own e) es)
  (sk:∀x∈es,x.cells.length=i.size/\x.storable=true/\∀c∈x.cells,c.one=true) (PT:∀x∈es,∀c∈x.cells,jA c=true):
  RD (λb j=>(g.base<=b/\b<w'.heap.size)/\j<g.hi b) w' (.slice .view es) (a'.tmps.getD t undef):=by
 have h1:=(R.slot t ht id)
 have h2:=(R.own t ht id)
 rw[hS]at h1 h2;have h1:=h1.j_ rfl
 cases es with
 |nil=>exact h1.NR
 |cons x es=>
  simp only[List.isEmpty_cons,afj,afx]at h1 h2;obtain⟨i',xs,b,k1,k2,k3,k4,k5⟩:=h2;rw[hi]at k1;cases k1;have hf:=rr.ab8 h1 k2 sk PT
  refine RD.ofRow k2 (hf.mono (bz.same λ_ _ _ h=>h.elim)) λb' vn k hk=>?_
  rw[k3]at vn;cases vn;exact⟨k2.lt b k3,by rw[k5];exact hk⟩
end
section
variable{P:Program}{GI:World->Prop}{n:Nat}{S:aF}{H:aK}{a:Act}{w:World}{ro:Option Nat}{m:Nat}{Q Q':Exit->Act->World->Prop}{F:Fence}
def Yw(ops:Array Oper)(j d:Nat)(T:List Nat):Nat->Array Bool->Bool
 |0,l=>l.getD j false
 |k+1,l=>(Region.ready .any ops l != [] || l.getD j false) && (Region.ready .any ops l).all fun i =>
   (!l.getD j false||(match(ops[i]?).bind (·.dst)with|some t=>t !=d&&!T.contains t|none=>true))&&Yw ops j d T k (l.setIfInBounds i true)
def ad8(N:Act->Prop)(Q:Exit->Act->World->Prop):Exit->Act->World->Prop
 |.normal,a,w=>Q .normal a w/\N a
 |e,a,w=>Q e a w
theorem Td {ops:Array Oper} {j d:Nat} {oj:Oper} {T:List Nat} (hj:ops[j]? = some oj) (hgj:oj.guard=none) (l7:wN oj.op=true) (N:Act→Prop)
  (hN0:∀a a':Act,a'.tmps.getD d undef=a.tmps.getD d undef->(∀t∈T,a'.tmps.getD t undef=a.tmps.getD t undef)->N a->N a') (eh:∀(a:Act)(w:World),a.tmps.size=n->match(execOp a.eval oj).run P w with|.ok (.value v) _=>N (a.put oj.dst v)|.ok _ _=>False|.halt _ _=>True) (hW:Ai ops (λt=>decide (t<n))=true):
  ∀(fuel:Nat)(l:Array Bool)(a:Act)(w:World),Yw ops j d T fuel l=true->(l.getD j false=true->N a)->l.size=ops.size->a.tmps.size=n->
   wpAnyIn (FR ro) m P .any ops Q fuel l a w->wpAnyIn (FR ro) m P .any ops (ad8 N Q) fuel l a w
 |0,l,a,w,h,hN,hl,bL,hh=>⟨hh.1,hh.2,hN (by simpa[Yw]using h)⟩
 |k+1,l,a,w,h,hN,hl,bL,hh=>by
  simp only[Yw,afa,afC,age,ah9,ne_eq]at h;refine⟨λhr=>⟨hh.1 hr,hN (h.1.resolve_left (λdO=>dO hr))⟩,λi hi=>?_⟩;obtain⟨h2,h3⟩:=h.2 i hi;have hs:=hh.2 i hi;unfold wpOpIn at hs⊢
  cases ho:ops[i]? with
  |none=>exact absurd (aiz.1 hi).2 (by rw[ho];rintro⟨o,h,_⟩;cases h)
  |some o=>
   rw[ho]at hs h2;simp only[Option.bind_some]at h2 hs⊢
   have adv:i<l.size:=by rw[hl];exact(afe.1 ho).1
   have rp:(l.setIfInBounds i true).size=ops.size:=by simpa using hl
   have next:∀(a':Act),a'.tmps.size=n->fC (λt=>o.dst==some t) a a'->i≠j->((l.setIfInBounds i true).getD j false=true->N a'):=by
    intro a' _ bb dO hlj
    have adU:l.getD j false=true:=by
     rw[agl,afb dO]at hlj;rwa [agl]
    rcases h2 with h2|h2
    .rw[adU]at h2;cases h2
    .have Q7:(o.dst==some d)=false∧∀ t∈T,(o.dst==some t)=false:=by
      cases hod:o.dst with
      |none=>simp
      |some t=>
       rw[hod]at h2;simp only[afa,ah9,ne_eq,afT,aht,agD]at h2;refine⟨by simpa using h2.1,λt' uB=>?_⟩;simp only[afN,ne_eq,agk];rintro rfl;exact h2.2 uB
     exact hN0 a a' (bb d Q7.1) (λt ht=>bb t (Q7.2 t ht)) (hN adU)
   have Dj:∀(d':Option Nat)(v:Value)(a:Act),(a.put d' v).tmps.size=a.tmps.size:=by
    intro d' v a;cases d'<;>simp[Act.put]
   split
   .rename_i hw;rw[if_pos hw]at hs
    by_cases oP:i=j
    .subst oP;rw[hj]at ho;cases ho;unfold Oper.wpIn at hs⊢;refine⟨λ_ _=>trivial,?_⟩;have h4:=hs.2;rw[ah6 _ _ _ (λc hc=>by rw[hc]at l7;cases l7)]at h4⊢;have h5:=eh a w bL;generalize(execOp a.eval oj).run P w=r at h4 h5⊢
     cases r with
     |ok x w'=>
      cases x<;>simp only at h5
      case value v=>
       simp only[Oper.uponIn]at h4⊢;exact Td hj hgj l7 N hN0 eh hW k _ _ w' h3 (λ_=>h5) rp (by rw[Dj];exact bL) h4
     |halt x w'=>cases x<;>simp only[Oper.uponIn]at h4⊢<;>exact h4
    .have pS:=Um (W:=λt=>o.dst==some t) (λt ht=>by simp[ht]) hs
     have EH:o.wpIn (FR ro) m P a w (λa' w'=>(wpAnyIn (FR ro) m P .any ops Q k (l.setIfInBounds i true) a' w'/\fC (λt=>o.dst==some t) a a')/\a'.tmps.size=n) Q:=by
      unfold Oper.wpIn at pS⊢;refine⟨pS.1,?_⟩;have h4:=pS.2
      generalize(o.semAt (FR ro).round a.eval).run P w=r at*
      cases r with
      |ok x w'=>
       cases x<;>simp only[Oper.uponIn]at h4⊢<;>first
        |exact⟨h4,by rw[Dj];exact bL⟩
        |exact⟨h4.1,aiM h4.2 (λe yT he=>by cases e<;>first|exact⟨he,by rw[Dj];exact bL⟩|exact he)⟩
        |exact⟨h4.1,aiS h4.2 (λ_ _ he=>⟨he,by rw[Dj];exact bL⟩)⟩
        |exact⟨h4.1,aiN h4.2 (λe yT he=>by cases e<;>first|exact⟨he,by rw[Dj];exact bL⟩|exact he)⟩
      |halt x w'=>cases x<;>simp only[Oper.uponIn]at h4⊢<;>exact h4
     refine RP (λa' w' hh=>?_) (λe a w dO hh=>?_) EH
     .exact Td hj hgj l7 N hN0 eh hW k _ a' w' h3 (next a' hh.2 hh.1.2 oP) rp hh.2 hh.1.1
     .cases e<;>first|exact hh|exact absurd rfl dO
   .rename_i hw;rw[if_neg hw]at hs
    have oP:i≠j:=by
     rintro rfl;rw[hj]at ho;cases ho;simp[Region.wanted,hgj]at hw
    refine⟨hs.1,Td hj hgj l7 N hN0 eh hW k _ _ w h3 (next _ (by rw[Dj];exact bL) (fC.put (λt ht=>by simp[ht]) _) oP) rp (by rw[Dj];exact bL) hs.2⟩
theorem NU (hG:au GI) (hm:P.follows .mixedOrders=true) {id:Nat} {ops:Array Oper} {p:Nat} (ED:cutAt ops p=true) (l7:(ops.extract 0 p).all (fun o=>wN o.op)=true) (eK:dOK P n (ops.extract 0 p)=true)
  {l:List fw} (hl:mV P n true (ops.extract 0 p)=l) (jo:(ops.extract 0 p).size=p) {W:Nat->Bool} (hW:Ai (ops.extract 0 p) W=true) (fR:GI w) (pr:Nat->Nat->Prop) (S:aF)
  {j d:Nat} {oj:Oper} {T:List Nat} (hj:(ops.extract 0 p)[j]?=some oj) (hgj:oj.guard=none) (aeJ:wN oj.op=true) (N:Act->Prop)
  (hN0:∀a a':Act,a'.tmps.getD d undef=a.tmps.getD d undef->(∀t∈T,a'.tmps.getD t undef=a.tmps.getD t undef)->N a->N a') (eh:∀(a:Act)(w:World),a.tmps.size=n->match(execOp a.eval oj).run P w with|.ok (.value v) _=>N (a.put oj.dst v)|.ok _ _=>False|.halt _ _=>True) (hWn:Ai (ops.extract 0 p) (λt=>decide (t<n))=true)
  (nO:Yw (ops.extract 0 p) j d T p (Array.replicate p false)=true)
  (bL:a.tmps.size=n) (ea:a.defers=[]) (hS:∀t,t<n->(S t).aI=S t/\RV pr cd w (S t) (a.tmps.getD t undef)) {K:aF->aK->Prop}
  (h:eB P GI l K (fV l S) (eG l (λ_=>none)))
  (hk:∀g S' H' a' w',g.old=Old.plain pr w->Rel P w n dU g S' H' a' w'->K S' H'->fC W a a'->N a'->wpOpsIn (FR ro) m P ops Q (List.range' p (ops.size-p)) a' w'):
  (Code.region id ops true).wpIn (FR ro) m P Q a w:=by
 refine acZ hm ED ?_;have key:=Rj (ro:=ro) (m:=m) (a:=a) (w:=w) hG fR hm (old:=Old.plain pr w) (ops:=ops.extract 0 p) (Q:=aP K) l7 eK (λ_ _ _ _ h=>h) rfl (Rel.adf pr bL ea hS) (by subst hl;exact h);rw[jo]at key
 have aet:=Td hj hgj aeJ N hN0 eh hWn p _ a _ nO (λhh=>by
  have:(Array.replicate p false).getD j false=false:=by
   rw[agl]
   by_cases hjp:j<p
   .simp[hjp]
   .simp[hjp]
  rw[this]at hh;cases hh) (by simpa using jo.symm) bL (JS hW _ _ _ _ key)
 refine ET ?_ _ _ _ _ aet;intro e a' w' hq
 cases e with
 |normal=>
  obtain⟨⟨⟨g',S',H',h1,h2,h3⟩,h4⟩,h5⟩:=hq;exact hk g' S' H' a' w' h1 h2 h3 h4 h5
 |exit id=>obtain⟨_,_,_,_,_,h⟩:=hq;exact h.elim
 |ret=>obtain⟨_,_,_,_,_,h⟩:=hq;exact h.elim
 |panic ch=>obtain⟨_,_,_,_,_,_,_,_,_,_,h⟩:=hq;exact h.elim
 |goto l=>exact hq.elim
 |outgrown=>exact hq.elim
end
section
variable{P:Program}{n:Nat}{a:Act}{w:World}{m:Nat}{Q:Exit->Act->World->Prop}
theorem lP {o:Oper} {t:TypeId} {x:Operand} {b off:Nat} {v:Value} {d:TypeDesc} (ho:o.op = .load t x) (hx:a.eval x = .pointer (some ⟨b,off,none⟩)) (hu:P.underlying t=some d) (hd:fg d=false) (hc:w.cell? ⟨b,off,none⟩=some v) :
  (execOp a.eval o).run P w=.ok (.value v) w:=by
 have AY:(isAgg t).run P w=.ok false w:=by
  unfold isAgg;rw[afW,agn hu w]
  cases d<;>simp_all[fg]
 unfold execOp;simp[ho,hx,Instr.loadAt,Instr.sureAddr,loadVar,afW,AY,hc]
theorem fM {o:Oper} {t:TypeId} {x y:Operand} {b:Nat} {v u:Value} {ty:TypeId} {i:TypeInfo} (ho:o.op = .store t x y) (hx:a.eval x = .pointer (some ⟨b,0,none⟩)) (hi:P.info? t=some i) (hs:i.size=1) (hb:w.heap[b]? = some (.cells #[u] ty (0,0)))
  (hv:(a.eval y)=v) (h1:v.oneCell'=true):(execOp a.eval o).run P w=.ok .skip (w.setRow b #[v]):=by
 have ER:v.cells=#[v]:=by cases v<;>first|rfl|cases h1
 have eh:=aiH P b 0 ty [v] 0 #[u] w hb (by simp) (λx hx=>by simp at hx;subst hx;exact h1);unfold execOp;simp only[ho,hx,hv,Instr.storeAt,Instr.sureAddr,storeVar,sizeOf,typeInfo,afW,Sem.run_pure,Result.andThen_ok,run_program,hi,hs,ER,ne_eq,ahs,afx];simp only[Nat.add_zero,List.take_zero,List.nil_append,List.length_singleton,aiy,af6]at eh
 have e:(w.setRow b ([v]++List.drop 1 #[u].toList).toArray)=w.setRow b #[v]:=by simp
 rw[e]at eh;have bL:(#[v]:Array Value).size=1:=rfl;simp only[bL,ahs,afx];rw[show storeCells ⟨b,0,none⟩ (#[v]:Array Value).toList=storeCells ⟨b,0,none⟩ [v] 0 from rfl,eh]
 rfl
theorem TQ {o:Oper} {cl:Call} {t:TypeId} {x:Operand} {ad:Option Addr} {k cap:Nat} {el:TypeId} (ho:o.op = .call cl) (yS:cl.callee = .builtin .len) (ha:cl.args = #[x]) (ht:cl.argTypes = #[t]) (hu:P.underlying t=some (.slice el)) (hx:a.eval x = .slice ad k cap) :
  (execOp a.eval o).run P w=.ok (.value (.int .i64 k)) w:=by
 unfold execOp
 have hm:(Builtin.len_ #[t] o.type #[.slice ad k cap]).run P w=.ok (.int .i64 k) w:=by simp[Builtin.len_,agn hu,goInt]
 simp[ho,yS,ha,ht,resolve,invoke,builtin,hx,hm]
theorem aby {o:Oper} {t:TypeId} {x y:Operand} {g k cap:Nat} {el:TypeId} {i:TypeInfo} (ho:o.op = .slice t x none (some y) none) (hu:P.underlying t=some (.slice el)) (hi:P.info? el=some i) (hx:a.eval x = .slice (some ⟨g,0,none⟩) (k+1) cap) (hy:a.eval y = .int .i64 k) (hk:k≤cap) :
  (execOp a.eval o).run P w=.ok (.value (.slice (some ⟨g,0,none⟩) k cap)) w:=by
 have hb:=run_sliceBound (P:=P) (w:=w) (x:=.int .i64 k) (i:=k) (y:=cap) (code:=.sliceAcap) rfl (by omega) (by omega)
 have hbs:(Instr.sliceBounds true (k+1) cap none (some (.int .i64 k)) none).run P w=.ok (0,k,cap) w:=by
  unfold Instr.sliceBounds;simp[afW,hb]
 unfold execOp;simp[ho,hx,hy,Instr.sliceAt,agn hu,Instr.slice,hbs,sizeOf,typeInfo,hi,ahn]
theorem TU {o:Oper} {t t':TypeId} {x y:Operand} {p q:Int} (ho:o.op = .binOp .sub t x y t') (hx:a.eval x = .int .i64 p) (hy:a.eval y = .int .i64 q) :
  (execOp a.eval o).run P w=.ok (.value (.int .i64 (IntKind.i64.wrap (p-q)))) w:=by
 have h0:(eqGuard .sub t x y (.int .i64 p) (.int .i64 q)).run P w=.ok () w:=sD _ _ _ _ _ _ rfl
 have h1:(binOp .sub t (.int .i64 p) (.int .i64 q)).run P w=.ok (.int .i64 (IntKind.i64.wrap (p-q))) w:=by
  simp[binOp,Op.intArith]
 simp[execOp,ho,hx,hy,h0,h1]
theorem EL {ops:Array Oper} {T el ti ti':TypeId} {p t1 t2 t3 t4 t5 bN:Nat} {o0 o1 o2 o3 o4 o5:Oper} {cl:Call} {i iT:TypeInfo} {v:Value} {ty:TypeId} {k:Nat} {xs last:List Value}
  (h0:ops[0]?=some o0) (h1:ops[1]?=some o1) (h2:ops[2]?=some o2) (h3:ops[3]?=some o3) (h4:ops[4]?=some o4) (h5:ops[5]?=some o5)
  (q0:o0.op=.load T (.tmp p)/\o0.dst=some t1/\o0.guard=none) (q1:o1.op=.load T (.tmp p)/\o1.dst=some t2/\o1.guard=none) (q2:o2.op=.call cl/\o2.dst=some t3/\o2.guard=none) (q3:o3.op=.binOp .sub ti (.tmp t3) (.const (.int .i64 1)) ti'/\o3.dst=some t4/\o3.guard=none)
  (q4:o4.op=.slice T (.tmp t1) none (some (.tmp t4)) none/\o4.dst=some t5/\o4.guard=none) (q5:o5.op=.store T (.tmp p) (.tmp t5)/\o5.dst=none/\o5.guard=none)
  (yS:cl.callee=.builtin .len) (Zc:cl.args=#[.tmp t2]) (xi:cl.argTypes=#[T]) (hu:P.underlying T=some (.slice el)) (Ld:P.info? T=some iT) (Lb:iT.size=1) (hi:P.info? el=some i)
  (hd:p≠t1/\p≠t2/\p≠t3/\p≠t4/\p≠t5/\t1≠t2/\t1≠t3/\t1≠t4/\t2≠t3/\t3≠t4/\t4≠t5) (bL:a.tmps.size=n) (hn:t1<n/\t2<n/\t3<n/\t4<n/\t5<n)
  (hp:a.tmps.getD p undef=.pointer (some ⟨bN,0,none⟩)) (hN:w.heap[bN]?=some (.cells #[v] ty (0,0))) (h_:w.ownsRow (bN+1) el i.size v (k+1) (xs++last)) (pF:xs.length=k*i.size) (hk:k<1000000)
  (hq:∀a' v',a'.tmps.size=n->a'.defers=a.defers->(∀t,t≠t1->t≠t2->t≠t3->t≠t4->t≠t5->a'.tmps.getD t undef=a.tmps.getD t undef)->v'.ownBlock=v.ownBlock->v.ownBlock.isSome=true->w.ownsRow (bN+1) el i.size v' k xs->Q .normal a' (w.setRow bN #[v'])):
  wpOpsIn (FR none) m P ops Q [0,1,2,3,4,5] a w:=by
 obtain⟨d1,d2,d3,d4,d5,d6,d7,d8,d9,d10,d11⟩:=hd;obtain⟨n1,n2,n3,n4,n5⟩:=hn
 have hc:w.cell? ⟨bN,0,none⟩=some v:=by simp[World.cell?,hN]
 obtain⟨g,cap,rfl⟩:∃g cap,v=.slice (some ⟨g,0,none⟩) (k+1) cap:=by
  rcases h_.2 with⟨_,h⟩|⟨g,cap,cur,h,_⟩
  .omega
  .exact⟨g,cap,h⟩
 have iV:k<=cap:=by
  rcases h_.2 with⟨h,_⟩|⟨g',abn,cur,h,_,_,hnc,_⟩
  .cases h
  .cases h;omega
 have aes:w.ownsRow (bN+1) el i.size (.slice (some ⟨g,0,none⟩) k cap) k xs:=by
  obtain⟨_,h2⟩:=h_
  rcases h2 with⟨h0,_⟩|⟨g',abn,cur,hv,hg,hh,hn,iV,bL,YF⟩
  .cases h0
  .cases hv;refine⟨pF,.inr ⟨g,cap,cur,rfl,hg,hh,by omega,iV,bL,?_⟩⟩
   have h3:(cur.toList.take ((k+1)*i.size)).take (k*i.size)=(xs++last).take (k*i.size):=by rw[YF]
   rw[List.take_take,Nat.min_eq_left (aho _ (by omega))]at h3;rw[h3,<-pF,aiP]
 have dW:∀(a:Act)(d t:Nat)(c:Value),t≠d->(a.put (some d) c).tmps.getD t undef=a.tmps.getD t undef:=λa d t c h=>by
  simp[Act.put,afb (afQ h)]
 have gP:∀(a:Act)(d:Nat)(c:Value),a.tmps.size=n->d<n->(a.put (some d) c).tmps.getD d undef=c:=λa d c h hd=>by
  simp[Act.put,h,hd]
 have ju:∀(a:Act)(d:Option Nat)(c:Value),(a.put d c).tmps.size=a.tmps.size:=λa d c=>by cases d<;>simp[Act.put]
 have pL:∀(a:Act)(d:Option Nat)(c:Value),(a.put d c).defers=a.defers:=λa d c=>by cases d<;>rfl
 refine aW h0 q0.2.2 (by rw[q0.1];rfl) (lP q0.1 hp hu rfl hc) ?_;rw[q0.2.1]
 obtain⟨a1,oI⟩:∃a1,a.put (some t1) (.slice (some ⟨g,0,none⟩) (k+1) cap)=a1:=⟨_,rfl⟩
 have z1:a1.tmps.size=n:=by rw[<-oI,ju];exact bL
 have v1:a1.tmps.getD t1 undef=.slice (some ⟨g,0,none⟩) (k+1) cap:=by rw[<-oI];exact gP a t1 _ bL n1
 have p1:a1.tmps.getD p undef=.pointer (some ⟨bN,0,none⟩):=by rw[<-oI,dW _ _ _ _ d1];exact hp
 rw[oI];refine aW h1 q1.2.2 (by rw[q1.1];rfl) (lP q1.1 p1 hu rfl hc) ?_;rw[q1.2.1]
 obtain⟨a2,ic⟩:∃a2,a1.put (some t2) (.slice (some ⟨g,0,none⟩) (k+1) cap)=a2:=⟨_,rfl⟩
 have z2:a2.tmps.size=n:=by rw[<-ic,ju];exact z1
 have v2:a2.tmps.getD t2 undef=.slice (some ⟨g,0,none⟩) (k+1) cap:=by rw[<-ic];exact gP a1 t2 _ z1 n2
 have v1:a2.tmps.getD t1 undef=.slice (some ⟨g,0,none⟩) (k+1) cap:=by rw[<-ic,dW _ _ _ _ d6];exact v1
 have p2:a2.tmps.getD p undef=.pointer (some ⟨bN,0,none⟩):=by rw[<-ic,dW _ _ _ _ d2];exact p1
 rw[ic];refine aW h2 q2.2.2 (by rw[q2.1];rfl) (TQ q2.1 yS Zc xi hu v2) ?_;rw[q2.2.1]
 obtain⟨a3,rq⟩:∃a3,a2.put (some t3) (.int .i64 ((k+1:Nat):Int))=a3:=⟨_,rfl⟩
 have z3:a3.tmps.size=n:=by rw[<-rq,ju];exact z2
 have v3:a3.tmps.getD t3 undef=.int .i64 ((k+1:Nat):Int):=by rw[<-rq];exact gP a2 t3 _ z2 n3
 have v1:a3.tmps.getD t1 undef=.slice (some ⟨g,0,none⟩) (k+1) cap:=by rw[<-rq,dW _ _ _ _ d7];exact v1
 have p3:a3.tmps.getD p undef=.pointer (some ⟨bN,0,none⟩):=by rw[<-rq,dW _ _ _ _ d3];exact p2
 rw[rq];refine aW h3 q3.2.2 (by rw[q3.1];rfl) (TU q3.1 v3 rfl) ?_;rw[q3.2.1]
 have hw:IntKind.i64.wrap (((k+1:Nat):Int)-1)=(k:Int):=by
  have key:∀m:Int,m=(((k+1:Nat):Int)-1) % 18446744073709551616->(if decide (m>=9223372036854775808)=true then m-18446744073709551616 else m)=(k:Int):=by
   intro m hm;split
   .rename_i hd;have:=agE hd;omega
   .omega
  exact key _ rfl
 rw[hw]
 obtain⟨a4,jR⟩:∃a4,a3.put (some t4) (.int .i64 (k:Int))=a4:=⟨_,rfl⟩
 have z4:a4.tmps.size=n:=by rw[<-jR,ju];exact z3
 have v4:a4.tmps.getD t4 undef=.int .i64 (k:Int):=by rw[<-jR];exact gP a3 t4 _ z3 n4
 have v1:a4.tmps.getD t1 undef=.slice (some ⟨g,0,none⟩) (k+1) cap:=by rw[<-jR,dW _ _ _ _ d8];exact v1
 have p4:a4.tmps.getD p undef=.pointer (some ⟨bN,0,none⟩):=by rw[<-jR,dW _ _ _ _ d4];exact p3
 rw[jR];refine aW h4 q4.2.2 (by rw[q4.1];rfl) (aby q4.1 hu hi v1 v4 iV) ?_;rw[q4.2.1]
 obtain⟨a5,oH⟩:∃a5,a4.put (some t5) (.slice (some ⟨g,0,none⟩) k cap)=a5:=⟨_,rfl⟩
 have z5:a5.tmps.size=n:=by rw[<-oH,ju];exact z4
 have v5:a5.tmps.getD t5 undef=.slice (some ⟨g,0,none⟩) k cap:=by rw[<-oH];exact gP a4 t5 _ z4 n5
 have p5:a5.tmps.getD p undef=.pointer (some ⟨bN,0,none⟩):=by rw[<-oH,dW _ _ _ _ d5];exact p4
 rw[oH];refine dk h5 q5.2.2 (by rw[q5.1];rfl) (fM q5.1 p5 Ld Lb hN v5 rfl) ?_;rw[q5.2.1];refine hq a5 _ z5 ?_ (λt e1 e2 e3 e4 e5=>?_) rfl rfl aes
 .rw[<-oH,pL,<-jR,pL,<-rq,pL,<-ic,pL,<-oI,pL]
 .rw[<-oH,dW _ _ _ _ e5,<-jR,dW _ _ _ _ e4,<-rq,dW _ _ _ _ e3,<-ic,dW _ _ _ _ e2,<-oI,dW _ _ _ _ e1]
theorem HS {F:Fence} {ops:Array Oper} {Q1:Exit→Act→World→Prop} {l2:List Nat} (hQ:∀ e a w,e ≠ .normal→Q1 e a w→Q e a w) (hn:∀ a w,Q1 .normal a w→wpOpsIn F m P ops Q l2 a w) :
  ∀(l1:List Nat)(a:Act)(w:World),wpOpsIn F m P ops Q1 l1 a w->wpOpsIn F m P ops Q (l1++l2) a w
 |[],a,w,h=>hn a w h
 |i::l,a,w,h=>by
  simp only[List.cons_append,wpOpsIn]at h⊢
  cases ho:ops[i]? with
  |none=>simp only[ho]at h⊢;exact HS hQ hn l a w h
  |some o=>
   simp only[ho]at h⊢;split
   .rename_i hw;rw[if_pos hw]at h;exact RP (λa w hh=>HS hQ hn l a w hh) hQ h
   .rename_i hw;rw[if_neg hw]at h;exact⟨h.1,HS hQ hn l _ w h.2⟩
theorem iR {GI:World→Prop} {ro:Option Nat} (hG:au GI) {ops:Array Oper} {p:Nat} {l2:List Nat} (hr:List.range ops.size=List.range p++l2) (l7:ops.all (fun o=>wN o.op)=true) (eK:((mV P n false ops).take p).all (·.ok n)=true)
  {l:List fw} (hl:(mV P n false ops).take p=l) (hpn:p<=ops.size) {W:Nat->Bool} (hW:Ai ops W=true) (fR:GI w) (pr:Nat->Nat->Prop) (S:aF)
  (bL:a.tmps.size=n) (ea:a.defers=[]) (hS:∀t,t<n->(S t).aI=S t/\RV pr cd w (S t) (a.tmps.getD t undef)) {K:aF->aK->Prop} (h:bj P GI l K (λ_=>False) S (λ_=>none))
  (hk:∀g S' H' a' w',g.old=Old.plain pr w->Rel P w n dU g S' H' a' w'->K S' H'->fC W a a'->wpOpsIn (FR ro) m P ops Q l2 a' w') {id:Nat}:(Code.region id ops false).wpIn (FR ro) m P Q a w:=by
 refine afq ?_;rw[hr];subst hl;have R:=Rel.adf (P:=P) pr bL ea hS
 have key:=UF hG fR (old:=Old.plain pr w) (ops:=ops) (Q:=aP K) (S0:=S) (H0:=fun _=>none) (List.range p) (ops.toList.take p) _ S _ a w (by
   apply ahW;intro i;simp only[afG,aiE]
   by_cases hi:i<p
   .have:i<ops.size:=by omega
    simp[hi,this]
   .simp[hi]) (λo Of=>by
    simp only[mV,<-ahV,air,afC,Function.comp]at eK
    exact eK o Of) (λ_ _ _ _ h=>h) rfl R (by
    simp only[mV,<-ahV]at h
    exact h)
 refine HS (Q1:=YB W a (QQ P w n (Old.plain pr w) (aP K))) (λe a w dO hq=>?_) (λa' w' hq=>?_) _ _ _ (JR hW _ _ _ (TO l7 UH _ _ _ key))
 .cases e with
  |normal=>exact absurd rfl dO
  |exit id=>obtain⟨_,_,_,_,_,h⟩:=hq;exact h.elim
  |ret=>obtain⟨_,_,_,_,_,h⟩:=hq;exact h.elim
  |panic ch=>obtain⟨_,_,_,_,_,_,_,_,_,_,h⟩:=hq;exact h.elim
  |goto l=>exact hq.elim
  |outgrown=>exact hq.elim
 .obtain⟨⟨g',S',H',h1,h2,h3⟩,h4⟩:=hq;exact hk g' S' H' a' w' h1 h2 h3 h4
end
section
variable{P:Program}{GI:World->Prop}{n:Nat}{old:Old}{S:aF}{H:aK}{Q:mL}
theorem VR (hG:au GI) {w0:World} (dS:GI w0) {ro:Option Nat} {m:Nat} {ops:Array Oper} (l7:ops.all (fun o=>wN o.op)=true) {g:Gh} {a:Act} {w:World} (ho:g.old=old) (R:Rel P w0 n dU g S H a w) (l:List Nat) (os:List Oper) (hl:l.map (ops[·]?)=os.map some)
  (eK:∀o∈os,(og P n false ops o).ok n=true) (ib:∀d,¬old.bx d) {K:aF->aK->Prop} (h:bj P GI (os.map (og P n false ops)) K (λ_=>False) S H):
  wpOpsIn (FR ro) m P ops (QQ P w0 n old (aP K)) l a w:=
 TO l7 UH _ _ _ (UF hG dS (old:=old) (ops:=ops) (Q:=aP K) (S0:=S) (H0:=H) l os g S H a w hl eK (λ_ _ _ _=>ib _) ho R h)
theorem SW.mid (hG:au GI) {ro:Option Nat} {id p:Nat} {ops:Array Oper} {oh:Oper} {l2:List Nat} {kY lJ:List Oper} (acm:ops.toList=kY++oh::lJ) (hp:kY.length=p) (hr:List.range ops.size=List.range p++(p::l2)) (tg:l2.map (ops[·]?)=lJ.map some)
  (l7:ops.all (λo=>wN o.op)=true) (hgh:oh.guard=none) (ib:∀d,¬old.bx d)
  {lM kP:List fw} (NO:kY.map (og P n false ops)=lM) (abu:lJ.map (og P n false ops)=kP) (dM:lM.all (·.ok n)=true) (TY:kP.all (·.ok n)=true)
  {K1:aF->aK->Prop} {K2 K3:Old->aF->aK->Prop} (h1:bj P GI lM K1 (λ_=>False) S H)
  (hand:∀w0 g S1 H1 a w,g.old=old->Rel P w0 n dU g S1 H1 a w->K1 S1 H1->∃v w' g2 S2 H2,((execOp a.eval oh).run P w=.ok (.value v) w'\/((execOp a.eval oh).run P w=.ok .skip w'/\v=undef))/\Rel P w0 n dU g2 S2 H2 (a.put oh.dst v) w'/\K2 g2.old S2 H2)
  (h2:∀o S H,K2 o S H->(∀d,¬o.bx d)/\bj P GI kP (K3 o) (λ_=>False) S H) (hQ:∀o S H,K3 o S H->Q .normal o S H):SW P GI n ro (.region id ops false) Q old S H:=by
 intro w0 g a w m dS ho R;refine afq ?_;rw[hr]
 have S_:(List.range p).map (ops[·]?)=kY.map some:=by
  apply ahW;intro i;simp only[afG]
  by_cases hi:i<p
  .have h3:ops[i]? = kY[i]? := by
    rw[<-ahG,acm,ahl (by omega)]
   have h4:kY[i]?=some (kY[i]'(by omega)):=ae9 (by omega);simp[hi,h3,h4]
  .have:kY[i]?=none:=afn (by omega);simp[hi,this]
 have hoh:ops[p]?=some oh:=by
  rw[<-ahG,acm,ahr (by omega)];simp[hp]
 refine HS (Q1:=QQ P w0 n old (aP K1)) (fun e a w dO hq => ?_) (fun a1 w1 hq => ?_) _ _ _ (VR hG dS l7 ho R (List.range p) kY S_ (fun o Of=>by
   subst NO;simp only[air,afC,Function.comp]at dM
   exact dM o Of) ib (by rw[NO];exact h1))
 .cases e with
  |normal=>exact absurd rfl dO
  |exit id=>obtain⟨_,_,_,_,_,h⟩:=hq;exact h.elim
  |ret=>obtain⟨_,_,_,_,_,h⟩:=hq;exact h.elim
  |panic ch=>obtain⟨_,_,_,_,_,_,_,_,_,_,h⟩:=hq;exact h.elim
  |goto l=>exact hq.elim
  |outgrown=>exact hq.elim
 .obtain⟨g1,S1,H1,IA,R1,WO⟩:=hq;obtain⟨v,w2,g2,S2,H2,eh,R2,jf⟩:=hand w0 g1 S1 H1 a1 w1 IA R1 WO;obtain⟨ig,ic⟩:=h2 _ _ _ jf
  have adP:wN oh.op=true:=by
   have:=aip.1 l7 oh (ahM hoh);exact this
  have rest:wpOpsIn (FR ro) m P ops (QS P w0 n Q) l2 (a1.put oh.dst v) w2:=by
   have:=VR (ro:=ro) (m:=m) hG dS l7 (old:=g2.old) rfl R2 l2 lJ tg (λo Of=>by
    subst abu;simp only[air,afC,Function.comp]at TY
    exact TY o Of) ig (by rw[abu];exact ic)
   refine ES (λe a w hq=>?_) _ _ _ this
   cases e with
   |normal=>
    obtain⟨g3,S3,H3,YQ,R3,J0⟩:=hq;exact⟨g3,S3,H3,R3,by rw[YQ];exact hQ _ _ _ J0⟩
   |exit id=>obtain⟨_,_,_,_,_,h⟩:=hq;exact h.elim
   |ret=>obtain⟨_,_,_,_,_,h⟩:=hq;exact h.elim
   |panic ch=>obtain⟨_,_,_,_,_,_,_,_,_,_,h⟩:=hq;exact h.elim
   |goto l=>exact hq.elim
   |outgrown=>exact hq.elim
  rcases eh with eh|⟨eh,rfl⟩
  .exact aW hoh hgh adP eh rest
  .exact dk hoh hgh adP eh rest
variable{w0:World}{g:Gh}{a:Act}{w:World}
theorem Rel.kA(R:Rel P w0 n dU g S H a w)(o:Obj):Rel P w0 n dU { g with old:={ g.old with bI:=av g.old.bI w.heap.size (some o) } } S H a (w.alloc o):=by
 have hb:Below w.heap.size w (w.alloc o):=(aga _ _).alloc (afg _) _;have R':=Rel.mw R hb
 have hle:g.base<=w.heap.size:=by rw[R.base];exact R.below.size
 refine{ size:=R'.size,defers:=R'.defers,facts:=R'.facts,slot:=R'.slot,own:=λt ht hu=>(R'.own t ht hu).bI rfl λb hb=>⟨rfl,rfl,hb⟩,box:=?_,Cf:=R'.Cf,BB:=R'.BB,inj:=R'.inj,base:=R'.base,below:=R'.below,fresh:=R'.fresh,still:=R'.still,grown:=R'.grown,kept:=?_ }
 .intro i b hi;obtain⟨cs,vs,ty,h1,h2,h3,h4,h5,h6,h7,h8,h9⟩:=R'.box i b hi;exact⟨cs,vs,ty,h1,h2,h3,h4,h5,h6,h7,λj hj fj=>(h8 j hj fj).bI rfl λb hb=>⟨rfl,rfl,hb⟩,h9⟩
 .intro b ob h
  by_cases l8:b=w.heap.size
  .subst l8
   have:ob=o:=by simpa[av]using h.symm
   subst this;refine⟨hle,afO w _,(R.fresh _ (afg _)).1,(R.fresh _ (afg _)).2,λi hi=>?_⟩;obtain⟨_,_,_,_,_,h3,_⟩:=R.box i _ hi;have:=(afe.1 h3).1;omega
  .have h:g.old.bI b=some ob:=by simpa[av,l8]using h
   exact R'.kept b ob h
def CI(b:Nat)(ks vs:List AV):AV->AV
 |.val (.map (some b'))=>if b'=b then .map ks vs else .val (.map (some b'))
 |v=>v
theorem ab3(b:Nat)(ks vs:List AV)(v:AV)(h:v.one=true):(CI b ks vs v).one=true:=by
 unfold CI;split
 .split<;>rfl
 .exact h
theorem Rel.O1 (R:Rel P w0 n dU g S H a w) {b:Nat} {es:Array MapEntry} {clock:Nat} (hk:g.old.bI b=some (.map es clock)) (ks vs:List AV) (j9:ks.length=es.size) (XD:vs.length=es.size)
  (hks:∀i (h:i<ks.length)(h':i<es.size),RD (λ_ _=>False) w ks[i] (es[i]).key) (AK:∀i (h:i<vs.length)(h':i<es.size),RD (λ_ _=>False) w vs[i] (es[i]).val)
  (hf:g.old.facts=[]):∃g',g'.old={ g.old with bI:=av g.old.bI b none }/\Rel P w0 n dU g' (λt=>match S t with|.box i o=>.box i o|_=>.bB) (λi=>(H i).map λcs=>cs.map (CI b ks vs)) a w:=by
 obtain⟨k1,k2,k3,k4,k5⟩:=R.kept b _ hk
 let g':Gh:={ g with old:={ g.old with bI:=av g.old.bI b none },hi:=av g.hi b 1 }
 have T6:∀c k,g.Pr c k->g'.Pr c k:=by
  intro c k h;rcases h with h|h
  .exact .inl h
  .refine .inr ⟨h.1,?_⟩;show k<av g.hi b 1 c
   by_cases hc:c=b
   .subst hc;rw[k3]at h;omega
   .rw[cN _ _ hc];exact h.2
 have hK:bz g.Pr g'.Pr w w:=bz.same λc k _ h=>T6 c k h
 have JK:RD g'.Pr w (.map ks vs) (.map (some b)):=by
  refine .map ks vs b es clock (.inr ⟨k1,by show 0<av g.hi b 1 b;rw[bm];omega⟩) k2 j9 XD (λi h h'=>(hks i h h').mono (bz.same λ_ _ _ h=>h.elim)) (λi h h'=>(AK i h h').mono (bz.same λ_ _ _ h=>h.elim))
 have aeg:∀{v:AV}{c:Value},RD g.Pr w v c->RD g'.Pr w (CI b ks vs v) c:=by
  intro v c h;unfold CI;split
  .rename_i b';split
   .rename_i hb;subst hb;cases h;exact JK
   .exact h.mono hK
  .exact h.mono hK
 refine⟨g',rfl,{ size:=R.size,defers:=R.defers,facts:=λp hp=>(by rw[show g'.old.facts=g.old.facts from rfl,hf]at hp;cases hp),slot:=?_,own:=?_,box:=?_,Cf:=?_,BB:=R.BB,inj:=R.inj,base:=R.base,below:=R.below,fresh:=?_,still:=R.still.trans hK,grown:=R.grown,kept:=?_ }⟩
 .intro t ht hu;have h:=R.slot t ht hu;show RV g'.Pr g'.al w (match S t with|.box i o=>.box i o|_=>.bB) _;split
  .rename_i i o hs;rw[hs]at h;generalize a.tmps.getD t undef=c at h
   cases h with
   |data _ _ h=>cases h
   |box _ _ b h=>exact .box _ _ _ h
  .exact .bB _
 .intro t ht hu;show A2 P w g' (.slot t) (match S t with|.box i o=>.box i o|_=>.bB) _
  split<;>trivial
 .intro i c hi;obtain⟨cs,Oa,ty,h1,h2,h3,h4,h5,h6,h7,h8,h9⟩:=R.box i c hi
  have sX:c≠b:=by rintro rfl;exact k5 i hi
  refine⟨cs.map (CI b ks vs),Oa,ty,by simp[h1],h2,h3,by show av g.hi b 1 c=0;rw[cN _ _ sX];exact h4,h5,by simpa using h6,λj hj fj=>?_,λj hj fj=>?_,λj hj=>?_⟩
  .simp only[afi]at hj;simp only[afl];exact aeg (h7 j hj fj)
  .simp only[afi]at hj;simp only[afl];have ho:=h8 j hj fj;unfold CI;split
   .split<;>trivial
   .refine ho.bI rfl λb' vn=>⟨rfl,?_,vn⟩
    show av g.hi b 1 b'=g.hi b';exact cN _ _ (by rintro rfl;rw[k4]at vn;cases vn)
  .simp only[afi]at hj;simp only[afl];exact ab3 _ _ _ _ (h9 j hj)
 .intro i cs h hu;obtain⟨kd,h1,_⟩:=afX.1 h;exact R.Cf i kd h1 hu
 .intro c hc
  have sX:c≠b:=by
   rintro rfl;have:=(afe.1 k2).1;omega
  exact⟨by show av g.hi b 1 c=0;rw[cN _ _ sX];exact(R.fresh c hc).1,(R.fresh c hc).2⟩
 .intro c ob h
  have sX:c≠b:=by rintro rfl;simp[g',av]at h
  have h:g.old.bI c=some ob:=by simpa[g',av,sX]using h
  obtain⟨q1,q2,q3,q4,q5⟩:=R.kept c ob h;exact⟨q1,q2,by show av g.hi b 1 c=0;rw[cN _ _ sX];exact q3,q4,q5⟩
end
def Lc(i:Nat)(cs:List AV):AV->AV
 |.box j off=>if j=i then .ref ((cs.map AV.aI).drop off)else .box j off
 |v=>cE i v
section
variable{P:Program}{w0:World}{n:Nat}{g:Gh}{S:aF}{H:aK}{a:Act}{w:World}
theorem Rel.freeze (R:Rel P w0 n dU g S H a w) {i:Nat} {cs:List AV} (hH:H i=some cs) (hf:g.old.facts=[]) :
  ∃g',g'.old=g.old/\Rel P w0 n dU g' (λt=>Lc i cs (S t)) (av H i none) a w:=by
 obtain⟨b,hb⟩:=aiC.1 (R.Cf i cs hH id);obtain⟨kd,vs,ty,e0,b1,b2,b3,b4,b5,b6,b7,b8⟩:=R.box i b hb;rw[hH]at e0;cases e0
 let g':Gh:={ g with al:=av g.al i none,hi:=av g.hi b cs.length }
 have T6:∀c k,g.Pr c k->g'.Pr c k:=by
  intro c k h;rcases h with h|h
  .exact .inl h
  .refine .inr ⟨h.1,?_⟩;show k<av g.hi b cs.length c
   by_cases hc:c=b
   .subst hc;rw[b3]at h;omega
   .rw[cN _ _ hc];exact h.2
 have hK:bz g.Pr g'.Pr w w:=bz.same λc k _ h=>T6 c k h
 have sC:∀j c,j≠i->g.al j=some c->g'.al j=some c:=λj c hj h=>by show av g.al i none j=_;rw[cN _ _ hj];exact h
 have hnb:∀j c,j≠i->g.al j=some c->c≠b:=by
  rintro j c hj h rfl;exact hj (R.inj j i _ h hb)
 refine⟨g',rfl,{ size:=R.size,defers:=R.defers,facts:=λp hp=>(by rw[show g'.old.facts=g.old.facts from rfl,hf]at hp;cases hp),slot:=?_,own:=?_,box:=?_,Cf:=?_,BB:=λ_ h=>h.elim,inj:=?_,base:=R.base,below:=R.below,fresh:=?_,still:=R.still.trans hK,grown:=R.grown,kept:=?_ }⟩
 .intro t ht hu;have h:=R.slot t ht hu;generalize a.tmps.getD t undef=c at h;have h2:=(h.cE i sC).mono hK (λ_ _ h=>h);show RV g'.Pr g'.al w (Lc i cs (S t)) c;generalize S t=v at h h2
  cases v<;>try exact h2
  rename_i j off;simp only[Lc];simp only[cE]at h2;split
  .rename_i hj;subst hj
   have Ju:∃c',c=.pointer (some ⟨c',off,none⟩)/\g.al j=some c':=by
    cases h with
    |data _ _ h=>cases h
    |box _ _ c' h=>exact⟨c',rfl,h⟩
   obtain⟨c',rfl,oy⟩:=Ju;rw[hb]at oy;cases oy;refine .data _ _ (.ref _ b off (λk=>vs.getD (off+k) undef) (λk hk=>?_) (λk hk=>?_) (λk hk=>?_))
   .simp only[aik,afl];simp only[agN,afi]at hk;exact(AV.Ti _).trans (b8 _ (by omega))
   .simp only[agN,afi]at hk;refine⟨.inr ⟨b1,by show off+k<av g.hi b cs.length b;rw[bm];omega⟩,?_⟩
    have:off+k<vs.size:=by omega
    simp[World.cell?,b2,this]
   .simp only[agN,afi]at hk;simp only[aik,afl];have hh:=b6 (off+k) (by omega) (by omega)
    have:off+k<vs.size:=by omega
    have:=hh.aI.mono hK;simpa[‹off+k<vs.size›]using this
  .rename_i hj;rw[if_neg hj]at h2;exact h2
 .intro t ht hu;have h:=R.own t ht hu;have h2:=ZT P w g (.slot t) i (S t) _ h
  have h3:A2 P w g' (.slot t) (cE i (S t)) (a.tmps.getD t undef):=h2.bI rfl λc hc=>⟨rfl,by show av g.hi b cs.length c=g.hi c;exact cN _ _ (by rintro rfl;rw[b4]at hc;cases hc),hc⟩
  show A2 P w g' (.slot t) (Lc i cs (S t)) _;generalize S t=v at h3
  cases v<;>try exact h3
  simp only[Lc]
  split<;>trivial
 .intro j c hj
  have lg:j≠i:=by rintro rfl;simp[g',av]at hj
  have fj:g.al j=some c:=by simpa[g',av,lg]using hj
  have sX:=hnb j c lg fj;obtain⟨cs2,vs2,ty2,h1,h2,h3,h4,h5,h6,h7,h8,h9⟩:=R.box j c fj;refine⟨cs2,vs2,ty2,by rw[cN _ _ lg];exact h1,h2,h3,by show av g.hi b cs.length c=0;rw[cN _ _ sX];exact h4,h5,h6,λk hk ee=>(h7 k hk ee).mono hK,λk hk ee=>?_,h9⟩
  refine(h8 k hk ee).bI rfl λb' vn=>⟨rfl,?_,vn⟩
  show av g.hi b cs.length b'=g.hi b';exact cN _ _ (by rintro rfl;rw[b4]at vn;cases vn)
 .intro j cs2 h hu
  have lg:j≠i:=by rintro rfl;simp[av]at h
  have h':H j=some cs2:=by simpa[av,lg]using h
  show(av g.al i none j).isSome;rw[cN _ _ lg];exact R.Cf j cs2 h' hu
 .intro j k c h1 h2
  have hj:j≠i:=by rintro rfl;simp[g',av]at h1
  have hk:k≠i:=by rintro rfl;simp[g',av]at h2
  exact R.inj j k c (by simpa[g',av,hj]using h1) (by simpa[g',av,hk]using h2)
 .intro c hc
  have sX:c≠b:=by
   rintro rfl;have:=(afe.1 b2).1;omega
  exact⟨by show av g.hi b cs.length c=0;rw[cN _ _ sX];exact(R.fresh c hc).1,(R.fresh c hc).2⟩
 .intro c ob h;obtain⟨q1,q2,q3,q4,q5⟩:=R.kept c ob h
  have sX:c≠b:=by rintro rfl;exact q5 i hb
  refine⟨q1,q2,by show av g.hi b cs.length c=0;rw[cN _ _ sX];exact q3,q4,λj=>?_⟩;show av g.al i none j≠some c
  by_cases hj:j=i
  .subst hj;simp[av]
  .rw[cN _ _ hj];exact q5 j
end
section
variable{P:Program}{GI:World->Prop}{n:Nat}{old:Old}{S:aF}{H:aK}{Q:mL}{ro:Option Nat}
theorem SW.ghost{c:Code}{K:Old->aF->aK->Prop}(h:∀w0 g a w,g.old=old->Rel P w0 n dU g S H a w->∃g2 S2 H2,Rel P w0 n dU g2 S2 H2 a w/\K g2.old S2 H2)(hc:∀o S H,K o S H->SW P GI n ro c Q o S H):SW P GI n ro c Q old S H:=by
 intro w0 g a w m hG ho R;obtain⟨g2,S2,H2,R2,hK⟩:=h w0 g a w ho R;exact hc _ _ _ hK w0 g2 a w m hG rfl R2
theorem SW.freeze{c:Code}{i:Nat}{cs:List AV}(hH:H i=some cs)(hf:old.facts=[])(hc:SW P GI n ro c Q old (λt=>Lc i cs (S t)) (av H i none)):SW P GI n ro c Q old S H:=by
 intro w0 g a w m hG ho R;obtain⟨g',h1,R'⟩:=R.freeze hH (by rw[ho];exact hf);exact hc w0 g' a w m hG (h1.trans ho) R'
def HQ(P:Program)(w0:World)(n:Nat)(K:Old->aF->aK->Prop):Exit->Act->World->Prop
 |.normal,a,w=>∃g S H,Rel P w0 n dU g S H a w/\K g.old S H
 |_,_,_=>False
theorem SW.hand (hG:au GI) {id p:Nat} {ops:Array Oper} {lm l2:List Nat} {kY oh lJ:List Oper} (acm:ops.toList=kY++(oh++lJ)) (hp:kY.length=p) (hr:List.range ops.size=List.range p++(lm++l2)) (tg:l2.map (ops[·]?)=lJ.map some)
  (l7:ops.all (λo=>wN o.op)=true) (ib:∀d,¬old.bx d)
  {lM kP:List fw} (NO:kY.map (og P n false ops)=lM) (abu:lJ.map (og P n false ops)=kP) (dM:lM.all (·.ok n)=true) (TY:kP.all (·.ok n)=true)
  {K1:aF->aK->Prop} {K2 K3:Old->aF->aK->Prop} (h1:bj P GI lM K1 (λ_=>False) S H)
  (hand:∀w0 g S1 H1 a w m,GI w0->g.old=old->Rel P w0 n dU g S1 H1 a w->K1 S1 H1->wpOpsIn (FR ro) m P ops (HQ P w0 n K2) lm a w)
  (h2:∀o S H,K2 o S H->(∀d,¬o.bx d)/\bj P GI kP (K3 o) (λ_=>False) S H) (hQ:∀o S H,K3 o S H->Q .normal o S H):SW P GI n ro (.region id ops false) Q old S H:=by
 intro w0 g a w m dS ho R;refine afq ?_;rw[hr]
 have S_:(List.range p).map (ops[·]?)=kY.map some:=by
  apply ahW;intro i;simp only[afG]
  by_cases hi:i<p
  .have h3:ops[i]? = kY[i]? := by
    rw[<-ahG,acm,ahl (by omega)]
   have h4:kY[i]?=some (kY[i]'(by omega)):=ae9 (by omega);simp[hi,h3,h4]
  .have:kY[i]?=none:=afn (by omega);simp[hi,this]
 refine HS (Q1:=QQ P w0 n old (aP K1)) (fun e a w dO hq => ?_) (fun a1 w1 hq => ?_) _ _ _ (VR hG dS l7 ho R (List.range p) kY S_ (fun o Of=>by
   subst NO;simp only[air,afC,Function.comp]at dM
   exact dM o Of) ib (by rw[NO];exact h1))
 .cases e with
  |normal=>exact absurd rfl dO
  |exit id=>obtain⟨_,_,_,_,_,h⟩:=hq;exact h.elim
  |ret=>obtain⟨_,_,_,_,_,h⟩:=hq;exact h.elim
  |panic ch=>obtain⟨_,_,_,_,_,_,_,_,_,_,h⟩:=hq;exact h.elim
  |goto l=>exact hq.elim
  |outgrown=>exact hq.elim
 .obtain⟨g1,S1,H1,IA,R1,WO⟩:=hq;refine HS (Q1:=HQ P w0 n K2) (λe a w dO hq=>?_) (λa2 w2 hq=>?_) _ _ _ (hand w0 g1 S1 H1 a1 w1 m dS IA R1 WO)
  .cases e with
   |normal=>exact absurd rfl dO
   |_=>exact hq.elim
  .obtain⟨g2,S2,H2,R2,jf⟩:=hq;obtain⟨ig,ic⟩:=h2 _ _ _ jf
   have:=VR (ro:=ro) (m:=m) hG dS l7 (old:=g2.old) rfl R2 l2 lJ tg (λo Of=>by
    subst abu;simp only[air,afC,Function.comp]at TY
    exact TY o Of) ig (by rw[abu];exact ic)
   refine ES (λe a w hq=>?_) _ _ _ this
   cases e with
   |normal=>
    obtain⟨g3,S3,H3,YQ,R3,J0⟩:=hq;exact⟨g3,S3,H3,R3,by rw[YQ];exact hQ _ _ _ J0⟩
   |exit id=>obtain⟨_,_,_,_,_,h⟩:=hq;exact h.elim
   |ret=>obtain⟨_,_,_,_,_,h⟩:=hq;exact h.elim
   |panic ch=>obtain⟨_,_,_,_,_,_,_,_,_,_,h⟩:=hq;exact h.elim
   |goto l=>exact hq.elim
   |outgrown=>exact hq.elim
end
section
variable{P:Program}{a:Act}{w:World}
theorem yE {o:Oper} {t:TypeId} {x:Operand} {s:ByteArray} (ho:o.op = .range t x) (hu:P.underlying t=some .string) (hx:a.eval x = .string s) :
  (execOp a.eval o).run P w=.ok (.value (.pointer (some ⟨w.heap.size,0,none⟩))) (w.alloc (.stringIter s 0)):=by
 unfold execOp;simp only[ho,hx,afW,run_range_string w t s hu]
 rfl
theorem KU {o:Oper} {x:Operand} {b:Nat} {s:ByteArray} {pos:Nat} (ho:o.op = .next x true) (hx:a.eval x = .pointer (some ⟨b,0,none⟩)) (hb:w.heap[b]? = some (.stringIter s pos)) (h:pos < s.size) (ha:(s[pos]'h).toNat < 128) :
  (execOp a.eval o).run P w=.ok (.value (.tuple #[.bool true,.int .i64 pos,.int .i32 (s[pos]'h).toNat])) (w.putObj b (.stringIter s (pos+1))):=by
 unfold execOp;simp only[ho,hx,Instr.next,getObj,setObj,afW,Sem.run,hb,Result.andThen,h,afH,decode_ascii s pos h ha];simp[goInt,Sem.run,World.putObj]
theorem sG {o:Oper} {x:Operand} {b:Nat} {s:ByteArray} {pos:Nat} (ho:o.op = .next x true) (hx:a.eval x = .pointer (some ⟨b,0,none⟩)) (hb:w.heap[b]? = some (.stringIter s pos)) (h:¬ pos < s.size) :
  (execOp a.eval o).run P w=.ok (.value (.tuple #[.bool false])) w:=by
 unfold execOp;simp[ho,hx,Instr.next,getObj,Sem.run,hb,h]
end
section
variable{P:Program}{GI:World->Prop}{n:Nat}{old:Old}{S:aF}{H:aK}{Q:mL}{ro:Option Nat}
theorem SW.K0{c:Code}(I:Old->aF->aK->Prop)(μ:Old->aF->aK->Nat)(h0:I old S H)(hr:∀o S H,I o S H->SW P GI n ro c (thenS (λo' S' H'=>I o' S' H'/\μ o' S' H'<μ o S H) Q) o S H):SW P GI n ro (.loop c) Q old S H:=by
 intro w0 g a w m hG ho R;subst ho
 have key:∀ (k:Nat) (g:Gh) (S:aF) (H:aK) (a:Act) (w:World),Rel P w0 n dU g S H a w→I g.old S H→μ g.old S H=k→∀ (b:Frame) (kk:List Item) (cs:List Frame),b.roundOf=ro→(FR ro).room (cs.length+1+m) →
   ∃e a' w',QS P w0 n Q e a' w'/\ArrivesIn (Machine.fenced P (FR ro)) P (lone (b.atR a (.code c::.inLoop c::kk)) cs w) b kk cs e a' w':=by
  intro k
  induction k using Nat.strongRecOn with
  |_ k ih=>
   intro g S H a w R hI hk b kk cs Xk IC;obtain⟨e,JW,Oc,hq,Hw⟩:=hr g.old S H hI w0 g a w m hG rfl R b (.inLoop c::kk) cs Xk trivial IC
   cases e with
   |normal=>
    obtain⟨g',S',H',h2,h3,h4⟩:=hq;obtain⟨Z8,ZA,Z1,XG,T'⟩:=ih _ (by rw[<-hk];exact h4) g' S' H' JW Oc h2 h3 rfl b kk cs Xk IC;exact⟨Z8,ZA,Z1,XG,.of_steps (aiT Hw (.one (aix (F:=FR ro) (fr:=b.atR JW (.inLoop c::kk)) trivial IC rfl) ai9)) T'⟩
   |exit id=>exact⟨.exit id,JW,Oc,hq,.pass (x:=.inLoop c) rfl (λ_ _=>.inl (by simp)) Hw⟩
   |goto l=>exact hq.elim
   |ret=>exact⟨.ret,JW,Oc,hq,.pass (x:=.inLoop c) rfl (λ_ _=>.inl (by simp)) Hw⟩
   |panic ch=>exact⟨.panic ch,JW,Oc,hq,.pass (x:=.inLoop c) rfl (λ_ _=>.inl (by simp)) Hw⟩
   |outgrown=>exact hq.elim
 intro b kk cs Xk hF IC;obtain⟨e,a',w',hq,Hw⟩:=key _ g S H a w R h0 rfl b kk cs Xk IC;exact⟨e,a',w',hq,.of_steps (.one (aix (F:=FR ro) (fr:=b.atR a (.code (.loop c)::kk)) trivial IC rfl) stepR_loop) Hw⟩
end
noncomputable def acy(i:Nat)(cs:List AV)(s:TS):TS:=s.M (Lc i cs) 4
theorem acS(i:Nat)(cs:List AV)(s:TS):gT (acy i cs s)=λt=>Lc i cs (gT s t):=by
 funext t
 unfold gT acy
 cases Nat.ble 256 t with
 |true=>rfl
 |false=>exact TT.G_M cG (Lc i cs) rfl 4 s t
noncomputable def adu(P:Program)(call:uU)(m i:Nat)(k:Nat):af->W0:=
 Nat.rec (motive:=λ_=>af->W0)
  (λac s h=>match gU h i with
   |some cs=>match Oi h i none with
    |some h'=>codeF P call m ac (acy i cs s) h'
    |none=>none
   |none=>none)
  (λ_ ih ac s h=>match ac with
   |.seq x y=>match codeF P call m x s h with
    |some (.normal,s',h')=>ih y s' h'
    |r=>r
   |_=>none) k
section
variable{P:Program}{GI:World->Prop}{call:uU}{n:Nat}{ro:Option Nat}{Q:mL}{old:Old}
theorem abU(iN:∀f args out,call f args=some out->AC P GI f args out){m:Nat}{c:af}{s s':TS}{h h':TH}{e:ft}(hr:codeF P call m c s h=some (e,s',h')){Q:ft->aF->aK->Prop}(hq:Q e (gT s') (gU h')):bO P GI c Q (gT s) (gU h):=by
 rw[codeF_eq]at hr;exact FL iN hr hq
def abd:ft->Bool
 |.panic _=>false
 |_=>true
theorem SW.YI(hG:au GI)(hm:P.follows .mixedOrders=true)(iN:∀f args out,call f args=some out->AC P GI f args out){m:Nat}{c:Code}(hc:ur c=true)(ib:∀d,¬old.bx d){s s':TS}{h h':TH}{e:ft}(hr:codeF P call m (kT P n c) s h=some (e,s',h'))(hp:abd e=true)(hq:Q e old (gT s') (gU h')):SW P GI n ro c Q old (gT s) (gU h):=by
 refine SW.nz hG hm hc (λd _=>ib d) rfl (abU iN hr ?_)
 cases e with
 |panic v=>cases hp
 |_=>exact hq
theorem ZR{c:Code}{x y:af}(h:kT P n c=.seq x y):∃x' y',c=.seq x' y'/\kT P n x'=x/\kT P n y'=y:=by
 cases c with
 |seq x' y'=>simp only[kT,af.seq.injEq]at h;exact⟨x',y',rfl,h.1,h.2⟩
 |region id ops draw=>
  simp only[kT]at h;split at h
  .split at h<;>cases h
  .split at h<;>cases h
 |cond c x y=>simp only[kT]at h;split at h<;>cases h
 |_=>cases h
theorem Y8 (hG:au GI) (hm:P.follows .mixedOrders=true) (iN:∀ f args out,call f args=some out→AC P GI f args out) {m i:Nat} (ib:∀ d,¬ old.bx d) (hf:old.facts=[]) :
  ∀(k:Nat){c:Code}(_:ur c=true){s s':TS}{h h':TH}{e:ft}(_:adu P call m i k (kT P n c) s h=some (e,s',h'))(_:abd e=true)(_:Q e old (gT s') (gU h')),SW P GI n ro c Q old (gT s) (gU h)
 |0,c,hc,s,s',h,h',e,hr,hp,hq=>by
  have hr:(match gU h i with
   |some cs=>match Oi h i none with
    |some h1=>codeF P call m (kT P n c) (acy i cs s) h1
    |none=>none
   |none=>none)=some (e,s',h'):=hr
  split at hr
  case h_2=>cases hr
  rename_i cs IQ;split at hr
  case h_2=>cases hr
  rename_i h1 hh;refine SW.freeze IQ hf ?_;rw[<-acS,<-UG hh];exact SW.YI hG hm iN hc ib hr hp hq
 |k+1,c,hc,s,s',h,h',e,hr,hp,hq=>by
  have hr:(match kT P n c with
   |.seq x y=>match codeF P call m x s h with
    |some (.normal,s1,h1)=>adu P call m i k y s1 h1
    |r=>r
   |_=>none)=some (e,s',h'):=hr
  cases wR:kT P n c<;>rw[wR]at hr<;>try (cases hr;done)
  rename_i xa ya;obtain⟨x,y,rfl,rfl,rfl⟩:=ZR wR;simp only[ur,afa]at hc;simp only at hr;split at hr
  .rename_i s1 h1 hx;refine SW.seq (SW.YI hG hm iN hc.1 ib hx rfl ?_);exact Y8 hG hm iN ib hf k hc.2 hr hp hq
  .rename_i dO;refine SW.seq (SW.YI hG hm iN hc.1 ib hr hp ?_)
   cases e with
   |normal=>exact absurd hr (dO _ _)
   |panic v=>cases hp
   |_=>exact hq
end
noncomputable def To(P:Program)(call:uU)(m i k:Nat)(fn:Dh)(args:List AV):Option eZ:=
 bif Nat.ble args.length fn.n&&Nat.ble args.length 256 then match adu P call m i k fn.code (Xf args) (.lf none)with
  |some (.normal,_,_)=>none
  |some (.ret,s,h)=>(cw P fn.n fn.res (gT s) (gU h)).map .ret
  |_=>none
 else none
theorem Hk {P:Program} {GI:World→Prop} (hG:au GI) (hm:P.follows .mixedOrders=true) {call:uU} (iN:∀ f args out,call f args=some out→AC P GI f args out) {m i k f:Nat} {fn:Dh} (CD:∃ (F:Func) (c:Code),P.funcs[f]? = some F∧F.body=some c∧F.ntmps=fn.n∧F.results.toList=fn.res∧kT P fn.n c=fn.code∧ur c=true)
  {args:List AV} {out:eZ} (h:To P call m i k fn args=some out):AC P GI f args out:=by
 obtain⟨F,c,h1,h2,h3,h4,h5,h6⟩:=CD;unfold To at h
 cases hb:(Nat.ble args.length fn.n&&Nat.ble args.length 256)with
 |false=>rw[hb]at h;cases h
 |true=>
 rw[hb]at h;simp only[cond_true]at h;rw[afa]at hb;have hl:=aiq hb.1;have tg:=aiq hb.2;split at h
 .cases h
 .rename_i s hh hc;simp only[afX]at h;obtain⟨v,hv,rfl⟩:=h
  refine AC.gY h1 h2 h3 hl λcc w=>?_
  rw[<-Y4 args tg,<-abp];refine Y8 hG hm iN (λ_ h=>h) rfl k h6 (by rw[h5];exact hc) rfl ?_;rw[h4];exact⟨eD.plain rfl,rfl,v,hv,rfl⟩
 .cases h
section
variable{P:Program}{GI:World->Prop}{n:Nat}{w0:World}
def Lh(P:Program)(GI:World->Prop)(i:Nat):Nat->af->(ft->aF->aK->Prop)->aF->aK->Prop
 |0,ac,Q,S,H=>∃cs,H i=some cs/\bO P GI ac Q (λt=>Lc i cs (S t)) (av H i none)
 |k+1,.seq x y,Q,S,H=>bO P GI x (λe S' H'=>match e with
  |.normal=>Lh P GI i k y Q S' H'
  |e=>Q e S' H') S H
 |_+1,_,_,_,_=>False
theorem abI(hG:au GI)(dS:GI w0)(hm:P.follows .mixedOrders=true){old:Old}{i:Nat}(hf:old.facts=[])(ib:∀d,¬old.bx d):∀(k:Nat)(c:Code)(Q:ft->aF->aK->Prop)(g:Gh)(S:aF)(H:aK)(a:Act)(w:World),g.old=old->Rel P w0 n dU g S H a w->Lh P GI i k (kT P n c) Q S H->c.wp P (QQ P w0 n old Q) a w
 |0,c,Q,g,S,H,a,w,ho,R,h=>by
  obtain⟨cs,hH,h⟩:=h;obtain⟨g',h1,R'⟩:=R.freeze hH (by rw[ho];exact hf);exact O8 hG dS hm c _ g' _ _ a w (λd _=>ib d) (h1.trans ho) R' h
 |k+1,c,Q,g,S,H,a,w,ho,R,h=>by
  cases wR:kT P n c<;>rw[wR]at h<;>try (exact h.elim)
  rename_i xa ya;obtain⟨x,y,rfl,rfl,rfl⟩:=ZR wR;refine wp_seq (aiU (O8 hG dS hm x _ g S H a w (λd _=>ib d) ho R h) ?_);intro e a' w' he
  cases e with
  |normal=>
   obtain⟨g',S',H',e1,R',h'⟩:=he;exact abI hG dS hm hf ib k y Q g' S' H' a' w' e1 R' h'
  |_=>exact he
theorem AC.NV (hG:au GI) (hm:P.follows .mixedOrders=true) {f:Nat} {fn:Func} {c:Code} {args:List AV} {out:eZ} (i k:Nat) (hf:P.funcs[f]? = some fn) (hb:fn.body=some c) (hn:fn.ntmps=n) (hl:args.length≤n) {ac:af} (hc:kT P n c=ac)
  (h:Lh P GI i k ac (post P n fn.results.toList out) (start args) (λ_=>none)):AC P GI f args out:=by
 intro w old dH fR hlen hr;refine ahm hf hb ?_;subst hc;have R:Rel P w n dU _ (start args) (λ_=>none) { tmps:=dH++Array.replicate (fn.ntmps-dH.size) undef,defers:=[] } w:=Rel.begin hn hl hlen hr;refine aiU (abI hG fR hm (old:=Old.plain old w) rfl (λ_ h=>h) k c _ _ _ _ _ w rfl R h) ?_;intro e a' w' he
 have fin:(∃ g' S H,g'.old=Old.plain old w∧Rel P w n dU g' S H a' w'∧∃ v,cw P n fn.results.toList S H=some v∧out = .ret v) →
   a'.defers=[]/\∃v,(results fn a'.tmps).run P w'=.ok v w'/\Ends P old w out (.returned v) w':=by
  rintro⟨g',S,H,e1,R',v,hv,rfl⟩;obtain⟨c,r1,r2,r3⟩:=WY R' hv;refine⟨by rw[R'.defers,e1];rfl,c,r1,?_,g'.hi,λb hb=>(R'.fresh b hb).1,c,rfl,?_,?_⟩
  .have:=R'.below;rwa [R'.base]at this
  .have:g'.Pr=Tw w.heap.size old g'.hi:=by
    funext b k
    simp only[Gh.Pr,Tw,R'.base,e1,Old.plain]
   rw[this]at r2;exact .data _ _ r2
  .rwa [R'.base]at r3
 cases e with
 |normal=>exact fin he
 |ret=>exact fin he
 |exit id=>obtain⟨_,_,_,_,_,h⟩:=he;exact h.elim
 |panic chain=>
  obtain⟨hd,v,c,hi,S,H,h1,h2,h3,h4,h5⟩:=he;subst h1;cases(show out=.panic v from h5);exact⟨hd,h2,hi,h3,c,rfl,h4⟩
 |goto l=>exact he.elim
 |outgrown=>exact he.elim
theorem NW{i k:Nat}{x y:af}{Q:ft->aF->aK->Prop}{S:aF}{H:aK}(K:aF->aK->Prop)(hx:bO P GI x (λe S H=>e=.normal/\K S H) S H)(Xt:∀{Q Q':ft->aF->aK->Prop},(∀e S H,Q e S H->Q' e S H)->bO P GI x Q S H->bO P GI x Q' S H)(hy:∀S' H',K S' H'->Lh P GI i k y Q S' H'):Lh P GI i (k+1) (.seq x y) Q S H:=
 Xt (λe S' H' h=>by obtain⟨rfl,h⟩:=h;exact hy S' H' h) hx
theorem KS{i:Nat}{ac:af}{Q:ft->aF->aK->Prop}{S:aF}{H:aK}(cs:List AV)(K:aF->aK->Prop)(hH:H i=some cs)(hK:K (λt=>Lc i cs (S t)) (av H i none))(hc:∀S' H',K S' H'->bO P GI ac Q S' H'):Lh P GI i 0 ac Q S H:=⟨cs,hH,hc _ _ hK⟩
end
section
variable{P:Program}{GI:World->Prop}{w0:World}{n:Nat}{g:Gh}{S:aF}{H:aK}{a:Act}{w:World}
theorem Rel.acr (R:Rel P w0 n dU g S H a w) {w':World} (hb:Below w.heap.size w w') {b:Nat} (hle:w.heap.size≤b) {o:Obj} (ho:w'.heap[b]? = some o) :
  Rel P w0 n dU { g with old:={ g.old with bI:=av g.old.bI b (some o) } } S H a w':=by
 have R':=Rel.mw R hb
 have oL:g.base<=w.heap.size:=by rw[R.base];exact R.below.size
 refine{ size:=R'.size,defers:=R'.defers,facts:=R'.facts,slot:=R'.slot,own:=λt ht hu=>(R'.own t ht hu).bI rfl λb hb=>⟨rfl,rfl,hb⟩,box:=?_,Cf:=R'.Cf,BB:=R'.BB,inj:=R'.inj,base:=R'.base,below:=R'.below,fresh:=R'.fresh,still:=R'.still,grown:=R'.grown,kept:=?_ }
 .intro i c hi;obtain⟨cs,vs,ty,h1,h2,h3,h4,h5,h6,h7,h8,h9⟩:=R'.box i c hi;exact⟨cs,vs,ty,h1,h2,h3,h4,h5,h6,h7,λj hj fj=>(h8 j hj fj).bI rfl λb hb=>⟨rfl,rfl,hb⟩,h9⟩
 .intro c ob h
  by_cases l8:c=b
  .subst l8
   have:ob=o:=by simpa[av]using h.symm
   subst this;refine⟨agu oL hle,ho,(R.fresh _ hle).1,(R.fresh _ hle).2,λi hi=>?_⟩;obtain⟨_,_,_,_,_,h3,_⟩:=R.box i _ hi;have:=(afe.1 h3).1;omega
  .have h:g.old.bI c=some ob:=by simpa[av,l8]using h
   exact R'.kept c ob h
theorem RD.flat{Pr:Nat->Nat->Prop}{v:AV}{c:Value}(h:RD Pr w v c):Go.AL.flat v=true/\∀d,cE d v=v:=by
 have:=h.bU
 cases v<;>first|exact⟨rfl,λ_=>rfl⟩|cases this
theorem Rel.hand (R:Rel P w0 n dU g S H a w) {b:Nat} {o:Obj} (hk:g.old.bI b=some o) (m:Nat) :
  ∃g',g'.old={ g.old with bI:=av g.old.bI b none }/\g'.base=g.base/\Rel P w0 n dU g' S H a w/\(∀c k,g.Pr c k->g'.Pr c k)/\∀k,k<m->g'.Pr b k:=by
 obtain⟨k1,k2,k3,k4,k5⟩:=R.kept b o hk
 have R1:Rel P w0 n dU { g with old:={ g.old with bI:=av g.old.bI b none } } S H a w:=by
  refine{ size:=R.size,defers:=R.defers,facts:=R.facts,slot:=R.slot,own:=λt ht hu=>(R.own t ht hu).bI rfl λb hb=>⟨rfl,rfl,hb⟩,box:=?_,Cf:=R.Cf,BB:=R.BB,inj:=R.inj,base:=R.base,below:=R.below,fresh:=R.fresh,still:=R.still,grown:=R.grown,kept:=?_ }
  .intro i c hi;obtain⟨cs,vs,ty,h1,h2,h3,h4,h5,h6,h7,h8,h9⟩:=R.box i c hi;exact⟨cs,vs,ty,h1,h2,h3,h4,h5,h6,h7,λj hj fj=>(h8 j hj fj).bI rfl λb hb=>⟨rfl,rfl,hb⟩,h9⟩
  .intro c ob h
   have hc:c≠b:=by rintro rfl;simp[av]at h
   exact R.kept c ob (by simpa[av,hc]using h)
 have aw:=(afe.1 k2).1;have R2:=R1.Dd (G:=λc=>c=b) (λ_=>m) (λc hc=>by subst hc;exact⟨⟨k1,k3,k4,k5⟩,aw,bm _ _ _⟩);refine⟨Gh.Dd { g with old:={ g.old with bI:=av g.old.bI b none } } (λc=>c=b) (λ_=>m),rfl,rfl,R2,λc k hp=>?_,λk hkm=>.inr ⟨k1,?_⟩⟩
 .rcases hp with hp|hp
  .exact .inl hp
  .refine .inr ⟨hp.1,?_⟩;simp only[Gh.Dd]
   by_cases hc:c=b
   .subst hc;rw[k3]at hp;omega
   .rw[if_neg hc];exact hp.2
 .simp only[Gh.Dd];rw[if_pos trivial];exact hkm
end
section
variable{P:Program}{GI:World->Prop}{md:Region.Mode}{ops:Array Oper}{n:Nat}
variable{w0:World}{g:Gh}{S:aF}{H:aK}{a:Act}{w:World}
def adx(l:List fw):Bool:=l.all λo=>match o.op with|.alloc ..=>false|_=>true
theorem XK{op:nj}{dst:Option Nat}{K K':aF->aK->Prop}(hK:∀S H,K S H->K' S H){S:aF}{H:aK}(h:jH P GI op dst K S H):jH P GI op dst K' S H:=by
 cases op<;>simp only[jH,bf]at h⊢<;>(try exact h)
 case alloc=>cases dst<;>first|exact h|exact hK _ _ h
 case call f args=>
  obtain⟨hb,out,h1,h2,h3,h4⟩:=h;refine⟨hb,out,h1,h2,h3,?_⟩
  cases out with
  |ret v=>exact hK _ _ h4
  |panic v=>exact h4
 case nP f args=>
  refine⟨h.1,?_⟩;have h:=h.2;split at h
  .obtain⟨out,h1,h2,h3,h4⟩:=h;refine⟨out,h1,h2,h3,?_⟩
   cases out with
   |ret v=>exact hK _ _ h4
   |panic v=>exact h4
  .exact h.elim
 all_goals
  split at h
  .exact hK _ _ h
  .exact h.elim
end
section
variable{P:Program}{GI:World->Prop}{n:Nat}{a:Act}{w:World}{S:aF}{H:aK}
theorem kU {o:Oper} {s el:TypeId} {i:TypeInfo} {x1 x2:Operand} {b m cap k:Nat} (ho:o.op = .indexAddr s x1 x2) (hs:P.underlying s=some (.slice el)) (hi:P.info? el=some i)
  (h1:a.eval x1=.slice (some ⟨b,0,none⟩) m cap) (h2:a.eval x2=.int .i64 k) (hk:k<m):(execOp a.eval o).run P w=.ok (.value (.pointer (some ⟨b,k*i.size,none⟩))) w:=by
 have Hd:(0:Int)<=k:=by omega
 have j9:(k:Int)<m:=by omega
 simp[execOp,ho,h1,h2,Instr.indexAt,asIntOf,agn hs,Hd,j9,sizeOf,typeInfo,hi,ahn,hk]
theorem Ze {o:Oper} {s:TypeId} {fs:Array Field} {f:Field} {i:TypeInfo} {j:Nat} {x:Operand} {b off:Nat} (ho:o.op = .fieldAddr s x j) (hs:P.underlying s=some (.struct fs)) (hf:fs[j]? = some f) (hi:P.info? f.type=some i) (hz:i.size≠0)
  (hx:a.eval x=.pointer (some ⟨b,off,none⟩)):(execOp a.eval o).run P w=.ok (.value (.pointer (some ⟨b,off+f.offset,none⟩))) w:=by
 simp[execOp,ho,hx,Instr.fieldAt,agn hs,hf,Instr.sureAddr,fieldPlace,sizeOf,typeInfo,hi,hz,ahn]
theorem sh(w:World){b:Nat}{cs kd:Array Value}{ty:TypeId}(h:w.heap[b]?=some (.cells cs ty (0,0))):w.setRow b kd=w.putObj b (.cells kd ty (0,0)):=by
 unfold World.setRow World.putObj
 congr 1
 apply Array.ext_getElem?;intro k;rw[Array.getElem?_modify,aiR];have aw:=(afe.1 h).1
 by_cases hk:b=k
 .subst hk;have e:=(afe.1 h).2;simp[aw,e]
 .simp[hk]
theorem yI {o:Oper} {t:TypeId} {x y:Operand} {b off:Nat} {v:Value} {ty:TypeId} {i:TypeInfo} {arr:Array Value} (ho:o.op = .store t x y) (hx:a.eval x = .pointer (some ⟨b,off,none⟩)) (hi:P.info? t=some i) (hs:i.size=1) (hb:w.heap[b]? = some (.cells arr ty (0,0)))
  (adz:off<arr.size) (hv:(a.eval y)=v) (h1:v.oneCell'=true):∃adn:Array Value,(execOp a.eval o).run P w=.ok .skip (w.putObj b (.cells adn ty (0,0)))/\adn.size=arr.size/\∀k,adn.getD k undef=if k=off then v else arr.getD k undef:=by
 have ER:v.cells=#[v]:=by cases v<;>first|rfl|cases h1
 have eh:=aiH P b off ty [v] 0 arr w hb (by simp;omega) (λx hx=>by simp at hx;subst hx;exact h1)
 have he:(arr.toList.take off++[v]++arr.toList.drop (off+1)).toArray=arr.setIfInBounds off v:=by
  apply Array.toList_inj.1;rw[Array.toList_setIfInBounds,List.set_eq_take_append_cons_drop,if_pos (by simpa using adz)];simp
 refine⟨arr.setIfInBounds off v,?_,by simp,λk=>?_⟩
 .rw[<-sh w hb,<-he];unfold execOp;simp only[ho,hx,hv,Instr.storeAt,Instr.sureAddr,storeVar,sizeOf,typeInfo,afW,Sem.run_pure,Result.andThen_ok,run_program,hi,hs,ER,ne_eq,ahs,afx];have bL:(#[v]:Array Value).size=1:=rfl;simp only[bL,ahs,afx];rw[show storeCells ⟨b,off,none⟩ (#[v]:Array Value).toList=storeCells ⟨b,off,none⟩ [v] 0 from rfl];simp only[Nat.add_zero,List.length_singleton]at eh;rw[eh]
  rfl
 .simp only[agl,aiR]
  by_cases hk:off=k
  .subst hk;simp[adz]
  .rw[if_neg hk,if_neg (afQ hk)]
end
def Th{κ:Type}(enc:κ->Value)(es:Array MapEntry)(l:List (κ×Value)):Prop:=es.size=l.length/\∀i (h:i<es.size)(h':i<l.length),(es[i]).key=enc l[i].1/\(es[i]).val=l[i].2
def uu{κ:Type}[BEq κ](k:κ):List (κ×Value)->Nat->Option (Nat×Value)
 |[],_=>none
 |(k',v)::l,i=>if(k==k')=true then some (i,v)else uu k l (i+1)
theorem Th.push{κ:Type}{enc:κ->Value}{es:Array MapEntry}{l:List (κ×Value)}(h:Th enc es l)(k:κ)(v:Value)(born:Nat):Th enc (es.push { key:=enc k,val:=v,born:=born }) (l++[(k,v)]):=by
 refine⟨by simp[h.1],λi hi gq=>?_⟩;rw[Array.getElem_push,List.getElem_append];have hs:=h.1
 by_cases aw:i<es.size
 .rw[dif_pos aw,dif_pos (by omega)];exact h.2 i aw (by omega)
 .rw[dif_neg aw,dif_neg (by omega)];simp
theorem Th.list{κ:Type}{enc:κ->Value}{es:Array MapEntry}{l:List (κ×Value)}(h:Th enc es l):∀i (h:i<es.toList.length)(h':i<l.length),(es.toList[i]).key=enc l[i].1/\(es.toList[i]).val=l[i].2:=λi hi gq=>by
 have:=h.2 i (by simpa using hi) gq;simpa using this
theorem V'(k:Int):∀(es:List MapEntry)(l:List (Int×Value))(i:Nat),es.length=l.length->(∀j (h:j<es.length)(h':j<l.length),(es[j]).key=.int .i64 l[j].1/\(es[j]).val=l[j].2)->Instr.findNow (.int .i64) (.int .i64 k) es i=some (uu k l i)
 |[],[],_,_,_=>rfl
 |[],_::_,_,h,_=>by simp at h
 |_::_,[],_,h,_=>by simp at h
 |e::es,(k',v)::l,i,hl,h=>by
  obtain⟨h1,h2⟩:=h 0 (by simp) (by simp);simp only[List.getElem_cons_zero]at h1 h2;unfold Instr.findNow uu;rw[h1];simp only[Instr.sameNow,afH]
  by_cases hk:k=k'
  .subst hk;simp[h2]
  .have:(k==k')=false:=by simpa using hk
   rw[this];simp only[afj,afx]
   exact V' k es l (i+1) (by simpa using hl) λj hj fj=>h (j+1) (ahQ hj) (ahQ fj)
section
variable{P:Program}{a:Act}{w:World}
theorem Hj {o:Oper} {t kt el:TypeId} {x1 x2 x3:Operand} {b clock:Nat} {es:Array MapEntry} {k:Int} {l:List (Int×Value)} (ho:o.op = .mapUpdate t x1 x2 x3) (mJ:P.underlying t=some (.map kt el)) (hu:P.underlying kt=some (.int .i64)) (h1:a.eval x1 = .map (some b)) (h2:a.eval x2 = .int .i64 k)
  (hb:w.heap[b]?=some (.map es clock)) (he:Th (.int .i64) es l) (nO:uu k l 0=none):(execOp a.eval o).run P w=.ok .skip (w.putObj b (.map (es.push { key:=.int .i64 k,val:=a.eval x3,born:=clock }) (clock+1))):=by
 have hf:=V' k es.toList l 0 (by simpa using he.1) he.list;rw[nO]at hf;have XC:=MapKept.run_findKey (P:=P) (w:=w) hu hf
 have Yq:(Instr.checkKey false 10000 kt (.int .i64 k)).run P w=.ok () w:=by
  unfold Instr.checkKey;simp[afW,agn hu]
 unfold execOp;simp only[ho,h1,h2,Instr.mapUpdate,afW,agn mJ,Result.andThen_ok,aiw hb,Yq,XC,aiX _ hb]
 rfl
theorem Ho {o:Oper} {t kt el:TypeId} {ie:TypeInfo} {z:Value} {x1 x2:Operand} {b clock:Nat} {es:Array MapEntry} {k:Int} {l:List (Int×Value)} (ho:o.op = .lookup t x1 x2 false) (mJ:P.underlying t=some (.map kt el)) (hu:P.underlying kt=some (.int .i64)) (hi:P.info? el=some ie) (hz:ie.zero=some z)
  (h1:a.eval x1=.map (some b)) (h2:a.eval x2=.int .i64 k) (hb:w.heap[b]?=some (.map es clock)) (he:Th (.int .i64) es l):(execOp a.eval o).run P w=.ok (.value (((uu k l 0).map (·.2)).getD z)) w:=by
 have hf:=V' k es.toList l 0 (by simpa using he.1) he.list;have XC:=MapKept.run_findKey (P:=P) (w:=w) hu hf
 have Yq:∀e,(Instr.checkKey e 10000 kt (.int .i64 k)).run P w=.ok () w:=λe=>by
  unfold Instr.checkKey;simp[afW,agn hu]
 unfold execOp;simp only[ho,h1,h2,Instr.lookup,afW,agn mJ,Result.andThen_ok,aiw hb,Sem.run_pure,Yq,XC]
 cases uu k l 0 with
 |none=>simp[zeroValue,typeInfo,hi,hz]
 |some q=>simp
end
def aax(x y:fw):Bool:=match x.dst,x.guard,x.op,y.dst,y.guard,y.op with
 |some d,none,.loadT _ a,some d',none,.loadT _ a'=>d !=d'&&!a'.tmps.contains d&&!a.tmps.contains d'
 |_,_,_,_,_,_=>false
def Un(S:aF)(x y:fw):Prop:=match x.op,y.op with
 |.loadT _ a,.loadT _ a'=>∃i o i' o',ev S a=.box i o/\ev S a'=.box i' o'/\(i≠i'\/o≠o')
 |_,_=>False
section
variable{P:Program}{GI:World->Prop}{md:Region.Mode}{ops:Array Oper}{n:Nat}
theorem acG {x y:fw} {S:aF} {H:aK} {ex ey:aT} (hs:aax x y=true) (hA:Un S x y) (hx:DK P GI x S H ex) (hy:DK P GI y (ex.S S x.dst) (ex.H H) ey) :
  ∃ey' yB,DK P GI y S H ey'/\DK P GI x (ey'.S S y.dst) (ey'.H H) yB/\yB.S (ey'.S S y.dst) x.dst=ey.S (ex.S S x.dst) y.dst/\yB.H (ey'.H H)=ey.H (ex.H H)/\ey'.dm=none:=by
 obtain⟨xd,xg,xo⟩:=x;obtain⟨yd,yg,yo⟩:=y;unfold aax at hs;split at hs
 case h_2=>cases hs
 rename_i d h a d' h' a' q1 q2 q3 q4 q5 q6;simp only at q1 q2 q3 q4 q5 q6;subst q1 q2 q3 q4 q5 q6;simp only[afa,ah9,ne_eq,afT,aht,agD]at hs;obtain⟨⟨hd,EA⟩,Og⟩:=hs;obtain⟨i,o,i',o',e1,e2,dO⟩:=hA;simp only[DK,aD,Ok,aL,e1]at hx;split at hx
 case isFalse=>cases hx
 rename_i eK;split at hx
 case h_2=>cases hx
 rename_i cs IQ;split at hx
 case h_2=>cases hx
 rename_i v hv;cases hx;simp only[aT.S,aY,aT.H]at hy
 have K6:ev (av S d v) a'=.box i' o':=by
  rw[<-e2];exact oq λt ht=>cN _ _ (by rintro rfl;exact EA ht)
 simp only[DK,aD,Ok,aL,K6]at hy;split at hy
 case isFalse=>cases hy
 rename_i NQ;split at hy
 case h_2=>cases hy
 rename_i kd acu;split at hy
 case h_2=>cases hy
 rename_i v' Dn;cases hy
 have A6:ev (av S d' v') a=.box i o:=by
  rw[<-e1];exact oq λt ht=>cN _ _ (by rintro rfl;exact Og ht)
 have hSc:av (av S d' v') d v=av (av S d v) d' v':=by
  funext t
  simp only[av]
  by_cases h1:t=d
  .subst h1;simp[hd]
  .simp[h1]
 by_cases hi:i=i'
 .subst hi
  have ho:o≠o':=by rcases dO with h|h;exact absurd rfl h;exact h
  rw[bm]at acu;cases acu;rw[ai2 ho]at Dn;refine⟨{ v:=v',hw:=some (i,cs.set o' v'.aI) },{ v:=v,hw:=some (i,(cs.set o' v'.aI).set o v.aI) },?_,?_,hSc,?_,rfl⟩
  .simp[DK,aD,Ok,aL,e2,NQ,IQ,Dn]
  .have:(cs.set o' v'.aI)[o]?=some v:=by rw[ai2 (afQ ho)];exact hv
   simp[DK,aD,Ok,aL,aT.S,aT.H,aY,A6,eK,bm,this]
  .simp only[aT.H];rw[List.set_comm _ _ (afQ ho)]
   funext t
   simp only[av]
   split<;>rfl
 .rw[cN _ _ (afQ hi)]at acu;refine⟨{ v:=v',hw:=some (i',kd.set o' v'.aI) },{ v:=v,hw:=some (i,cs.set o v.aI) },?_,?_,hSc,?_,rfl⟩
  .simp[DK,aD,Ok,aL,e2,NQ,acu,Dn]
  .simp[DK,aD,Ok,aL,aT.S,aT.H,aY,A6,eK,cN _ _ hi,IQ,hv]
  .simp only[aT.H]
   funext t
   simp only[av]
   by_cases h1:t=i
   .subst h1;simp[hi]
   .simp[h1]
theorem Un.bI{S S':aF}{x y:fw}(h:Un S x y)(hS:∀t∈x.op.rd++y.op.rd,S' t=S t):Un S' x y:=by
 obtain⟨xd,xg,xo⟩:=x;obtain⟨yd,yg,yo⟩:=y;unfold Un at h⊢;simp only at h hS⊢;split at h
 case h_2=>exact h.elim
 obtain⟨i,o,i',o',e1,e2,dO⟩:=h;refine⟨i,o,i',o',?_,?_,dO⟩
 .rw[<-e1];exact oq λt ht=>hS t (agX _ ht)
 .rw[<-e2];exact oq λt ht=>hS t (aib _ ht)
def stay(P:Program)(n:Nat)(ops:Array Oper)(listed:Array Bool)(ts:List Nat):Prop:=∀k ak,My P n ops k=some ak->listed.getD k true=false->∀t∈ts,t∉ak.writes
theorem aa1 {QA:aF→aK→Prop} {i:Nat} {oi:fw} (hi:My P n ops i=some oi) :
  ∀(fuel:Nat)(listed:Array Bool)(S:aF)(H:aK)(e:aT),
   (∀j o aj,ops[j]?=some o->My P n ops j=some aj->j≠i->listed.getD j true=false->(∀ed∈o.after,Region.binds md ed=true->ed.on≠i)->oi.apart aj=true\/(aax oi aj=true/\Un S oi aj/\stay P n ops listed (oi.op.rd++aj.op.rd)))->
   i∈Region.ready md ops listed->DK P GI oi S H e->
   XT P GI n md ops QA fuel (listed.setIfInBounds i true) (e.S S oi.dst) (e.H H)->XT P GI n md ops QA (fuel+1) listed S H:=by
 intro fuel
 induction fuel with
 |zero=>
  intro listed S H e _ hr hy hK;refine⟨λh=>(by rw[h]at hr;cases hr),λj hj=>?_⟩
  by_cases lg:j=i
  .subst lg;unfold dOp;rw[hi];exact⟨e,hy,hK⟩
  .have:=aiG hj lg;rw[hK.1]at this;cases this
 |succ fuel ih=>
  intro listed S H e G' hr hy hK;refine⟨λh=>(by rw[h]at hr;cases hr),λj hj=>?_⟩
  by_cases lg:j=i
  .subst lg;unfold dOp;rw[hi];exact⟨e,hy,hK⟩
  .have h1:=hK.2 j (aiG hj lg);obtain⟨aaE,o,ho,fX⟩:=aiz.1 hj
   have Xa:My P n ops j=some (og P n true ops o):=by simp[My,ho]
   have adl:∀ed∈o.after,Region.binds md ed=true->ed.on≠i:=λed hed hb heq=>by
    have h1:=fX ed hed hb;have h0:=(aiz.1 hr).1;rw[heq]at h1;rcases ahB i listed.size with h'|h'
    .simp[h']at h0 h1;rw[h0]at h1;cases h1
    .simp[aiJ h']at h1
   have kc:=G' j o _ ho Xa lg aaE adl;unfold dOp at h1⊢;rw[Xa]at h1⊢;obtain⟨ej,hyj,hKj⟩:=h1
   have adX:∀k,(listed.setIfInBounds j true).getD k true=false->listed.getD k true=false:=λk hk=>by
    by_cases Cz:j=k
    .subst Cz;exact aaE
    .rwa [aiB true Cz]at hk
   have Zg:∀ ej':aT,(∀ t,ej'.dm=some t→t∈(og P n true ops o).op.wr)→∀ k o' ak,ops[k]? = some o'→My P n ops k=some ak→k≠i→(listed.setIfInBounds j true).getD k true=false→(∀ ed∈o'.after,Region.binds md ed=true→ed.on≠i) →
     oi.apart ak=true\/(aax oi ak=true/\Un (ej'.S S (og P n true ops o).dst) oi ak/\stay P n ops (listed.setIfInBounds j true) (oi.op.rd++ak.op.rd)):=by
    intro ej' Di k o' ak hk hak hki mJ nO
    rcases G' k o' ak hk hak hki (adX k mJ) nO with h|⟨h1,h2,h3⟩
    .exact .inl h
    .refine .inr ⟨h1,h2.bI λt ht=>?_,λm am hm hu=>h3 m am hm (adX m hu)⟩;have:=h3 j _ Xa aaE t ht;exact aT.XW (λh=>this (EI (.inl h))) (λh=>this (EI (.inr (Di t h))))
   rcases kc with kc|⟨hs,hA,_⟩
   .have Z5:=Yc kc hy hyj;refine⟨ej,Z5,?_⟩;refine ih (listed.setIfInBounds j true) _ _ e (Zg ej (HP hyj).1) (aiG hr (afQ lg)) (Yb kc Z5 hy) ?_;rw[aiD _ _ lg];rw[<-ZG kc (HP hy).1 (HP hyj).1,<-Zm kc (HP hy).2 (HP Z5).2];exact hKj
   .obtain⟨ey',yB,q1,q2,q3,q4,q5⟩:=acG hs hA hy hyj;refine⟨ey',q1,?_⟩;refine ih (listed.setIfInBounds j true) _ _ yB (Zg ey' (λt h=>by rw[q5]at h;cases h)) (aiG hr (afQ lg)) q2 ?_;rw[aiD _ _ lg,q3,q4];exact hKj
def aaP(md:Region.Mode)(ops:Array Oper)(al:List fw)(p q:Nat)(listed:Array Bool)(i:Nat):Bool:=
 match al[i]? with
 |none=>false
 |some oi=>(List.range ops.size).all fun j=>j==i || listed.getD j true || match ops[j]?,al[j]? with
   |some oj,some aj=>oj.after.any (fun e=>Region.binds md e && e.on==i) || oi.apart aj ||
     (i==p&&j==q&&aax oi aj&&(List.range ops.size).all λk=>listed.getD k true||match al[k]? with
      |some ak=>(oi.op.rd++aj.op.rd).all λt=>!ak.writes.contains t
      |none=>true)
   |_,_=>true
def Z9(md:Region.Mode)(ops:Array Oper)(al:List fw)(p q:Nat):List Nat->Array Bool->Bool
 |[],listed=>(Region.ready md ops listed).isEmpty
 |k::r,listed=>(Region.ready md ops listed).contains k&&aaP md ops al p q listed k&&Z9 md ops al p q r (listed.setIfInBounds k true)
theorem aaT {p q i:Nat} {oi:fw} {listed:Array Bool} {S:aF} (hi:My P n ops i=some oi) (h:aaP md ops (mV P n true ops) p q listed i=true) (hS:i=p→∀ aj,My P n ops q=some aj→Un S oi aj) (j:Nat) (o:Oper) (aj:fw)
  (hj:ops[j]?=some o) (Xa:My P n ops j=some aj) (dO:j≠i) (mJ:listed.getD j true=false) (nO:∀e∈o.after,Region.binds md e=true->e.on≠i):oi.apart aj=true\/(aax oi aj=true/\Un S oi aj/\stay P n ops listed (oi.op.rd++aj.op.rd)):=by
 simp only[aaP,EC,hi,afC,afE]at h;have h1:=h j (afe.1 hj).1;simp only[hj,Xa,age,afY,dO,aiW,mJ,afj,afa]at h1
 rcases h1 with(h1|h1)|⟨⟨⟨h1,h2⟩,h3⟩,h4⟩
 .obtain⟨e,he,hb⟩:=aie.1 h1;simp only[afa,afY]at hb;exact absurd hb.2 (nO e he hb.1)
 .exact .inl h1
 .subst h1 h2;refine .inr ⟨h3,hS rfl aj Xa,λk ak hk hu t ht hw=>?_⟩
  have j9:k<ops.size:=by
   unfold My at hk
   cases ho:ops[k]? with
   |none=>rw[ho]at hk;cases hk
   |some x=>exact(afe.1 ho).1
  have h5:=afC.1 h4 k (afE.2 j9);simp only[hu,Bool.false_or,hk]at h5;have:=afC.1 h5 t ht;simp[hw]at this
theorem WV{K K':aF->aK->Prop}(hK:∀S H,K S H->K' S H):∀(l:List fw)(S:aF)(H:aK),eB P GI l K S H->eB P GI l K' S H
 |[],_,_,h=>hK _ _ h
 |o::rest,S,H,h=>by
  simp only[eB]at h⊢;split
  .rename_i hw;simp only[hw]at h;exact XK (λS H=>WV hK rest S H) h
  .rename_i hw;simp only[hw]at h;exact WV hK rest _ _ h
  .rename_i hw;simp only[hw]at h
def YD(P:Program)(GI:World->Prop)(al:List fw)(p q:Nat)(K:aF->aK->Prop):List Nat->aF->aK->Prop
 |[],S,H=>K S H
 |k::r,S,H=>∃o,al[k]?=some o/\(k=p->∀aj,al[q]?=some aj->Un S o aj)/\eB P GI [o] (YD P GI al p q K r) S H
theorem ZF {QA:aF→aK→Prop} {p q:Nat}:∀ (ord:List Nat) (listed:Array Bool) (S:aF) (H:aK),
  Z9 md ops (mV P n true ops) p q ord listed=true->YD P GI (mV P n true ops) p q QA ord S H->XT P GI n md ops QA ord.length listed S H
 |[],_,_,_,hB,h=>⟨by simpa[Z9]using hB,h⟩
 |k::r,listed,S,H,hB,h=>by
  obtain⟨o,ha,hS,h⟩:=h;rw[EC]at ha;simp only[Z9,afa]at hB;obtain⟨⟨hr,hf⟩,TW⟩:=hB;obtain⟨e,hy,hK⟩:=WM h
  exact aa1 ha r.length listed S H e (aaT ha hf (λhk aj Xa=>hS hk aj (by rw[EC];exact Xa))) (by simpa using hr) hy
   (ZF r _ _ _ TW hK)
def adT(P:Program)(n:Nat)(ops:Array Oper)(p q:Nat)(ord:List Nat):Bool:=
 (mV P n true ops).all (·.ok n)&&SY .any ops (mV P n true ops)&&adx (mV P n true ops)&&decide (ord.length=ops.size)&&Z9 .any ops (mV P n true ops) p q ord (Array.replicate ops.size false)
theorem Zy{al:List fw}{p q:Nat}{K:aF->aK->Prop}{r:List Nat}:∀(ks:List Nat)(l:List fw){S:aF}{H:aK},ks.map (al[·]?)=l.map some->(∀k∈ks,k≠p)->eB P GI l (YD P GI al p q K r) S H->YD P GI al p q K (ks++r) S H
 |[],[],_,_,_,_,h=>h
 |[],_::_,_,_,h,_,_=>by simp at h
 |_::_,[],_,_,h,_,_=>by simp at h
 |k::ks,o::l,S,H,he,hp,h=>by
  simp only[afv,ahc]at he;refine⟨o,he.1,λhk=>absurd hk (hp k (by simp)),?_⟩
  have hm:∀S H,eB P GI l (YD P GI al p q K r) S H->YD P GI al p q K (ks++r) S H:=λS H h=>Zy ks l he.2 (λk hk=>hp k (afk _ hk)) h
  simp only[eB]at h⊢;split
  .rename_i hw;simp only[hw]at h;exact XK hm h
  .rename_i hw;simp only[hw]at h;exact hm _ _ h
  .rename_i hw;simp only[hw]at h
end
section
variable{P:Program}{GI:World->Prop}{n:Nat}{ops:Array Oper}{S:aF}{H:aK}
end
section
variable{P:Program}{GI:World->Prop}{n m:Nat}{Q:Exit->Act->World->Prop}
section
variable{ops:Array Oper}{p:Nat}{la l:Array Bool}(hp:p<=ops.size)
 (hw:∀i o,ops[i]?=some o->if i<p then∀e∈o.after,Region.binds .any e=true->e.on<i else∀j,j<p->∃e∈o.after,Region.binds .any e=true/\e.on=j)
include hp hw
end
end
section
variable{P:Program}{Q:Exit->Act->World->Prop}{ro:Option Nat}{m n:Nat}{ops:Array Oper}
structure AI(ops:Array Oper)(n:Nat)(a0:Act)(val:Nat->Value)(l:Array Bool)(a:Act):Prop where
 size:a.tmps.size=n
 defers:a.defers=a0.defers
 old:∀t:Nat,(∀(i:Nat)(o:Oper),ops[i]?=some o->o.dst≠some t)->a.tmps.getD t undef=a0.tmps.getD t undef
 got:∀(i:Nat)(o:Oper)(t:Nat),ops[i]?=some o->o.dst=some t->l.getD i false=true->a.tmps.getD t undef=val t
section
variable{a:Act}{w:World}
theorem KW {i:Nat} {rest:List Nat} {o:Oper} (ho:ops[i]? = some o) (hw:Region.wanted o (yielded ops a.tmps)=true) (l7:wN o.op=true) {v:Value} {w':World}
  (hr:(execOp a.eval o).run P w=.ok (.value v) w') (hk:wpOpsIn (FR ro) m P ops Q rest (a.put o.dst v) w'):wpOpsIn (FR ro) m P ops Q (i::rest) a w:=by
 simp only[wpOpsIn,ho];rw[if_pos hw];refine⟨λ_ _=>trivial,?_⟩;rw[ah6 _ _ _ (λc hc=>by rw[hc]at l7;cases l7),hr];exact hk
end
end
section
variable{P:Program}{GI:World->Prop}{w0:World}{n:Nat}{g:Gh}{S:aF}{H:aK}{a:Act}{w:World}
theorem Rel.Tf (R:Rel P w0 n dU g S H a w) (d:Nat) (hd:d < n) (ib:¬ g.old.bx d) (cs:List AV) (vs:Array Value) (ty:TypeId) (hr:Ts g.Pr w cs vs)
  (ho:∀(g':Gh) j (h:j<cs.length)(h':j<vs.size),(cs[j]).OJ/\A2 P w g' (.cell d j) cs[j] vs[j]):
  ∃g',g'.base=g.base/\g'.old=g.old/\g'.hi=g.hi/\g'.owner=g.owner/\g'.al d=some w.heap.size/\Rel P w0 n dU g' (av (λt=>cE d (S t)) d (.box d 0)) (av H d (some cs)) (a.put (some d) (.pointer (some ⟨w.heap.size,0,none⟩))) (w.alloc (.cells vs ty)):=by
 have R1:=R.suspend d ib (.box d 0) cs;have R2:=R1.aa' d (.inr rfl) hd cs vs ty (bm _ _ _) (bm _ _ _) hr.1 hr.2.1 (λj h h'=>ho _ j h h') hr.2.2;rw[aaD]at R2;exact⟨{ g with al:=av (av g.al d none) d (some w.heap.size) },rfl,rfl,rfl,rfl,bm _ _ _,R2⟩
theorem Jv{o:Oper}{t:TypeId}{it:TypeInfo}{z:Value}(ho:o.op=.alloc t)(hi:P.info? t=some it)(hz:it.zero=some z):(execOp a.eval o).run P w=.ok (.value (.pointer (some ⟨w.heap.size,0,none⟩))) (w.alloc (.cells z.cells t)):=by
 unfold execOp;simp[ho,Instr.alloc,zeroValue,typeInfo,hi,hz,newVar,newRow]
theorem EU {o:Oper} {t:TypeId} {x y:Operand} {b:Nat} {c:Value} {vs:Array Value} {ty:TypeId} {i:TypeInfo} (ho:o.op = .store t x y) (hx:a.eval x = .pointer (some ⟨b,0,none⟩)) (hi:P.info? t=some i) (hb:w.heap[b]? = some (.cells vs ty (0,0))) (hy:a.eval y=c)
  (bL:c.cells.size=i.size) (AK:vs.size=i.size) (pV:∀u∈c.cells.toList,u.oneCell'=true):(execOp a.eval o).run P w=.ok .skip (w.setRow b c.cells):=by
 have eh:=aiH P b 0 ty c.cells.toList 0 vs w hb (by simp;omega) pV
 have e:(vs.toList.take 0++c.cells.toList++vs.toList.drop (0+c.cells.toList.length)).toArray=c.cells:=by
  simp[agx,bL,AK]
 simp only[Nat.add_zero]at eh;rw[e]at eh;unfold execOp;simp only[ho,hx,hy,Instr.storeAt,Instr.sureAddr,storeVar,sizeOf,typeInfo,afW,Sem.run_pure,Result.andThen_ok,run_program,hi,bL,ne_eq,ahs,afx];rw[show storeCells ⟨b,0,none⟩ c.cells.toList=storeCells ⟨b,0,none⟩ c.cells.toList 0 from rfl,eh]
 rfl
end
end Go.AL
namespace Go.Proofs.Tryz
open Go.AL
noncomputable def codeOf(f:Go.Func):Go.Code:=match f.body with|some c=>c|none=>f.body.get!
abbrev Ev(n:Nat)(f:Go.Func):={c:af//kT prog n (codeOf f)=c}
def _root_.Go.Code.cA:Go.Code->Go.Code
 |.seq x _=>x
 |.cond _ x _=>x
 |c=>c
def _root_.Go.Code.cB:Go.Code->Go.Code
 |.seq _ y=>y
 |.cond _ _ y=>y
 |.block _ c=>c
 |.loop c=>c
 |c=>c
noncomputable def _root_.Go.Func.cO(f:Go.Func):Go.Code:=match f.body with|some c=>c|none=>f.body.get!
@[simp] noncomputable def gO(n:Nat)(c:Go.Code){a:af}(_h:kT prog n c=a:=by conv=>lhs;cbv):af:=a
end Go.Proofs.Tryz
namespace Go.AL
theorem aN{n:Int}(h: -9223372036854775808<=n/\n<9223372036854775808):IntKind.i64.wrap n=n:=by
 have key:∀m:Int,m=n % 18446744073709551616->(if decide (m>=9223372036854775808)=true then m-18446744073709551616 else m)=n:=by
  intro m hm;split
  .rename_i hd;have:=agE hd;omega
  .rename_i hd
   have Zd:¬m>=9223372036854775808:=λhh=>hd (ago hh)
   omega
 exact key _ rfl
def ints(l:List Int):List AV:=l.map (.int .i64)
theorem b_(l:List Int):(ints l).length=l.length:=by simp[ints]
theorem df(l:List Int)(i:Nat)(h:i<(ints l).length):(ints l)[i]=.int .i64 (l[i]'(by simpa[ints]using h)):=by simp[ints]
def vI(l:List Int):AV:=.slice .view (ints l)
def int(n:Int):AV:=.int .i64 n
theorem bz.of_eq{Pr fl:Nat->Nat->Prop}{w w':World}(h:∀b k,Pr b k->fl b k/\w'.heap[b]?=w.heap[b]?):bz Pr fl w w':={
 cell b k hp u hu:=⟨(h b k hp).1,by rw[ahY (w:=w) (h b k hp).2];exact hu⟩
 map b hp es c hm:=⟨(h b 0 hp).1,by rw[(h b 0 hp).2];exact hm⟩ }
theorem RV.dN{Pr:Nat->Nat->Prop}{al:Nat->Option Nat}{w:World}{b:Bool}{c:Value}(h:RV Pr al w (.bool b) c):c=.bool b:=by
 cases h;rename_i h;cases h;rfl
theorem RV.int_eq{Pr:Nat->Nat->Prop}{al:Nat->Option Nat}{w:World}{k:IntKind}{n:Int}{c:Value}(h:RV Pr al w (.int k n) c):c=.int k n:=by
 cases h;rename_i h;cases h;rfl
theorem RV.eU{Pr:Nat->Nat->Prop}{al:Nat->Option Nat}{w:World}{v c:Value}(h:RV Pr al w (.val v) c):c=v:=by
 cases h;rename_i h;cases h;rfl
theorem eY{P:Program}{ro:Option Nat}{m:Nat}{c:Code}{Q:Exit->Act->World->Prop}{a:Act}{w:World}(A:Act->Prop)(ha:A a)(h:∀a,A a->c.wpIn (FR ro) m P Q a w):c.wpIn (FR ro) m P Q a w:=h a ha
theorem rk {P:Program} {a:Act} {w:World} {ro:Option Nat} {m:Nat} {Q:Exit→Act→World→Prop} {ops:Array Oper} {i:Nat} {rest:List Nat} {o:Oper} (ho:ops[i]? = some o) (hg:o.guard=none) (l7:wN o.op=true) {f:Nat} {args:Array Value} {w':World}
    (hr:(execOp a.eval o).run P w=.ok (.enter f args) w') {R:Ending->World->Prop} (hc:Calls P f args w' R)
    (hk:∀e yT,R e yT->match e with|.returned v=>wpOpsIn (FR ro) m P ops Q rest (a.put o.dst v) yT|.panicked ch=>Q (.panic ch) a yT|.outgrown=>False):wpOpsIn (FR ro) m P ops Q (i::rest) a w:=by
  simp only[wpOpsIn,ho]
  have:Region.wanted o (yielded ops a.tmps)=true:=by simp[Region.wanted,hg]
  rw[if_pos this];refine⟨λ_ _=>trivial,?_⟩;rw[ah6 _ _ _ (λc hc=>by rw[hc]at l7;cases l7),hr];refine⟨λh=>by simp[FR,Fence.wide]at h,lR.2 (hc.mono λe yT hh=>?_)⟩;have:=hk e yT hh
  cases e with
  |returned v=>exact this
  |panicked ch=>exact this
  |outgrown=>exact this.elim
theorem yF {P:Program} {a:Act} {w:World} {m:Nat} {Q:Exit→Act→World→Prop} {ops:Array Oper} {i:Nat} {rest:List Nat} {o:Oper} (ho:ops[i]? = some o) (hg:o.guard=none) {d:Deferred} {w':World}
    (hr:(execOp a.eval o).run P w=.ok (.defer d) w') (hk:wpOpsIn (FR none) m P ops Q rest ({ a with defers:=d::a.defers }.put o.dst undef) w'):wpOpsIn (FR none) m P ops Q (i::rest) a w:=by
  simp only[wpOpsIn,ho]
  have:Region.wanted o (yielded ops a.tmps)=true:=by simp[Region.wanted,hg]
  rw[if_pos this];refine⟨λ_ _=>trivial,?_⟩;show Oper.uponIn _ _ _ _ _ _ _ ((Oper.semAt none a.eval o).run P w);rw[Oper.semAt_none,hr];exact hk
section
variable{P:Program}{GI:World->Prop}{n:Nat}{ro:Option Nat}{old:Old}{S:aF}{H:aK}{Q:mL}
theorem SW.cut (hG:au GI) (hm:P.follows .mixedOrders=true) {x y:Code} (hc:ur x=true) {ac:af} (wR:kT P n x=ac) (ib:∀ d∈ac.names,¬ old.bx d) (K:aF→aK→Prop) (h:bO P GI ac (aP K) S H)
  (hy:∀S' H',K S' H'->SW P GI n ro y Q old S' H'):SW P GI n ro (.seq x y) Q old S H:=by
 subst wR;intro w0 g a w m dS ho R;refine afc (ah4 (JG hG dS hm x (aP K) g S H a w hc ib ho R h) ?_);intro e a' w' hq
 cases e with
 |normal=>
  obtain⟨g',S',H',h1,h2,h3⟩:=hq;exact hy S' H' h3 w0 g' a' w' m dS h1 h2
 |exit id=>obtain⟨_,_,_,_,_,h⟩:=hq;exact h.elim
 |ret=>obtain⟨_,_,_,_,_,h⟩:=hq;exact h.elim
 |panic ch=>obtain⟨_,_,_,_,_,_,_,_,_,_,h⟩:=hq;exact h.elim
 |goto l=>exact hq.elim
 |outgrown=>exact hq.elim
end
section
variable{P:Program}{GI:World->Prop}{n:Nat}{ro:Option Nat}{old:Old}{S:aF}{H:aK}{Q:mL}{b:Frame}{a:Act}{k:List Item}{cs:List Frame}{w:World}
theorem aaY{c:Code}:step P (lone (b.atR a (.code (.scope c)::k)) cs w)=.next (lone (b.atR a (.code c::.inScope c::k)) cs w):=
 step_lone_go (by simp[stepG,stepG.exec,Frame.atR])
theorem Zv{c:Code}:step P (lone (b.atR a (.inScope c::k)) cs w)=.next (lone (b.atR a k) cs w):=
 step_lone_go (by simp[stepG,stepG.exec,Frame.atR])
theorem SW.scope{c:Code}(h:SW P GI n ro c Q old S H):SW P GI n ro (.scope c) Q old S H:=by
 intro w0 g a w m hG ho R b k cs Xk hF hr;obtain⟨e,JW,Oc,hq,Hw⟩:=h w0 g a w m hG ho R b (.inScope c::k) cs Xk hF hr
 have s1:StepsIn (Machine.fenced P (FR ro)) P (lone (b.atR a (.code (.scope c)::k)) cs w) (lone (b.atR a (.code c::.inScope c::k)) cs w):=
  .one (aix (F:=FR ro) (fr:=b.atR a (.code (.scope c)::k)) trivial hr rfl) aaY
 have ex:∀id,exitTo id (.inScope c::k)=exitTo id k:=λid=>by simp[exitTo]
 refine⟨e,JW,Oc,hq,.of_steps s1 ?_⟩
 cases e with
 |normal=>exact aiT Hw (.one (aix (F:=FR ro) (fr:=b.atR JW (.inScope c::k)) trivial hr rfl) Zv)
 |exit id=>exact⟨λk' hk=>Hw.1 k' (by rw[ex];exact hk),λhh hk=>Hw.2 hh (by rw[ex];exact hk)⟩
 |goto l=>exact hq.elim
 |ret=>exact Hw
 |panic ch=>exact Hw
 |outgrown=>exact hq.elim
theorem SW.label{l:Nat}(h:Q .normal old S H):SW P GI n ro (.label l) Q old S H:=
 λ_ g _ _ _ _ ho R=>wpIn_label ⟨g,S,H,R,by rw[ho];exact h⟩
end
section
theorem fU {P:Program} {a:Act} {o:Oper} {cl:Call} {k:Nat} {args:Array Value} (w:World) (ho:o.op = .call cl) (hc:cl.callee = .value (.func k)) (ha:cl.args.map a.eval=args) (hk:dZ P k=true) :
  (execOp a.eval o).run P w=.ok (.enter k args) w:=by
 unfold execOp;simp only[ho,eV hc,show a.eval (.func k)=.func (.func k) #[] #[]from rfl,Deferred.ofValue,afW,Sem.run_pure,Result.andThen_ok,invoke,ai7,ai8,ha];rw[je hk]
theorem bt(a:Act)(d t:Nat)(c:Value)(hd:d<a.tmps.size):(a.put (some d) c).eval (.tmp t)=if t=d then c else a.eval (.tmp t):=ji a d t c hd
theorem iU(a:Act)(d:Option Nat)(c:Value):(a.put d c).tmps.size=a.tmps.size:=by cases d<;>simp[Act.put]
end
end Go.AL
namespace Go.AL
open Go.RowKit
section
variable{P:Program}{GI:World->Prop}{n:Nat}{a:Act}{w w0:World}{m:Nat}{Q:Exit->Act->World->Prop}{g:Gh}{S:aF}{H:aK}{ro:Option Nat}
theorem fS (R:Rel P w0 n dU g S H a w) (hG:au GI) (dS:GI w0) (hm:P.follows .mixedOrders=true) {id:Nat} {ops:Array Oper} {draw:Bool} (hc:ur (.region id ops draw)=true) {ac:af} (wR:kT P n (.region id ops draw)=ac) {W:Nat→Bool} (hW:Ai ops W=true)
  (ib:∀d,¬g.old.bx d) {K:aF->aK->Prop} (h:bO P GI ac (aP K) S H)
  (hk:∀g' S' H' a' w',g'.old=g.old->Rel P w0 n dU g' S' H' a' w'->K S' H'->fC W a a'->Q .normal a' w'):(Code.region id ops draw).wpIn (FR ro) m P Q a w:=by
 subst wR
 have fin:∀e a' w',YB W a (QQ P w0 n g.old (aP K)) e a' w'->Q e a' w':=by
  intro e a' w' hq
  cases e with
  |normal=>
   obtain⟨⟨g',S',H',h1,h2,h3⟩,h4⟩:=hq;exact hk g' S' H' a' w' h1 h2 h3 h4
  |exit id=>obtain⟨_,_,_,_,_,h⟩:=hq;exact h.elim
  |ret=>obtain⟨_,_,_,_,_,h⟩:=hq;exact h.elim
  |panic ch=>obtain⟨_,_,_,_,_,_,_,_,_,_,h⟩:=hq;exact h.elim
  |goto l=>exact hq.elim
  |outgrown=>exact hq.elim
 simp only[kT]at h
 cases draw with
 |true=>
  simp only[afH]at h;split at h
  case isFalse=>exact h.elim
  rename_i eK;exact aid hm (ET fin _ _ _ _ (JS hW _ _ _ _ (Rj hG dS hm hc eK (λ_ _ _ _=>ib _) rfl R h)))
 |false=>
  simp only[afj,afx]at h;split at h
  case isFalse=>exact h.elim
  rename_i eK;exact afq (ES fin _ _ _ (JR hW _ _ _ (Uh hG dS hc eK (λ_ _ _ _=>ib _) rfl R h)))
theorem iQ{o:Oper}{t:TypeId}{z:Value}(ho:o.op=.alloc t)(hz:(P.info? t).bind (·.zero)=some z):(execOp a.eval o).run P w=.ok (.value (.pointer (some ⟨w.heap.size,0,none⟩))) (w.alloc (.cells z.cells t)):=by
 obtain⟨it,h1,h2⟩:=af5.1 hz;unfold execOp;simp[ho,Instr.alloc,zeroValue,typeInfo,h1,h2,newVar,newRow]
theorem kB{o:Oper}{fn:Fn}{c:Array Operand}(ho:o.op=.makeFunc fn #[] c):(execOp a.eval o).run P w=.ok (.value (.func fn #[] (c.map a.eval))) w:=by
 simp[execOp,ho,Instr.makeFunc]
end
section
variable{P:Program}{GI:World->Prop}{n:Nat}{ro:Option Nat}{old:Old}{S:aF}{H:aK}{Q:mL}{a:Act}{w:World}
theorem run_makeMap{o:Oper}{t:TypeId}(ho:o.op=.makeMap t none):(execOp a.eval o).run P w=.ok (.value (.map (some w.heap.size))) (w.alloc (.map #[] 0)):=by
 unfold execOp;simp[ho,Instr.makeMap,run_newObj_alloc]
theorem JE {o:Oper} {t kt el:TypeId} {fs:Array Field} {k:Nat} {x1 x2 x3:Operand} {b clock:Nat} {es:Array MapEntry} {key:List Int} {val:Value} {ks vs:List AV} {Pr:Nat→Nat→Prop} (ho:o.op = .mapUpdate t x1 x2 x3)
  (mJ:P.underlying t=some (.map kt el)) (hu:P.underlying kt=some (.struct fs)) (hk:Pa P 10000 kt=some k) (h1:a.eval x1=.map (some b)) (h2:a.eval x2=.agg (CJ key)) (h3:a.eval x3=val)
  (hb:w.heap[b]?=some (.map es clock)) (hl:key.length=k) (j9:ks.length=es.size) (XD:vs.length=es.size) (hks:∀i (h:i<ks.length)(h':i<es.size),RD Pr w ks[i] (es[i]).key) (AK:∀i (h:i<vs.length)(h':i<es.size),RD Pr w vs[i] (es[i]).val)
  (nO:rA key ks vs=some none):(execOp a.eval o).run P w=.ok .skip (w.putObj b (.map (es.push { key:=.agg (CJ key),val:=val,born:=clock }) (clock+1))):=by
 have AM:(match P.underlying kt with|some (.array _ _)|some (.struct _)=>true|_=>false)=true:=by rw[hu]
 have Yq:=W9 (P:=P) (w:=w) false 10000 kt k hk key hl;simp only[Tu,hu]at Yq;obtain⟨q,q1,q2⟩:=Od (w:=w) (Pr:=Pr) hu hk key hl ks vs es.toList 0 none (by simpa using j9) (by simpa using XD) (λj h h'=>by simpa using hks j h (by simpa using h')) (λj h h'=>by simpa using AK j h (by simpa using h')) nO
 have hq:q=none:=by cases q with|none=>rfl|some p=>exact q2.elim
 subst hq;have XC:=(run_findKey_eq (P:=P) (w:=w) AM (.agg (CJ key)) es.toList).trans q1;unfold execOp;simp only[ho,h1,h2,h3,Instr.mapUpdate,afW,agn mJ,Result.andThen_ok,aiw hb,Yq,XC,aiX _ hb]
 rfl
end
section
variable{P:Program}{GI:World->Prop}{n m:Nat}{a:Act}{w w0:World}{Q:Exit->Act->World->Prop}{g:Gh}{S:aF}{H:aK}{ro:Option Nat}
theorem Dm {o:Oper} {s el:TypeId} {len:Nat} {i:TypeInfo} {x1 x2:Operand} {b off k:Nat} (ho:o.op = .indexAddr s x1 x2) (hs:P.underlying s=some (.array len el)) (hi:P.info? el=some i)
  (h1:a.eval x1=.pointer (some ⟨b,off,none⟩)) (h2:a.eval x2=.int .i64 k) (hk:k<len):(execOp a.eval o).run P w=.ok (.value (.pointer (some ⟨b,off+k*i.size,none⟩))) w:=by
 have Hd:(0:Int)<=k:=by omega
 have j9:(k:Int)<len:=by omega
 simp[execOp,ho,h1,h2,Instr.indexAt,asIntOf,agn hs,Hd,j9,sizeOf,typeInfo,hi,ahn,hk,Instr.sureAddr]
theorem uA {o:Oper} {t:TypeId} {d:TypeDesc} {x:Operand} {b off:Nat} {v:Value} {vs:Array Value} {ty:TypeId} (ho:o.op = .load t x) (hx:a.eval x = .pointer (some ⟨b,off,none⟩)) (hd:P.underlying t=some d) (Zd:fg d=false) (hb:w.heap[b]? = some (.cells vs ty (0,0))) (hv:vs[off]? = some v) :
  (execOp a.eval o).run P w=.ok (.value v) w:=by
 refine lP ho hx hd Zd ?_;simp[World.cell?,hb,hv]
theorem AI.bI{ops:Array Oper}{a0:Act}{val:Nat->Value}{l:Array Bool}(h:AI ops n a0 val l a){t:Nat}(ht:ops.all (λo=>o.dst !=some t)=true):a.tmps.getD t undef=a0.tmps.getD t undef:=
 h.old t λi o ho hd=>by
  have:=aip.1 ht o (ahM ho);simp[hd]at this
theorem AI.at{ops:Array Oper}{a0:Act}{val:Nat->Value}{l:Array Bool}(h:AI ops n a0 val l a)(i t:Nat)(ho:∃o,ops[i]?=some o/\o.dst=some t)(hl:l.getD i false=true):a.tmps.getD t undef=val t:=by
 obtain⟨o,h1,h2⟩:=ho;exact h.got i o t h1 h2 hl
end
section
variable{P:Program}{GI:World->Prop}{n m:Nat}{a:Act}{w w0:World}{Q:Exit->Act->World->Prop}{g:Gh}{S:aF}{H:aK}{ro:Option Nat}
theorem Hv{κ:Type}[BEq κ][LawfulBEq κ]{k:κ}:∀{l:List (κ×Value)}{i:Nat},(∀x∈l,x.1≠k)->uu k l i=none
 |[],_,_=>rfl
 |(k',v)::l,i,h=>by
  have h1:k'≠k:=h (k',v) (by simp);unfold uu;rw[if_neg (by simpa using afQ h1)]
  exact Hv λx hx=>h x (afk _ hx)
end
section
variable{P:Program}{GI:World->Prop}{n m:Nat}{a:Act}{w:World}{Q:Exit->Act->World->Prop}{S:aF}{ro:Option Nat}
end
section
variable{P:Program}{n m:Nat}{a:Act}{w:World}{Q:Exit->Act->World->Prop}{ro:Option Nat}
def Ha(P:Program)(t j:Nat):Option (Nat×Nat):=match P.underlying t with
 |some (.struct fs)=>match fs[j]? with
  |some f=>match P.info? f.type with
   |some i=>some (f.offset,i.size)
   |none=>none
  |none=>none
 |_=>none
theorem oC{o:Oper}{s j ZZ sz:Nat}{x:Operand}{b off:Nat}(h:Ha P s j=some (ZZ,sz))(hz:sz≠0)(ho:o.op=.fieldAddr s x j)(hx:a.eval x=.pointer (some ⟨b,off,none⟩)):(execOp a.eval o).run P w=.ok (.value (.pointer (some ⟨b,off+ZZ,none⟩))) w:=by
 unfold Ha at h;split at h
 .rename_i fs eQ;split at h
  .rename_i f hf;split at h
   .rename_i i hi;simp only[agk,aij]at h;obtain⟨rfl,rfl⟩:=h;exact Ze ho eQ hf hi hz hx
   .cases h
  .cases h
 .cases h
end
section
variable{P:Program}{GI:World->Prop}{n m:Nat}{a:Act}{w:World}{Q:Exit->Act->World->Prop}{ro:Option Nat}
def abM(o:Oper):List Nat:=(o.after.toList.filter (Region.binds .any ·)).map (·.on)
def adk(ops:Array Oper):Nat->List Nat->List Nat
 |0,s=>s
 |k+1,s=>adk ops k (if s.contains k then s++((ops[k]?).map abM).getD []else s)
section
variable{ops:Array Oper}{p:Nat}{la l:Array Bool}(hp:p<=ops.size)
 (hw:∀i o,ops[i]?=some o->if i<p then∀e∈o.after,Region.binds .any e=true->e.on<i else∀j,j<p->j∈adk ops i (abM o))
include hp hw
end
end
def RO{α:Type}(P:Program)(x:Sem α):Prop:=∀w r w',x.run P w=.ok r w'->w'=w
def NK{α:Type}(P:Program)(x:Sem α):Prop:=∀w r w',x.run P w≠.ok r w'
section
variable{P:Program}{α β:Type}
theorem RO.pure(a:α):RO P (Pure.pure a:Sem α):=λw r w' h=>by
 have:(Pure.pure a:Sem α).run P w=.ok a w:=rfl;rw[this]at h;cases h;rfl
theorem RO.bind{x:Sem α}{f:α->Sem β}(hx:RO P x)(hf:∀a,RO P (f a)):RO P (x >>= f):=λw r w' h=>by
 rw[afW]at h
 cases hr:x.run P w with
 |ok a w1=>
  rw[hr]at h;have h1:=hf a w1 r w' h;rw[h1,hx w a w1 hr]
 |halt e w1=>rw[hr]at h;cases h
theorem NK.ro{x:Sem α}(h:NK P x):RO P x:=λw r w' hh=>absurd hh (h w r w')
theorem NK.bind{x:Sem α}{f:α->Sem β}(hf:∀a,NK P (f a)):NK P (x >>= f):=λw r w' h=>by
 rw[afW]at h
 cases hr:x.run P w with
 |ok a w1=>rw[hr]at h;exact hf a w1 r w' h
 |halt e w1=>rw[hr]at h;cases h
theorem NK.ad_{x:Sem α}{f:α->Sem β}(hx:NK P x):NK P (x >>= f):=λw r w' h=>by
 rw[afW]at h
 cases hr:x.run P w with
 |ok a w1=>exact hx w a w1 hr
 |halt e w1=>rw[hr]at h;cases h
theorem NK.halt(e:Halt):NK P (.halt e:Sem α):=λw r w' h=>by cases h
theorem RO.load(m:Mode)(a:Addr):RO P (.load m a .pure):=λw r w' h=>by
 simp only[Sem.run]at h;split at h
 .cases h;rfl
 .split at h
  .cases h;rfl
  .cases h
theorem RO.underlying(t:TypeId):RO P (Go.underlying t):=λw r w' h=>by
 simp only[Go.underlying,program]at h;rw[afW]at h;simp only[Sem.run,Result.andThen]at h;split at h
 .cases h;rfl
 .cases h
theorem RO.typeInfo(t:TypeId):RO P (Go.typeInfo t):=λw r w' h=>by
 simp only[Go.typeInfo,program]at h;rw[afW]at h;simp only[Sem.run,Result.andThen]at h;split at h
 .cases h;rfl
 .cases h
theorem RO.sizeOf(t:TypeId):RO P (Go.sizeOf t):=(RO.typeInfo t).bind λ_=>RO.pure _
theorem RO.isAgg(t:TypeId):RO P (Go.isAgg t):=(RO.underlying t).bind λd=>by split<;>exact RO.pure _
theorem RO.loadCellsFrom(a:Addr):∀(n i:Nat)(acc:Array Value),RO P (Go.loadCellsFrom a i n acc)
 |0,_,_=>RO.pure _
 |n+1,i,acc=>(RO.load _ _).bind λ_=>RO.loadCellsFrom a n _ _
theorem RO.loadVar(t:TypeId)(a:Addr):RO P (Go.loadVar t a):=by
 unfold Go.loadVar
 refine(RO.isAgg t).bind λb=>?_
 cases b
 .exact RO.load _ _
 .exact(RO.sizeOf t).bind λn=>(RO.loadCellsFrom a n 0 #[]).bind λ_=>RO.pure _
theorem RO.sureAddr(v:Value):RO P (Instr.sureAddr v):=by
 unfold Instr.sureAddr;split
 .exact RO.pure _
 .exact(NK.halt _).ro
theorem RO.loadAt(t:TypeId)(v:Value):RO P (Instr.loadAt t v):=(RO.sureAddr v).bind λa=>RO.loadVar t a
theorem RO.asIntOf(v:Value):RO P (Go.asIntOf v):=by
 unfold Go.asIntOf;split
 .exact RO.pure _
 .exact(NK.halt _).ro
 .exact(NK.halt _).ro
theorem NK.bounds(k:IntKind)(x y:Int)(c:BoundsCode):NK P (boundsPanic k x y c:Sem α):=by
 have h:∀s:Bool,NK P (runtimePanic (.bounds (IntKind.i64.wrap x) y s c):Sem α):=λs=>NK.bind λp=>NK.halt _
 unfold boundsPanic;dsimp only;split
 .exact NK.bind h
 .exact NK.bind h
theorem RO.indexAt(t:TypeId)(x ix:Value):RO P (Instr.indexAt t x ix):=by
 have key:∀ (k:IntKind) (i:Int) (b:Option Addr) (len:Nat) (elem:TypeId),RO P (do
   let d<-Go.underlying t
   let aeA:Bool:=decide (len<=1)&&(match d with|.array ..=>true|_=>false)
   match b with
   |some a=>
    if 0<=i/\i<(len:Int)then do
     let sz<-Go.sizeOf elem
     Pure.pure (Value.pointer (some (a.add (i.toNat*sz))))
    else if aeA=true then unsupported (Unsupported.noEntry "op/indexAddr.an index out of range at an array of length 0 or 1 (ledger 616)")
    else boundsPanic k i len BoundsCode.index
   |none=>boundsPanic k i 0 BoundsCode.index):=by
  intro k i b len elem
  refine(RO.underlying t).bind λd=>?_
  cases b with
  |some a=>
   simp only;split
   .exact(RO.sizeOf _).bind λ_=>RO.pure _
   .generalize(decide (len<=1)&&_)=tn;cases tn
    .exact(NK.bounds _ _ _ _).ro
    .exact(NK.halt _).ro
  |none=>exact(NK.bounds _ _ _ _).ro
 unfold Instr.indexAt
 refine(RO.asIntOf ix).bind λ⟨k,i⟩=>?_
 refine(RO.underlying t).bind λd=>?_
 dsimp only;split
 .exact(RO.sureAddr _).bind λ_=>(RO.pure _).bind λ⟨base,len,elem⟩=>key k i base len elem
 .exact(RO.pure _).bind λ⟨base,len,elem⟩=>key k i base len elem
 .exact(NK.ad_ (NK.halt _)).ro
theorem ad5{ρ:Operand->Value}{o:Oper}(h:match o.op with|.move _|.assign _|.load ..|.indexAddr ..=>true|_=>false):RO P (execOp ρ o):=by
 unfold execOp
 split at h<;>try cases h
 .rename_i x e;simp only[e];exact RO.pure _
 .rename_i x e;simp only[e];exact RO.pure _
 .rename_i t x e;simp only[e];exact(RO.loadAt _ _).bind λ_=>RO.pure _
 .rename_i t x ix e;simp only[e];exact(RO.indexAt _ _ _).bind λ_=>RO.pure _
theorem me{ρ:Operand->Value}{o:Oper}(h:match o.op with|.move _|.assign _|.load ..|.indexAddr ..=>true|_=>false){w w':World}{x:Next}(hr:(execOp ρ o).run P w=.ok x w'):w'=w/\∃v,x=.value v:=by
 refine⟨ad5 h w x w' hr,?_⟩
 have key:∀(s:Sem Value),(do let v<-s;pure (Next.value v):Sem Next).run P w=.ok x w'->∃v,x=.value v:=λs hs=>by
  rw[afW]at hs
  cases hq:s.run P w with
  |ok a w1=>rw[hq]at hs;cases hs;exact⟨_,rfl⟩
  |halt e w1=>rw[hq]at hs;cases hs
 unfold execOp at hr
 split at h<;>try cases h
 .rename_i x e;simp only[e]at hr;cases hr;exact⟨_,rfl⟩
 .rename_i x e;simp only[e]at hr;cases hr;exact⟨_,rfl⟩
 .rename_i t x e;simp only[e]at hr;exact key _ hr
 .rename_i t x ix e;simp only[e]at hr;exact key _ hr
end
section
variable{P:Program}{ops ops':Array Oper}{Q:Exit->Act->World->Prop}{m:Nat}
structure Zu(ops ops':Array Oper):Prop where
 size:ops'.size=ops.size
 each:∀(i:Nat)(o:Oper),ops[i]?=some o->∃o',ops'[i]?=some o'/\o'.dst=o.dst/\o'.after=o.after/\o'.guard=none/\o.guard=none
theorem Zu.ready(h:Zu ops ops')(l:Array Bool):Region.ready .any ops' l=Region.ready .any ops l:=by
 unfold Region.ready;rw[h.size]
 refine List.filter_congr λi hi=>?_
 have hi:=afE.1 hi;obtain⟨o',sE,_,ha,_⟩:=h.each i _ (agQ hi);rw[sE,agQ hi];simp only[Option.map_some,Option.getD_some,ha]
theorem aab (bb:Zu ops ops') (I:Array Bool→Act→World→Prop)
  (jD:∀(i:Nat)(o o':Oper)(l:Array Bool)(a:Act)(w:World),ops[i]?=some o->ops'[i]?=some o'->l.size=ops.size->l.getD i true=false->I l a w->(∀e∈o.after,Region.binds .any e=true->l.getD e.on false=true)->
   (o.semAt none a.eval).run P w=(o'.semAt none a.eval).run P w/\((∀a' w',I (l.setIfInBounds i true) a' w')\/
    ∀x w',(o.semAt none a.eval).run P w=.ok x w'->∃v,x=.value v/\I (l.setIfInBounds i true) (a.put o.dst v) w')):
  ∀(fuel:Nat)(l:Array Bool)(a:Act)(w:World),l.size=ops.size->I l a w->wpAnyIn (FR none) m P .any ops' Q fuel l a w->wpAnyIn (FR none) m P .any ops Q fuel l a w:=by
 intro fuel
 induction fuel with
 |zero=>
  intro l a w _ _ h;exact⟨(bb.ready l)▸h.1,h.2⟩
 |succ fuel ih=>
  intro l a w hl hI h;refine⟨λhr=>h.1 (by rw[bb.ready];exact hr),λi hi=>?_⟩;have h1:=h.2 i (by rw[bb.ready];exact hi);obtain⟨mJ,o,ho,fX⟩:=aiz.1 hi;obtain⟨o',sE,hd,ha,yP,hg⟩:=bb.each i o ho;obtain⟨he,hx⟩:=jD i o o' l a w ho sE hl mJ hI fX
  have rp:(l.setIfInBounds i true).size=ops.size:=by simpa using hl
  have hw:Region.wanted o (yielded ops a.tmps)=true:=by simp[Region.wanted,hg]
  have OQ:Region.wanted o' (yielded ops' a.tmps)=true:=by simp[Region.wanted,yP]
  simp only[wpOpIn,sE,OQ,afH]at h1;simp only[wpOpIn,ho,hw,afH]
  have hu:∀K r,o'.uponIn (FR none) m P a K Q r=o.uponIn (FR none) m P a K Q r:=λK r=>by unfold Oper.uponIn;rw[hd]
  have h2:o.wpIn (FR none) m P a w (wpAnyIn (FR none) m P .any ops' Q fuel (l.setIfInBounds i true)) Q:=by
   refine⟨λ_ _=>trivial,?_⟩;have h3:=h1.2;rw[hu]at h3
   change o.uponIn (FR none) m P a _ Q ((o'.semAt none a.eval).run P w)at h3
   change o.uponIn (FR none) m P a _ Q ((o.semAt none a.eval).run P w)
   rw[he];exact h3
  rcases hx with hx|hx
  .exact aiQ (λa' w' hh=>ih _ _ _ rp (hx a' w') hh) h2
  .refine⟨h2.1,?_⟩;have h3:=h2.2
   change o.uponIn (FR none) m P a _ Q ((o.semAt none a.eval).run P w)at h3
   change o.uponIn (FR none) m P a _ Q ((o.semAt none a.eval).run P w)
   cases hr:(o.semAt none a.eval).run P w with
   |ok x w'=>
    rw[hr]at h3;obtain⟨v,rfl,hv⟩:=hx x w' hr;simp only[Oper.uponIn_value]at h3⊢;exact ih _ _ _ rp hv h3
   |halt x w'=>
    rw[hr]at h3
    cases x<;>exact h3
def N9(h:Nat->Op->Op)(ops:Array Oper):Array Oper:=ops.mapIdx λi o=>{ o with op:=h i o.op }
theorem Hz(h:Nat->Op->Op)(i:Nat):(N9 h ops)[i]?=(ops[i]?).map λo=>{ o with op:=h i o.op }:=by
 simp[N9]
theorem Hp(h:Nat->Op->Op)(hg:ops.all (λo=>o.guard.isNone)=true):Zu ops (N9 h ops):=by
 refine⟨by simp[N9],λi o ho=>⟨{ o with op:=h i o.op },by rw[Hz,ho];rfl,rfl,rfl,?_,?_⟩⟩
 all_goals
  have:=aip.1 hg o (ahM ho);simpa using this
end
section
variable{P:Program}{GI:World->Prop}{n:Nat}{ops ops':Array Oper}{S:aF}{H:aK}
theorem SW.Us (hG:au GI) (hm:P.follows .mixedOrders=true) {old:Old} {Q:mL} {id:Nat} (bb:Zu ops ops') (l7:ops'.all (fun o=>wN o.op)=true) (eK:adT P n ops' ops'.size ops'.size (List.range ops'.size)=true)
  {l:List fw} (hl:mV P n true ops'=l)
  (hI:∀(w0:World)(g:Gh)(a:Act)(w:World),g.old=old->Rel P w0 n dU g S H a w->∃I:Array Bool->Act->World->Prop,I (Array.replicate ops.size false) a { w with drawn:=w.drawn+1 }/\
   ∀(i:Nat)(o o':Oper)(l:Array Bool)(a:Act)(w:World),ops[i]?=some o->ops'[i]?=some o'->l.size=ops.size->l.getD i true=false->I l a w->(∀e∈o.after,Region.binds .any e=true->l.getD e.on false=true)->
    (o.semAt none a.eval).run P w=(o'.semAt none a.eval).run P w/\((∀a' w',I (l.setIfInBounds i true) a' w')\/
     ∀x w',(o.semAt none a.eval).run P w=.ok x w'->∃v,x=.value v/\I (l.setIfInBounds i true) (a.put o.dst v) w'))
  (h:eB P GI l (λS H=>Q .normal old S H) S H):SW P GI n none (.region id ops true) Q old S H:=by
 subst hl;intro w0 g a w m dS ho R;simp only[adT,afa,aff]at eK;obtain⟨⟨⟨⟨q1,q2⟩,q3⟩,q4⟩,q5⟩:=eK
 have nO:∀j o d z,My P n ops' j=some o->da o=some (d,z)->False:=λj o d z hj hz=>by
  rw[<-EC]at hj;have:=afC.1 q3 o (agB hj);unfold da at hz;split at hz
  .rename_i h _;rw[h]at this;cases this
  .cases hz
 have R0:Rel P w0 n dU g S H a { w with drawn:=w.drawn+1 }:=R.mw ((aga _ w).drew)
 have hU:UU P n ops' (Array.replicate ops'.size false)=dU:=by
  funext t
  simp only[UU,dU,aiF,iff_false];rintro⟨j,o,z,k1,k2,_⟩;exact nO j o t z k1 k2
 obtain⟨I,i0,jD⟩:=hI w0 g a w ho R;refine aid hm (aab bb I jD ops.size _ a _ (by simp) i0 ?_);rw[<-bb.size];refine ET (Q:=QQ P w0 n old (Q.bO old)) (λ_ _ _ hq=>aau hq) _ _ _ _ (YA l7 UH _ _ _ _ (aa4 (Q:=Q.bO old) (old:=old) hG dS q2 (λo Of=>?_) ops'.size (Array.replicate ops'.size false) g S H a _ (by simp) ho (by rw[hU];exact R0) (λj o d z k1 k2 k3=>(nO j o d z k1 k2).elim) ?_))
 .simp only[mV,air,afC,Function.comp]at q1;exact q1 o (by simpa using Of)
 .have:=ZF (P:=P) (GI:=GI) (n:=n) (md:=.any) (ops:=ops') (QA:=Q.bO old .normal) (p:=ops'.size) (q:=ops'.size) (List.range ops'.size) (Array.replicate ops'.size false) S H q5 ?_
  .rw[q4]at this;exact this
  .have:=Zy (P:=P) (GI:=GI) (al:=mV P n true ops') (p:=ops'.size) (q:=ops'.size) (K:=Q.bO old .normal) (r:=[]) (List.range ops'.size) (mV P n true ops') (by
    apply ahW;intro k
    by_cases hk:k<ops'.size
    .simp[hk,mV]
    .simp[hk,mV]) (λk hk=>by have:=afE.1 hk;omega) (S:=S) (H:=H) (WV (λS H h=>h) _ _ _ h)
   simpa using this
end
def T9:AV->Value
 |.bool b=>.bool b
 |.int k n=>.int k n
 |_=>undef
def acv:AV->Bool
 |.bool _|.int _ _=>true
 |_=>false
theorem RD.acz{Pr:Nat->Nat->Prop}{w:World}{v:AV}{c:Value}(h:RD Pr w v c)(hv:acv v=true):c=T9 v:=by
 cases h<;>first|rfl|cases hv
theorem RD.aeC{Pr:Nat->Nat->Prop}{w:World}{v:AV}(hv:acv v=true):RD Pr w v (T9 v):=by
 cases v<;>first|exact .bool _|exact .int _ _|cases hv
theorem aaC{v:AV}(hv:acv v=true):v.one=true:=by cases v<;>first|rfl|cases hv
def SX(es:List AV):List Value:=(es.flatMap AV.cells).map T9
def Ed(size:Nat)(es:List AV):Prop:=∀x∈es,x.storable=true/\x.cells.length=size/\∀c∈x.cells,acv c=true
theorem Ed.elems{size:Nat}{es:List AV}(h:Ed size es):aM size es=true:=QX.2 λv hv=>⟨(h v hv).1,(h v hv).2.1⟩
theorem Ba{size:Nat}:∀{es:List AV},Ed size es->(es.flatMap AV.cells).length=es.length*size
 |[],_=>by simp
 |x::es,h=>by
  rw[agP,afm,Ba λy hy=>h y (afk _ hy),(h x aft).2.1,List.length_cons,ahR];omega
theorem UB{size:Nat}{es:List AV}(h:Ed size es):(SX es).length=es.length*size:=by
 rw[SX,afi,Ba h]
theorem acV(es fs:List AV):SX (es++fs)=SX es++SX fs:=by simp[SX]
theorem flat_get{size:Nat}:∀{es:List AV},Ed size es->∀j (h:j<es.length) k (hk:k<(es[j]).cells.length),(es.flatMap AV.cells)[j*size+k]?=some (es[j]).cells[k]
 |[],_,_,h,_,_=>by simp at h
 |x::es,ho,0,h,k,hk=>by
  rw[agP,ain,af6];exact(ahl hk).trans (ae9 hk)
 |x::es,ho,j+1,h,k,hk=>by
  have hx:=(ho x aft).2.1;rw[agP,ahr (by rw[hx,ahR];omega),hx,show(j+1)*size+k-size=j*size+k by rw[ahR];omega];exact flat_get (λy hy=>ho y (afk _ hy)) j (by simpa using h) k hk
theorem TP{size:Nat}{es:List AV}(ho:Ed size es){j:Nat}(h:j<es.length){k:Nat}(hk:k<(es[j]).cells.length):(SX es)[j*size+k]?=some (T9 (es[j]).cells[k]):=by
 rw[SX,afG,flat_get ho j h k hk];rfl
theorem Ed.flat{size:Nat}{es:List AV}(ho:Ed size es)(Pr:Nat->Nat->Prop)(w:World):rr Pr w size es (SX es):=
 ⟨λx hx=>⟨(ho x hx).2.1,(ho x hx).1,λc hc=>aaC ((ho x hx).2.2 c hc)⟩,λj h k hk=>⟨_,TP ho h hk,RD.aeC ((ho _ (ae_ h)).2.2 _ (ae_ hk))⟩⟩
theorem Ed.app{size:Nat}{es fs:List AV}(h:Ed size es)(h':Ed size fs):Ed size (es++fs):=λx hx=>by
 rcases afr.1 hx with hx|hx
 .exact h x hx
 .exact h' x hx
structure KO(cc:Nat->Nat->Prop)(e:TypeId)(size:Nat)(es:List AV)(o:Old)(v:Value):Prop where
 c:o.c=cc
 ds:o.ds=[]
 bx:∀d,¬o.bx d
 ok:Ed size es
 row:((∃a0,v=.slice a0 0 0)/\es=[])\/∃b cap cur,v=.slice (some ⟨b,0,none⟩) es.length cap/\o.bI b=some (.cells cur e (0,0))/\es.length<=cap/\cap<=maxLen/\cur.size=cap*size/\cur.toList.take (es.length*size)=SX es
section
variable{P:Program}{GI:World->Prop}{w0:World}{n:Nat}{g:Gh}{S:aF}{H:aK}{a:Act}{w:World}{cc:Nat->Nat->Prop}{e:TypeId}{size:Nat}{es:List AV}{v:Value}
theorem Rel.adL (R:Rel P w0 n dU g S H a w) {b:Nat} (hf:Xn g b) {o:Obj} (ho:w.heap[b]? = some o) :
  Rel P w0 n dU { g with old:={ g.old with bI:=av g.old.bI b (some o) } } S H a w:=by
 refine{ size:=R.size,defers:=R.defers,facts:=R.facts,slot:=R.slot,own:=λt ht hu=>(R.own t ht hu).bI rfl λb hb=>⟨rfl,rfl,hb⟩,box:=?_,Cf:=R.Cf,BB:=R.BB,inj:=R.inj,base:=R.base,below:=R.below,fresh:=R.fresh,still:=R.still,grown:=R.grown,kept:=?_ }
 .intro i c hi;obtain⟨cs,vs,ty,h1,h2,h3,h4,h5,h6,h7,h8,h9⟩:=R.box i c hi;exact⟨cs,vs,ty,h1,h2,h3,h4,h5,h6,h7,λj hj fj=>(h8 j hj fj).bI rfl λb hb=>⟨rfl,rfl,hb⟩,h9⟩
 .intro c ob h
  by_cases l8:c=b
  .subst l8
   have:ob=o:=by simpa[av]using h.symm
   subst this;exact⟨hf.1,ho,hf.2.1,hf.2.2.1,hf.2.2.2⟩
  .exact R.kept c ob (by simpa[av,l8]using h)
theorem Rel.acO (R:Rel P w0 n dU g S H a w) {b:Nat} {o:Obj} (hk:g.old.bI b=some o) :
  Rel P w0 n dU { g with old:={ g.old with bI:=av g.old.bI b none } } S H a w/\Xn { g with old:={ g.old with bI:=av g.old.bI b none } } b/\w.heap[b]?=some o:=by
 obtain⟨k1,k2,k3,k4,k5⟩:=R.kept b o hk;refine⟨?_,⟨k1,k3,k4,k5⟩,k2⟩;refine{ size:=R.size,defers:=R.defers,facts:=R.facts,slot:=R.slot,own:=λt ht hu=>(R.own t ht hu).bI rfl λb hb=>⟨rfl,rfl,hb⟩,box:=?_,Cf:=R.Cf,BB:=R.BB,inj:=R.inj,base:=R.base,below:=R.below,fresh:=R.fresh,still:=R.still,grown:=R.grown,kept:=?_ }
 .intro i c hi;obtain⟨cs,vs,ty,h1,h2,h3,h4,h5,h6,h7,h8,h9⟩:=R.box i c hi;exact⟨cs,vs,ty,h1,h2,h3,h4,h5,h6,h7,λj hj fj=>(h8 j hj fj).bI rfl λb hb=>⟨rfl,rfl,hb⟩,h9⟩
 .intro c ob h
  have hc:c≠b:=by rintro rfl;simp[av]at h
  exact R.kept c ob (by simpa[av,hc]using h)
theorem Rel.Z0 (R:Rel P w0 n dU g S H a w) (hp:g.old.c=cc∧g.old.ds=[]∧∀ d,¬ g.old.bx d) {w':World} (hb:Below w.heap.size w w') (eK:Ed size es) (h_:w'.ownsRow w.heap.size e size v es.length (SX es)) :
  ∃g',Rel P w0 n dU g' S H a w'/\KO cc e size es g'.old v:=by
 rcases h_.2 with⟨rfl,h0⟩|⟨b,cap,cur,rfl,Ju,hg,h1,h2,h3,h4⟩
 .exact⟨g,R.mw hb,hp.1,hp.2.1,hp.2.2,eK,.inl ⟨⟨_,rfl⟩,afR h0⟩⟩
 .exact⟨_,R.acr hb Ju hg,hp.1,hp.2.1,hp.2.2,eK,.inr ⟨b,cap,cur,rfl,bm _ _ _,h1,h2,h3,h4⟩⟩
theorem KO.append (R:Rel P w0 n dU g S H a w) {i:TypeInfo} (hK:KO cc e i.size es g.old v) {o:Oper} {cl:Call} {t:TypeId} {z:Value} {x1 x2:Operand} (ho:o.op = .call cl) (yS:cl.callee = .builtin .append) (Zc:cl.args = #[x1,x2]) (xi:cl.argTypes = #[t,t])
  (mJ:P.underlying t=some (.slice e)) (hi:P.info? e=some i) (hz:i.zero=some z) (TD:z.cells.size=i.size) (hby:i.bytes<=65536) (hv:a.eval x1=v) {y2:pR} (AJ:lQ n x2=some y2) {oo:Ow} {x:AV} (hS:ev S y2=.slice oo [x]) (hx:Ed i.size [x]) (hlen:es.length+1<=2097152):
  ∃v' w' g',(execOp a.eval o).run P w=.ok (.value v') w'/\Rel P w0 n dU g' S H a w'/\KO cc e i.size (es++[x]) g'.old v':=by
 have hle:g.base<=w.heap.size:=by rw[R.base];exact R.below.size
 have qD:=R.ev AJ (λ_ _=>id);rw[hS]at qD
 have run:∀v' w',(Builtin.append_ #[t,t] o.type #[v,a.eval x2]).run P w=.ok v' w'->(execOp a.eval o).run P w=.ok (.value v') w':=by
  intro v' w' h;rw[<-hv]at h;unfold execOp;simp[ho,yS,Zc,xi,resolve,invoke,builtin,h]
 have bytes:∀m,m<=2097152->m*i.bytes<=140737488355328:=λm hm=>agu (aii hm hby) (by decide)
 rcases(qD.j_ rfl).Pb i.size hx.elems with⟨h0,_⟩|⟨b,off,cap,news,K4,hl,hn,h1,hr⟩
 .cases h0
 have WA:news=SX [x]:=by
  apply ahW;intro j
  by_cases hj:j<i.size
  .have A5:([x][0]).cells.length=i.size:=(hx x (by simp)).2.1;obtain⟨u,u1,u2⟩:=hr 0 (by simp) j (by rw[A5];exact hj);have e1:=TP hx (j:=0) (by simp) (k:=j) (by rw[A5];exact hj);rw[ain,af6]at u1 e1;rw[u1,e1,u2.acz ((hx x (by simp)).2.2 _ (ae_ _))]
  .rw[afn (by rw[hl];simp;omega),afn (by rw[UB hx];simp;omega)]
 have NQ:Ed i.size (es++[x]):=hK.ok.app hx
 have DG:(es++[x]).length=es.length+1:=by simp
 rcases hK.row with⟨⟨a0,rfl⟩,rfl⟩|⟨bk,aeY,cur,hvk,hk,q1,q2,q3,q4⟩
 .obtain⟨v',w',r1,r2,r3,r4,r5⟩:=VQ (P:=P) (w:=w) w.heap.size t o.type e i z mJ hi hz TD a0 ⟨b,off,none⟩ 1 cap news (by rw[hl];rfl) (λj u hu=>by rw[ahn];exact hn j u hu) (by omega) (by omega) (bytes _ (by omega)) (afg _);rw[WA]at r2;obtain⟨g',R',hK'⟩:=R.Z0 (es:=[x]) ⟨hK.c,hK.ds,hK.bx⟩ ⟨r4.os,r4.tape,r4.output,r4.size,λk hk=>r4.block k hk (by simp)⟩ hx r2;exact⟨v',w',g',run _ _ (by rw[K4];exact r1),R',hK'⟩
 .have dO:es≠[]\/es=[]:=(Decidable.em _).symm;obtain⟨k1,k2,k3,k4,k5⟩:=R.kept bk _ hk
  have h_:w.ownsRow g.base e i.size v es.length (SX es):=⟨UB hK.ok,.inr ⟨bk,aeY,cur,hvk,k1,k2,q1,q2,q3,q4⟩⟩
  obtain⟨v',w',b',r1,r2,r3,r4⟩:=Uq (P:=P) (w:=w) g.base t o.type e i z mJ hi hz TD v es.length (SX es) bk h_ (by rw[hvk];rfl) ⟨b,off,none⟩ 1 cap news (by rw[hl];rfl) (λj u hu=>by rw[ahn];exact hn j u hu) h1 hlen (bytes _ hlen) hle;rw[WA,<-acV]at r2
  have Tn:∃Z3 aar,v'=.slice (some ⟨b',0,none⟩) (es++[x]).length Z3/\w'.heap[b']?=some (.cells aar e (0,0))/\(es++[x]).length<=Z3/\Z3<=maxLen/\aar.size=Z3*i.size/\aar.toList.take ((es++[x]).length*i.size)=SX (es++[x]):=by
   rcases r2.2 with⟨_,h0⟩|⟨gg,cp,cu,rfl,_,m1,m2,m3,m4,m5⟩
   .omega
   .have:gg=b':=by simpa[Value.ownBlock]using r3
    subst this;rw[DG];exact⟨cp,cu,rfl,m1,m2,m3,m4,m5⟩
  obtain⟨Z3,aar,Dn,vn,m2,m3,m4,m5⟩:=Tn
  rcases r4 with⟨rfl,ry⟩|⟨rfl,ry,bL⟩
  .obtain⟨R1,hf,_⟩:=R.acO hk;have R2:=R1.c_ (M:=λc=>c=b') (w':=w') ⟨ry.os,ry.tape,ry.output,ry.size,λk hk hm=>ry.block k hk (by simpa using hm)⟩ (λc hc=>by subst hc;exact hf) (λc hc=>by subst hc;exact bm _ _ _);have R3:=R2.adL hf vn;exact⟨v',w',_,run _ _ (by rw[K4];exact r1),R3,hK.c,hK.ds,hK.bx,NQ,.inr ⟨b',Z3,aar,Dn,bm _ _ _,m2,m3,m4,m5⟩⟩
  .have R2:=R.acr (w':=w') ⟨ry.os,ry.tape,ry.output,ry.size,λk hk=>ry.block k hk (by simp)⟩ (afg _) vn;exact⟨v',w',_,run _ _ (by rw[K4];exact r1),R2,hK.c,hK.ds,hK.bx,NQ,.inr ⟨w.heap.size,Z3,aar,Dn,bm _ _ _,m2,m3,m4,m5⟩⟩
theorem KO.cell (hK:KO cc e size es g.old v) (R:Rel P w0 n dU g S H a w) {j:Nat} (hj:j < es.length) :
  ∃b cap cur,v=.slice (some ⟨b,0,none⟩) es.length cap/\g.old.bI b=some (.cells cur e (0,0))/\w.heap[b]?=some (.cells cur e (0,0))/\∀k (hk:k<(es[j]).cells.length),j*size+k<cur.size/\cur[j*size+k]?=some (T9 (es[j]).cells[k]):=by
 rcases hK.row with⟨_,rfl⟩|⟨b,cap,cur,hv,hk,h1,h2,h3,h4⟩
 .simp at hj
 refine⟨b,cap,cur,hv,hk,(R.kept b _ hk).2.1,λk JQ=>?_⟩;have hg:=TP hK.ok hj JQ;rw[<-h4,aiE]at hg;split at hg
 .have lv:cur[j*size+k]?=some (T9 (es[j]).cells[k]):=by rw[<-hg,ahG]
  exact⟨(afe.1 lv).1,lv⟩
 .cases hg
theorem KO.set (hK:KO cc e size es g.old v) {j k:Nat} (hj:j < es.length) (hk:k < (es[j]).cells.length) {x:AV} (hx:Ed size [x]) {u:AV} (hu:x.cells=(es[j]).cells.set k u) {b cap:Nat} {cur Eg:Array Value} (hv:v = .slice (some ⟨b,0,none⟩) es.length cap) (tf:g.old.bI b=some (.cells cur e (0,0)))
  (bL:Eg.size=cur.size) (hc:∀m,Eg.getD m undef=if m=j*size+k then T9 u else cur.getD m undef):KO cc e size (es.set j x) { g.old with bI:=av g.old.bI b (some (.cells Eg e (0,0))) } v:=by
 have eK:Ed size (es.set j x):=λy hy=>by
  rcases ah5 hy with h|h
  .exact hK.ok y h
  .subst h;exact hx y (by simp)
 refine⟨hK.c,hK.ds,hK.bx,eK,.inr ⟨b,cap,Eg,by rw[ait];exact hv,bm _ _ _,?_⟩⟩;rw[ait]
 rcases hK.row with⟨_,rfl⟩|⟨b2,ae3,ae6,qD,jf,h1,h2,h3,h4⟩
 .simp at hj
 rw[hv]at qD;cases qD;rw[tf]at jf;cases jf;refine⟨h1,h2,by rw[bL];exact h3,?_⟩
 have hle:es.length*size<=cur.size:=by rw[h3];exact aho _ h1
 apply ahW;intro m
 by_cases hm:m<es.length*size
 case neg=>rw[afn (by rw[afJ];omega),afn (by rw[UB eK,ait];omega)]
 have hs0:0<size:=by
  rcases ah7 size with h|h
  .rw[h,Nat.mul_zero]at hm;omega
  .exact h
 obtain⟨q,r,hr,rfl⟩:∃q r,r<size/\m=q*size+r:=⟨m/size,m % size,aio _ hs0,by rw[ag6];exact(aih m size).symm⟩
 have hq:q<es.length:=by
  rcases ahB q es.length with h|h
  .exact h
  .have:=aho size h;omega
 have OU:q<(es.set j x).length:=by rw[ait];exact hq
 have hlen:((es.set j x)[q]).cells.length=size:=(eK _ (ae_ OU)).2.1;rw[TP eK OU (by rw[hlen];exact hr),aiE,if_pos hm,ahG];have CA:=hc (q*size+r)
 have kW:q*size+r<Eg.size:=by rw[bL];omega
 have adN:q*size+r<cur.size:=by omega
 rw[agl,agQ kW,Option.getD_some,agl,agQ adN,Option.getD_some]at CA;rw[agQ kW,CA]
 have hold:cur[q*size+r]?=some (T9 ((es[q]).cells[r]'(by rw[(hK.ok _ (ae_ hq)).2.1];exact hr))):=by
  have hg:=TP hK.ok hq (k:=r) (by rw[(hK.ok _ (ae_ hq)).2.1];exact hr);rw[<-h4,aiE,if_pos hm,ahG]at hg;exact hg
 rw[agQ adN]at hold;have hold:=afo hold
 by_cases hqj:q=j
 .subst hqj
  have TL:(es.set q x)[q]=x:=by simp
  by_cases hrk:r=k
  .subst hrk;rw[if_pos rfl];simp only[TL,hu,aiZ]
  .rw[if_neg (by omega)];simp only[TL,hu];rw[ai5 (by omega),hold]
 .have TL:(es.set j x)[q]=es[q]:=ai5 (by omega) _;rw[if_neg,hold]
  .simp only[TL]
  .intro h
   have ee:k<size:=by rw[<-(hK.ok _ (ae_ hj)).2.1];exact hk
   apply hqj;have:=congrArg (·/size) h;simp only[ag6 _ size,Nat.mul_add_div hs0,aiV hr,aiV ee]at this;simpa using this
theorem aao{a:Act}{t:Nat}{c:Value}(ht:t<a.tmps.size)(h:a.tmps.getD t undef=c):a.put (some t) c=a:=by
 cases a;simp only[Act.put,Act.mk.injEq,ah_]at h ht⊢;apply agp
 .simp
 .intro i h1 h2;rw[Array.getElem_setIfInBounds];split
  .rename_i hi;subst hi;rw[<-h];simp[agl,h2]
  .rfl
theorem KO.done (hK:KO cc e size es g.old v) (R:Rel P w0 n dU g S H a w) {t:Nat} (ht:t < n) (hS:S t = .val v) :
  ∃g',Rel P w0 n dU g' (av S t (.slice .view es)) H a w/\g'.old.c=cc/\g'.old.ds=[]/\∀d,¬g'.old.bx d:=by
 have hv:a.tmps.getD t undef=v:=by
  have:=R.slot t ht id;rw[hS]at this;exact this.eU
 have Zx:∀{c},a.tmps.getD t undef=c->a.put (some t) c=a:=λh=>aao (by rw[R.size];exact ht) h
 rcases hK.row with⟨⟨a0,rfl⟩,rfl⟩|⟨b,cap,cur,qD,hk,h1,h2,h3,h4⟩
 .have jX:RD g.Pr w (.slice .view []) (.slice a0 0 0):=by
   cases a0 with
   |none=>exact .qw _
   |some b=>exact .sF _ _
  have R2:=R.put t (.slice .view []) _ ht (.data _ _ jX) trivial;rw[Zx hv]at R2;exact⟨g,R2,hK.c,hK.ds,hK.bx⟩
 .obtain⟨k1,k2,_⟩:=R.kept b _ hk;obtain⟨g',q1,q2,R1,q3,q4⟩:=R.hand hk (es.length*size)
  have jX:RD g'.Pr w (.slice .view es) v:=by
   refine RD.ofRow (base:=g.base) ⟨UB hK.ok,.inr ⟨b,cap,cur,qD,k1,k2,h1,h2,h3,h4⟩⟩ (hK.ok.flat _ _) λb' vn k JQ=>?_
   have:b=b':=by rw[qD]at vn;simpa[Value.ownBlock]using vn
   subst this;exact q4 k JQ
  have R2:=R1.put t (.slice .view es) v ht (.data _ _ jX) trivial;rw[Zx hv]at R2;exact⟨g',R2,by rw[q1];exact hK.c,by rw[q1];exact hK.ds,by rw[q1];exact hK.bx⟩
theorem KO.start(R:Rel P w0 n dU g S H a w)(hp:g.old.c=cc/\g.old.ds=[]/\∀d,¬g.old.bx d){t:Nat}(ht:t<n)(hS:S t=.slice .nil []):∃v,Rel P w0 n dU g (av S t (.val v)) H a w/\KO cc e size [] g.old v:=by
 obtain⟨ad,hc⟩:∃ad,a.tmps.getD t undef=.slice ad 0 0:=by
  have hq:=R.slot t ht id;rw[hS]at hq;have hq:=hq.j_ rfl;generalize a.tmps.getD t undef=c at hq
  cases hq with
  |qw=>exact⟨_,rfl⟩
  |sF=>exact⟨_,rfl⟩
  |slice _ _ b off cap size cs iV wv=>rw[wv rfl];exact⟨_,rfl⟩
 have R2:=R.put t (.val (.slice ad 0 0)) (.slice ad 0 0) ht (.data _ _ (.val _ rfl)) trivial;rw[aao (by rw[R.size];exact ht) hc]at R2;exact⟨_,R2,hp.1,hp.2.1,hp.2.2,(λx hx=>by cases hx),.inl ⟨⟨_,rfl⟩,rfl⟩⟩
end
section
variable{P:Program}{GI:World->Prop}{w0:World}{n:Nat}{g:Gh}{S:aF}{H:aK}{a:Act}{w:World}{cc:Nat->Nat->Prop}{e:TypeId}{size:Nat}{es:List AV}{v:Value}
theorem Rel.HE (R:Rel P w0 n dU g S H a w) {t u:Nat} (ht:t < n) (hu:u < n) (dO:t≠u) (hS:S t = .slice (.own e) es) (hv:a.tmps.getD u undef=a.tmps.getD t undef) :
  ∃g',g'.old=g.old/\Rel P w0 n dU g' (av (av S t (.slice .view es)) u (.slice (.own e) es)) H a w:=by
 let g':Gh:={ g with owner:=λb=>if g.owner b=some (.slot t)then some (.slot u)else if g.owner b=some (.slot u)then none else g.owner b }
 have T6:g'.Pr=g.Pr:=rfl
 have h_:∀b loc,loc≠.slot t->loc≠.slot u->g.owner b=some loc->g'.owner b=some loc:=by
  intro b loc h1 h2 h;show(if g.owner b=some (.slot t)then _ else if g.owner b=some (.slot u)then none else g.owner b)=_;rw[h,if_neg (by simpa using h1),if_neg (by simpa using h2)]
 have He:∀b,g.owner b=none->g'.owner b=none:=by
  intro b h;show(if g.owner b=some (.slot t)then _ else if g.owner b=some (.slot u)then none else g.owner b)=_;rw[h];simp
 have adb:∀{loc:Loc}{v:AV}{c:Value},loc≠.slot t->loc≠.slot u->A2 P w g loc v c->A2 P w g' loc v c:=λh1 h2 h=>h.bI rfl λb hb=>⟨rfl,rfl,h_ b _ h1 h2 hb⟩
 have kR:=R.slot t ht id;have hot:=R.own t ht id;rw[hS]at kR hot;refine⟨g',rfl,{ size:=R.size,defers:=R.defers,facts:=R.facts,slot:=?_,own:=?_,box:=?_,Cf:=R.Cf,BB:=R.BB,inj:=R.inj,base:=R.base,below:=R.below,fresh:=λb hb=>⟨(R.fresh b hb).1,He b (R.fresh b hb).2⟩,still:=R.still,grown:=R.grown,kept:=λb o h=>let⟨k1,k2,k3,k4,k5⟩:=R.kept b o h;⟨k1,k2,k3,He b k4,k5⟩ }⟩
 .intro x hx _;show RV g.Pr g.al w _ _
  by_cases hxu:x=u
  .subst hxu;rw[bm,hv];exact kR
  .rw[cN _ _ hxu]
   by_cases hxt:x=t
   .subst hxt;rw[bm];exact .data _ _ (kR.j_ rfl).aI
   .rw[cN _ _ hxt];exact R.slot x hx id
 .intro x hx _
  by_cases hxu:x=u
  .subst hxu;rw[bm,hv];obtain⟨i,xs,b,k1,k2,k3,k4,k5⟩:=hot;refine⟨i,xs,b,k1,k2,k3,?_,k5⟩;show(if g.owner b=some (.slot t)then _ else _)=_;rw[if_pos k4]
  .rw[cN _ _ hxu]
   by_cases hxt:x=t
   .subst hxt;rw[bm];trivial
   .rw[cN _ _ hxt];exact adb (by simpa using hxt) (by simpa using hxu) (R.own x hx id)
 .intro i b hi;obtain⟨cs,vs,ty,h1,h2,h3,h4,h5,h6,h7,h8,h9⟩:=R.box i b hi;exact⟨cs,vs,ty,h1,h2,h3,h4,He b h5,h6,h7,λj hj fj=>adb (by simp) (by simp) (h8 j hj fj),h9⟩
theorem EV (R:Rel P w0 n dU g S H a w) (hp:g.old.c=cc∧g.old.ds=[]∧∀ d,¬ g.old.bx d) {i:TypeInfo} (hi:P.info? e=some i) {old:Nat→Nat→Prop} {en:Ending} {w':World} (eK:Ed i.size es) (h:Ends P old w (.ret (.slice (.own e) es)) en w') :
  ∃v g',en=.returned v/\Rel P w0 n dU g' S H a w'/\KO cc e i.size es g'.old v:=by
 obtain⟨hb,gq,_,c,rfl,hv,i',xs,b,k1,k2,k3,_⟩:=h;rw[hi]at k1;cases k1
 have hf:=rr.ab8 (hv.j_ rfl) k2 (λx hx=>⟨(eK x hx).2.1,(eK x hx).1,λc hc=>aaC ((eK x hx).2.2 c hc)⟩) (λx hx c hc=>by
  have:=(eK x hx).2.2 c hc
  cases c<;>first|rfl|cases this)
 have pF:xs=SX es:=by
  apply ahW;intro m
  by_cases hm:m<es.length*i.size
  case neg=>rw[afn (by rw[k2.1];omega),afn (by rw[UB eK];omega)]
  have hs0:0<i.size:=by
   rcases ah7 i.size with h|h
   .rw[h,Nat.mul_zero]at hm;omega
   .exact h
  obtain⟨q,r,hr,rfl⟩:∃q r,r<i.size/\m=q*i.size+r:=⟨m/i.size,m % i.size,aio _ hs0,by rw[ag6];exact(aih m i.size).symm⟩
  have hq:q<es.length:=by
   rcases ahB q es.length with h|h
   .exact h
   .have:=aho i.size h;omega
  have hl:=(eK _ (ae_ hq)).2.1;obtain⟨u,u1,u2⟩:=hf.2 q hq r (by rw[hl];exact hr);rw[u1,TP eK hq (by rw[hl];exact hr),u2.acz ((eK _ (ae_ hq)).2.2 _ (ae_ _))]
 rw[pF]at k2;obtain⟨g',R',hK⟩:=R.Z0 hp hb eK k2;exact⟨c,g',rfl,R',hK⟩
end
section
variable{P:Program}{w0:World}{n:Nat}{g:Gh}{S:aF}{H:aK}{a:Act}{w:World}{cc:Nat->Nat->Prop}{e:TypeId}
theorem OZ {o:Oper} {t:TypeId} {i:TypeInfo} {x y:Operand} {m:Nat} (ho:o.op = .makeSlice t x y) (ht:P.underlying t=some (.slice e)) (hi:P.info? e=some i) (hz:i.zero=some (.int .i64 0)) (hs:i.size=1) (hb:i.bytes * m≤281474976710656) (hm:m≤1000)
  (hx:a.eval x=.int .i64 (m:Nat)) (hy:a.eval y=.int .i64 (m:Nat)):(execOp a.eval o).run P w=.ok (.value (.slice (some ⟨w.heap.size,0,none⟩) m m)) (w.alloc (.cells (madeCells #[.int .i64 0] m) e)):=by
 have h:=run_make_row (P:=P) t e i (.int .i64 0) ht hi hz hs rfl .i64 .i64 m hb (by omega) w;unfold execOp;simp[ho,hx,hy,h]
theorem KO.make(R:Rel P w0 n dU g S H a w)(hp:g.old.c=cc/\g.old.ds=[]/\∀d,¬g.old.bx d){m:Nat}(hm:m<=1000):∃g',Rel P w0 n dU g' S H a (w.alloc (.cells (madeCells #[.int .i64 0] m) e))/\KO cc e 1 (List.replicate m (.int .i64 0)) g'.old (.slice (some ⟨w.heap.size,0,none⟩) m m):=by
 refine R.Z0 hp (Below.alloc (aga _ _) (afg _) _) (λx hx=>?_) ⟨?_,.inr ⟨w.heap.size,m,madeCells #[.int .i64 0] m,by simp,afg _,(by show(w.heap.push _)[w.heap.size]?=_;simp),by simp,by simp[maxLen];omega,by simp[size_madeCells],?_⟩⟩
 .rw[List.mem_replicate]at hx;rw[hx.2];exact⟨rfl,rfl,λc hc=>by simp[AV.cells]at hc;subst hc;rfl⟩
 .simp[SX,AV.cells]
 .have hc:(madeCells #[Value.int .i64 0] m).toList=List.replicate m (.int .i64 0):=by
   apply ahb
   .simp[size_madeCells]
   .intro j h1 h2;simp[madeCells,Nat.mod_one]
  have hr:∀k,SX (List.replicate k (AV.int .i64 0))=List.replicate k (.int .i64 0):=by
   intro k
   induction k with
   |zero=>rfl
   |succ k ih=>rw[List.replicate_succ,List.replicate_succ,<-ih];rfl
  rw[hc,hr,List.length_replicate,agf,afh (by simp)]
end
theorem Jx {P:Program} {w:World} {base:Nat} {t ty e:TypeId} {i:TypeInfo} {z:Value} (ht:P.underlying t=some (.slice e)) (hi:P.info? e=some i) (hz:i.zero=some z) (TD:z.cells.size=i.size) (hs:i.size=1) (hby:i.bytes≤65536)
  {u:Value} {n:Nat} {xs:List Value} (h_:w.ownsRow base e 1 u n xs) (hlen:n+1<=2097152) (oL:base<=w.heap.size) {ad:Addr} {cap:Nat} {c:Value} (hc:w.cell? ad=some c) (h1:c.oneCell'=true):
  ∃u' w' b',(Builtin.append_ #[t,t] ty #[u,.slice (some ad) 1 cap]).run P w=.ok u' w'/\w'.ownsRow base e 1 u' (n+1) (xs++[c])/\u'.ownBlock=some b'/\sB (λb=>u.ownBlock=some b) w w'/\(u.ownBlock=some b'\/w.heap.size<=b'):=by
 have bytes:∀m,m<=2097152->m*i.bytes<=140737488355328:=λm hm=>agu (aii hm hby) (by decide)
 have WZ:∀j x,[c][j]?=some x->w.cell? (ad.add j)=some x:=λj x hx=>by
  match j,hx with
  |0,hx=>cases hx;rw[show ad.add 0=ad by simp[Addr.add]];exact hc
 have IA:∀x∈[c],x.oneCell'=true:=λx hx=>by simp at hx;subst hx;exact h1
 rcases h_.2 with⟨hu,hn⟩|⟨g,ae4,cur,hv,uq,hg,rest⟩
 .subst hn;have hx:xs=[]:=afR (by have:=h_.1;simpa using this);subst hx;obtain⟨v',w',r1,r2,r3,r4,r5⟩:=VQ (P:=P) (w:=w) base t ty e i z ht hi hz TD none ad 1 cap [c] (by rw[hs];rfl) WZ (by omega) (by omega) (bytes _ (by omega)) oL;rw[hs]at r2;rw[hu];exact⟨v',w',_,r1,by simpa using r2,r3,⟨r4.os,r4.tape,r4.output,r4.size,λk hk _=>r4.block k hk (by simp)⟩,.inr (afg _)⟩
 .have Ht:u.ownBlock=some g:=by rw[hv];rfl
  obtain⟨v',w',b',r1,r2,r3,r4⟩:=Uq (P:=P) (w:=w) base t ty e i z ht hi hz TD u n xs g (by rw[hs];exact h_) Ht ad 1 cap [c] (by rw[hs];rfl) WZ IA hlen (bytes _ hlen) oL;rw[hs]at r2
  rcases r4 with⟨rfl,ry⟩|⟨rfl,ry,bL⟩
  .exact⟨v',w',_,r1,r2,r3,⟨ry.os,ry.tape,ry.output,ry.size,λk hk hm=>ry.block k hk (λe=>hm (by rw[Ht];exact e.symm))⟩,.inl Ht⟩
  .exact⟨v',w',_,r1,r2,r3,⟨ry.os,ry.tape,ry.output,ry.size,λk hk _=>ry.block k hk (by simp)⟩,.inr (afg _)⟩
end Go.AL
