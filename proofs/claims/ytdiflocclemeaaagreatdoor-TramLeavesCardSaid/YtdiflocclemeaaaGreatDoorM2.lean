/-
  A part of the proof.
-/
import Derived.Test.YtdiflocclemeaaaGreatDoorM1
import Derived.Test.YtdiflocclemeaaaGreatDoorProg
set_option maxRecDepth 100000
set_option maxHeartbeats 8000000
set_option linter.all false
set_option linter.unusedVariables false
set_option linter.unusedSimpArgs false
set_option linter.deprecated false
namespace Go.AL
open Go.RowKit
inductive af where
 |skip
 |ops (l:List cC)
 |dc (l:List cC)
 |seq (x y:af)
 |cond (c:eA) (x y:af)
 |block (id:Nat) (c:af)
 |loop (c:af)
 |exit (id:Nat)
 |ret
 |bad
def d_(P:Program)(n:Nat):Code->af
 |.skip=>.skip
 |.region _ ops draw=>
  if draw then(if UA P n ops then .dc (cN P n true ops)else .bad)
  else(if(cN P n false ops).all (·.ok n)then .ops (cN P n false ops)else .bad)
 |.seq x y=>.seq (d_ P n x) (d_ P n y)
 |.cond c x y=>match eO n c with
  |some c=>.cond c (d_ P n x) (d_ P n y)
  |none=>.bad
 |.block id c=>.block id (d_ P n c)
 |.loop c=>.loop (d_ P n c)
 |.exit id=>.exit id
 |.ret=>.ret
 |_=>.bad
def cU(K:av->aD->Prop)(Q:dp->av->aD->Prop):dp->av->aD->Prop
 |.normal,S,H=>K S H
 |.exit id,S,H=>Q (.exit id) S H
 |.ret,S,H=>Q .ret S H
 |.panic v,S,H=>Q (.panic v) S H
def db(id:Nat)(Q:dp->av->aD->Prop):dp->av->aD->Prop
 |.normal,S,H=>Q .normal S H
 |.exit j,S,H=>if j=id then Q .normal S H else Q (.exit j) S H
 |.ret,S,H=>Q .ret S H
 |.panic v,S,H=>Q (.panic v) S H
def af.names:af->List Nat
 |.ops l=>l.flatMap cC.je
 |.dc l=>l.flatMap cC.je
 |.seq x y=>x.names++y.names
 |.cond _ x y=>x.names++y.names
 |.block _ c=>c.names
 |.loop c=>c.names
 |_=>[]
def bC(P:Program)(GI:World->Prop):af->(dp->av->aD->Prop)->av->aD->Prop
 |.skip,Q,S,H=>Q .normal S H
 |.ops l,Q,S,H=>bn P GI l (Q .normal) (λv=>Q (.panic v) S H) S H
 |.dc l,Q,S,H=>dc P GI l (Q .normal) (eY l S) (dQ l H)
 |.seq x y,Q,S,H=>bC P GI x (cU (bC P GI y Q) Q) S H
 |.cond c x y,Q,S,H=>match ev S c with
  |.bool true=>bC P GI x Q S H
  |.bool false=>bC P GI y Q S H
  |.pX=>bC P GI x Q S H/\bC P GI y Q S H
  |_=>False
 |.block id c,Q,S,H=>bC P GI c (db id Q) S H
 |.loop c,Q,S,H=>∃(I:av->aD->Prop)(μ:av->aD->Nat),I S H/\∀S H,I S H->bC P GI c (cU (λS' H'=>I S' H'/\μ S' H'<μ S H) Q) S H
 |.exit id,Q,S,H=>Q (.exit id) S H
 |.ret,Q,S,H=>Q .ret S H
 |.bad,_,_,_=>False
section
variable{P:Program}{GI:World->Prop}{w0:World}{n:Nat}{g:Gh}{S:av}{H:aD}{a:Act}{w:World}
theorem P8 {c:Code} {Q:Exit→Act→World→Prop} (J:Nat→Act→World→Prop)
  (round:∀m a w,J m a w->c.wp P (Exit.then (λa' w'=>∃m',m'<m/\J m' a' w') Q) a w) {m:Nat} (h0:J m a w):(Code.loop c).wp P Q a w:=by
 intro b k cs
 have key:∀m a w,J m a w->∃e a' w',Q e a' w'/\Arrives P (lone (b.at a (.code c::.inLoop c::k)) cs w) b k cs e a' w':=by
  intro m
  induction m using Nat.strongRecOn with
  |_ m ih=>
   intro a w hJ;obtain⟨e,mH,p9,hq,ld⟩:=round m a w hJ b (.inLoop c::k) cs
   cases e with
   |normal=>
    obtain⟨m',au,hJ'⟩:=hq;obtain⟨Ly,LD,Lh,Fa,wm⟩:=ih m' au mH p9 hJ';exact⟨Ly,LD,Lh,Fa,.of_steps (Steps.trans ld (.one step_inLoop)) wm⟩
   |exit id=>exact⟨_,mH,p9,hq,.pass (x:=.inLoop c) rfl (λ_ _=>.inl (by simp)) ld⟩
   |goto l=>exact⟨_,mH,p9,hq,.pass (x:=.inLoop c) rfl (λ_ _=>.inl (by simp)) ld⟩
   |ret=>exact⟨_,mH,p9,hq,.pass (x:=.inLoop c) rfl (λ_ _=>.inl (by simp)) ld⟩
   |panic ch=>exact⟨_,mH,p9,hq,.pass (x:=.inLoop c) rfl (λ_ _=>.inl (by simp)) ld⟩
   |outgrown=>exact⟨_,mH,p9,hq,.pass (x:=.inLoop c) rfl (λ_ _=>.inl (by simp)) ld⟩
 obtain⟨e,a',w',hq,ld⟩:=key _ _ _ h0;exact⟨e,a',w',hq,.of_steps (.one step_loop) ld⟩
theorem q' (hG:aw GI) (cT:GI w0) (hm:P.follows .mixedOrders=true) {old:Old} :
  ∀(c:Code)(Q:dp->av->aD->Prop)(g:Gh)(S:av)(H:aD)(a:Act)(w:World),(∀d∈(d_ P n c).names,¬old.bx d)->g.old=old->Rel P w0 n cm g S H a w->bC P GI (d_ P n c) Q S H->c.wp P (QQ P w0 n old Q) a w
 |.skip,Q,g,S,H,a,w,dH,ho,R,h=>wp_skip ⟨g,S,H,ho,R,h⟩
 |.region id ops draw,Q,g,S,H,a,w,dH,ho,R,h=>by
  simp only[d_]at h dH
  cases draw with
  |true=>
   simp only[adJ]at h dH;split at h
   case isFalse=>exact h.elim
   rename_i cP;rw[if_pos cP]at dH;exact Rt hG cT hm cP (λo qf d hd=>dH d (adR.2 ⟨o,qf,hd⟩)) ho R h
  |false=>
   simp only[adl,adz]at h dH;split at h
   case isFalse=>exact h.elim
   rename_i cP;rw[if_pos cP]at dH;exact Uw hG cT cP (λo qf d hd=>dH d (adR.2 ⟨o,qf,hd⟩)) ho R h
 |.seq x y,Q,g,S,H,a,w,dH,ho,R,h=>by
  refine wp_seq (agT (q' hG cT hm x _ g S H a w (λd hd=>dH d (by simp[d_,af.names,hd])) ho R h) ?_);intro e a' w' he
  cases e with
  |normal=>
   obtain⟨g',S',H',h1,h2,h3⟩:=he;exact q' hG cT hm y Q g' S' H' a' w' (λd hd=>dH d (by simp[d_,af.names,hd])) h1 h2 h3
  |exit id=>exact he
  |ret=>exact he
  |panic ch=>exact he
  |goto l=>exact he.elim
  |outgrown=>exact he.elim
 |.cond c x y,Q,g,S,H,a,w,dH,ho,R,h=>by
  simp only[d_]at h;split at h
  case h_2=>exact h.elim
  rename_i c' hc;simp only[d_,hc,af.names,adm]at dH;simp only[bC]at h;have hv:=R.ev hc (λ_ _=>id);split at h
  .rename_i hb;rw[hb]at hv
   have:a.eval c=.bool true:=by
    generalize a.eval c=v at hv;cases hv;rename_i hv;cases hv;rfl
   exact wp_cond this (q' hG cT hm x Q g S H a w (λd hd=>dH d (.inl hd)) ho R h)
  .rename_i hb;rw[hb]at hv
   have:a.eval c=.bool false:=by
    generalize a.eval c=v at hv;cases hv;rename_i hv;cases hv;rfl
   exact wp_cond this (q' hG cT hm y Q g S H a w (λd hd=>dH d (.inr hd)) ho R h)
  .rename_i hb;rw[hb]at hv
   have:∃b,a.eval c=.bool b:=by
    generalize a.eval c=v at hv;cases hv;rename_i hv;cases hv;exact⟨_,rfl⟩
   obtain⟨b,hb⟩:=this
   cases b with
   |true=>exact wp_cond hb (q' hG cT hm x Q g S H a w (λd hd=>dH d (.inl hd)) ho R h.1)
   |false=>exact wp_cond hb (q' hG cT hm y Q g S H a w (λd hd=>dH d (.inr hd)) ho R h.2)
  .exact h.elim
 |.block id c,Q,g,S,H,a,w,dH,ho,R,h=>by
  refine wp_block (agT (q' hG cT hm c _ g S H a w (λd hd=>dH d (by simpa[d_,af.names]using hd)) ho R h) ?_);intro e a' w' he
  cases e with
  |normal=>exact he
  |exit j=>
   obtain⟨g',S',H',h1,h2,h3⟩:=he;simp only[db]at h3;simp only[Exit.inBlock];split
   .rename_i hj;rw[if_pos hj]at h3;exact⟨g',S',H',h1,h2,h3⟩
   .rename_i hj;rw[if_neg hj]at h3;exact⟨g',S',H',h1,h2,h3⟩
  |ret=>exact he
  |panic ch=>exact he
  |goto l=>exact he.elim
  |outgrown=>exact he.elim
 |.loop c,Q,g,S,H,a,w,dH,ho,R,h=>by
  obtain⟨I,μ,h0,hr⟩:=h;refine P8 (λm a w=>∃g S H,g.old=old/\Rel P w0 n cm g S H a w/\I S H/\μ S H=m) ?_ (m:=μ S H) ⟨g,S,H,ho,R,h0,rfl⟩;rintro m a' w' ⟨g',S',H',h1,h2,h3,rfl⟩;refine agT (q' hG cT hm c _ g' S' H' a' w' (λd hd=>dH d (by simpa[d_,af.names]using hd)) h1 h2 (hr S' H' h3)) ?_;intro e a'' lu he
  cases e with
  |normal=>
   obtain⟨g2,S2,H2,k1,k2,k3,k4⟩:=he;exact⟨_,k4,g2,S2,H2,k1,k2,k3,rfl⟩
  |exit id=>exact he
  |ret=>exact he
  |panic ch=>exact he
  |goto l=>exact he.elim
  |outgrown=>exact he.elim
 |.exit id,Q,g,S,H,a,w,dH,ho,R,h=>wp_exit ⟨g,S,H,ho,R,h⟩
 |.ret,Q,g,S,H,a,w,dH,ho,R,h=>wp_ret ⟨g,S,H,ho,R,h⟩
 |.rangeFunc ..,_,_,_,_,_,_,_,_,_,h=>h.elim
 |.scope _,_,_,_,_,_,_,_,_,_,h=>h.elim
 |.label _,_,_,_,_,_,_,_,_,_,h=>h.elim
 |.goto _,_,_,_,_,_,_,_,_,_,h=>h.elim
 |.refuse _,_,_,_,_,_,_,_,_,_,h=>h.elim
def AV.out:AV->AV
 |.agg cs=>.agg (cs.map bH)
 |v=>v
def cK(P:Program)(n:Nat)(S:av)(H:aD):ResultVar->Option AV
 |.tmp t=>if t<n/\(S t).bT=true then some (S t)else none
 |.cell a t=>if a < n then
   match S a with
   |.box i off=>match H i,P.info? t,P.underlying t with
    |some cs,some it,some d=>b0 (eS d) it.size (cs.drop off)
    |_,_,_=>none
   |_=>none
  else none
def cJ(P:Program)(n:Nat)(S:av)(H:aD):List ResultVar->Option (List AV)
 |[]=>some []
 |r::rs=>match cK P n S H r,cJ P n S H rs with
  |some v,some vs=>some (v::vs)
  |_,_=>none
def cy(P:Program)(n:Nat)(rs:List ResultVar)(S:av)(H:aD):Option AV:=
 match cJ P n S H rs with
 |some [v]=>some v.out
 |some vs=>some (.dN (vs.map AV.vw))
 |none=>none
def QK(a:Act):ResultVar->Sem Value
 |.tmp t=>pure (a.tmps.getD t undef)
 |.cell x t=>do loadVar t (<-asAddr (a.tmps.getD x undef))
theorem PT (R:Rel P w0 n cm g S H a w) {r:ResultVar} {v:AV} (h:cK P n S H r=some v) :
  ∃c,(QK a r).run P w=.ok c w/\RD g.Pr w v c/\G' P g.base g.hi w v c:=by
 cases r with
 |tmp t=>
  simp only[cK]at h
  split at h<;>cases h
  rename_i hc;refine⟨a.tmps.getD t undef,rfl,(R.slot t hc.1 id).fj hc.2,?_⟩;have ho:=R.own t hc.1 id;generalize S t=v at ho;generalize a.tmps.getD t undef=c at ho
  cases v<;>try trivial
  rename_i oo es
  cases oo with
  |view=>trivial
  |nil=>trivial
  |own e=>
   obtain⟨i,xs,b,h1,h2,h3,h4,h5⟩:=ho;exact⟨i,xs,b,h1,h2,h3,h5⟩
 |cell x t=>
  simp only[cK]at h;split at h
  case isFalse=>cases h
  rename_i hx;have hs:=R.slot x hx id;generalize S x=q at h hs;generalize sk:a.tmps.getD x undef=cx at hs
  cases hs<;>(try cases h;done)
  case data hh=>cases hh<;>cases h
  rename_i i off b kK;obtain⟨cs,vs,FY,k1,k2,k3,k4,k5,k6,k7,k8,k9⟩:=R.box i b kK;simp only[k1]at h;split at h
  case h_2=>cases h
  rename_i gM it d vi hit hd;cases vi
  obtain ⟨c,h1,h2,h3⟩:=Bg (Pr:=g.Pr) (al:=g.al) (P:=P) (w:=w) (b:=b) (off:=off) hit hd (vs:=fun k=>vs.getD (off+k) undef) (fun k hk=>by
    simp only[ad8]at hk
    have:off+k<vs.size:=by omega
    simp[World.cell?,k3,this]) (λk hk=>by
    simp only[ad8]at hk;simp only[aeW]
    exact k9 (off+k) (by omega)) (λk hk=>by
    simp only[ad8]at hk;simp only[aeW];have hh:=k7 (off+k) (by omega) (by omega)
    have:off+k<vs.size:=by omega
    simpa[this]using hh) h
  refine⟨c,by simp only[QK,sk,asAddr,ads,Sem.run_pure,Result.andThen_ok,h1],h2,?_⟩;rw[<-h3]
  cases v<;>try trivial
  rename_i oo es
  cases oo<;>trivial
theorem Ag (R:Rel P w0 n cm g S H a w):∀ {rs:List ResultVar} {vs:List AV},cJ P n S H rs=some vs →
  ∃cs:List Value,(rs.mapM (QK a)).run P w=Result.ok cs w/\vs.length=cs.length/\
   ∀i (h:i<vs.length)(h':i<cs.length),RD g.Pr w vs[i] cs[i]/\G' P g.base g.hi w vs[i] cs[i]
 |[],vs,h=>by cases h;exact⟨[],by simp,rfl,λi h=>by simp at h⟩
 |r::rs,vs,h=>by
  simp only[cJ]at h
  split at h<;>cases h
  rename_i v pJ h1 h2;obtain⟨c,r1,r2,r3⟩:=PT R h1;obtain⟨cs,q1,q2,q3⟩:=Ag R h2;refine⟨c::cs,?_,by simp[q2],λi hi eb=>?_⟩
  .simp[List.mapM_cons,r1,q1]
  .cases i with
   |zero=>exact⟨r2,r3⟩
   |succ i=>exact q3 i (by simpa using hi) (by simpa using eb)
theorem CE (R:Rel P w0 n cm g S H a w) {fn:Func} {v:AV} (h:cy P n fn.results.toList S H=some v) :
  ∃c,(results fn a.tmps).run P w=.ok c w/\RD g.Pr w v c/\G' P g.base g.hi w v c:=by
 unfold cy at h
 have dv:∀ cs:List Value,(fn.results.toList.mapM (QK a)).run P w=Result.ok cs w →
   (results fn a.tmps).run P w=.ok (if h:cs.toArray.size=1 then cs.toArray[0]else .tuple cs.toArray) w:=by
  intro cs vi;unfold results;rw[Array.mapM_eq_mapM_toList]
  have e:(fn.results.toList.mapM λr=>match r with|.tmp t=>(pure (a.tmps.getD t undef):Sem Value)|.cell x t=>do loadVar t (<-asAddr (a.tmps.getD x undef)))=fn.results.toList.mapM (QK a):=by
   congr 1
  simp only[ads,Sem.run_map]
  erw[e]
  rw[vi]
  rfl
 split at h
 .rename_i v' hv;cases h;obtain⟨cs,q1,q2,q3⟩:=Ag R hv
  match cs,q2 with
  |[c],_=>
   have h1:=(q3 0 (by simp) (by simp)).1;have h2:=(q3 0 (by simp) (by simp)).2;simp only[List.getElem_cons_zero]at h1 h2;refine⟨c,by rw[dv _ q1];rfl,?_,?_⟩
   .cases v'<;>first|exact h1|exact h1.vw
   .cases v'<;>first|exact h2|trivial
 .rename_i vs cI vb;cases h;obtain⟨cs,q1,q2,q3⟩:=Ag R vb;refine⟨.tuple cs.toArray,?_,.dN _ _ (by simp[q2]) (λi h h'=>?_),trivial⟩
  .rw[dv _ q1,dif_neg];intro hl
   have:vs.length=1:=by rw[q2];simpa using hl
   match vs,this with
   |[v],_=>exact cI v rfl
  .simp only[adi]at h;simp only[adp,List.getElem_toArray];exact(q3 i h (by simpa using h')).1.vw
 .cases h
def post(P:Program)(n:Nat)(rs:List ResultVar)(out:eP):dp->av->aD->Prop
 |.normal,S,H|.ret,S,H=>∃v,cy P n rs S H=some v/\out=.ret v
 |.panic v,_,_=>out=.panic v
 |_,_,_=>False
def start(args:List AV):av:=λt=>(args.getD t b_).aG
theorem AC.KC (hG:aw GI) (hm:P.follows .mixedOrders=true) {f:Nat} {fn:Func} {c:Code} {args:List AV} {out:eP} (hf:P.funcs[f]? = some fn) (hb:fn.body=some c) (hn:fn.ntmps=n) (hl:args.length≤n) {ac:af} (hc:d_ P n c=ac)
  (h:bC P GI ac (post P n fn.results.toList out) (start args) (λ_=>none)):AC P GI f args out:=by
 intro w old ck fU hlen hr;refine afy hf hb ?_;subst hc
 let g:Gh:={ base:=w.heap.size,old:=Old.plain old w,al:=λ_=>none,hi:=λ_=>0,owner:=λ_=>none }
 have bq:(ck++Array.replicate (fn.ntmps-ck.size) undef).size=n:=by simp;omega
 have R:Rel P w n cm g (start args) (λ_=>none) { tmps:=ck++Array.replicate (fn.ntmps-ck.size) undef,defers:=[] } w:=by
  refine{ size:=bq,defers:=rfl,facts:=λ_ h=>(by cases h),slot:=?_,own:=?_,box:=?_,mB:=?_,mr:=?_,inj:=?_,base:=rfl,below:=aeb _ _,fresh:=λb _=>⟨rfl,rfl⟩,still:=⟨λ_ _ h=>h.elim,λ_ h=>h.elim⟩,grown:=adh _,kept:=λ_ _ h=>(by cases h) }
  .intro t ht _
   by_cases Ul:t<args.length
   .have h1:start args t=args[t].aG:=by simp[start,Ul]
    have h2:(ck++Array.replicate (fn.ntmps-ck.size) undef).getD t undef=ck[t]'(by omega):=by
     have:t<ck.size:=by omega
     simp[afu,this]
    rw[h1,h2];refine((hr t Ul (by omega)).mono (bl.same λb k au hp=>.inl ⟨au,hp⟩) (λ_ _ h=>h)).aG
   .have h1:start args t=b_:=by simp[start,Ul,b_,AV.aG]
    have h2:(ck++Array.replicate (fn.ntmps-ck.size) undef).getD t undef=undef:=by
     have:¬t<ck.size:=by omega
     simp only[ad9,afu,this,adz]
     by_cases hh:t-ck.size<fn.ntmps-ck.size
     .simp[hh]
     .simp[hh]
    rw[h1,h2];exact .data _ _ (F8 _ _)
  .intro t ht _;exact kP _ _ _
  .intro i b h;cases h
  .intro i cs h;cases h
  .intro i h;rfl
  .intro i j b h;cases h
 refine agT (q' hG fU hm c _ g _ _ _ w (λ_ _ h=>h) rfl R h) ?_;intro e a' w' he
 have fin:(∃ g' S H,g'.old=Old.plain old w∧Rel P w n cm g' S H a' w'∧∃ v,cy P n fn.results.toList S H=some v∧out = .ret v) →
   a'.defers=[]/\∃v,(results fn a'.tmps).run P w'=.ok v w'/\Ends P old w out (.returned v) w':=by
  rintro⟨g',S,H,e1,R',v,hv,rfl⟩;obtain⟨c,r1,r2,r3⟩:=CE R' hv;refine⟨by rw[R'.defers,e1];rfl,c,r1,?_,g'.hi,λb hb=>(R'.fresh b hb).1,c,rfl,?_,?_⟩
  .have:=R'.below;rwa [R'.base]at this
  .have:g'.Pr=vv w.heap.size old g'.hi:=by
    funext b k
    simp only[Gh.Pr,vv,R'.base,e1,Old.plain]
   rw[this]at r2;exact .data _ _ r2
  .rwa [R'.base]at r3
 cases e with
 |normal=>exact fin he
 |ret=>exact fin he
 |exit id=>obtain⟨_,_,_,_,_,h⟩:=he;exact h.elim
 |panic chain=>
  obtain⟨hd,v,c,hi,S,H,h1,h2,h3,h4,h5⟩:=he;subst h1;cases(show out=.panic v from h5);exact⟨hd,h2,hi,h3,c,rfl,h4⟩
 |goto l=>exact he.elim
 |outgrown=>exact he.elim
end
abbrev SL:=List AV
abbrev HL:=List (Option (List AV))
def gS(s:SL):av:=λt=>s.getD t b_
def gH(h:HL):aD:=λt=>h.getD t none
inductive Res where
 |go (s:SL) (h:HL)|panic (v:AV)
def Res.on(K:av->aD->Prop)(Qp:AV->Prop):Res->Prop
 |.go s h=>K (gS s) (gH h)
 |.panic v=>Qp v
abbrev iB:=Nat->List AV->Option eP
def HF(P:Program)(call:iB)(f:Nat)(args:List AV)(bx:Bool):Option eP:=
 if dX P f then match call f args with
  |some out=>if bx&&!out.D3 then none else some out
  |none=>none
 else none
section
variable{P:Program}{GI:World->Prop}{call:iB}(fg:∀f args out,call f args=some out->AC P GI f args out)
include fg
theorem G4{f:Nat}{args:List AV}{bx:Bool}{out:eP}(h:HF P call f args bx=some out){K Qp:AV->Prop}(hk:iD out K Qp):kE P GI f args bx K Qp:=by
 unfold HF at h;split at h
 case isFalse=>cases h
 rename_i hc;split at h
 case h_2=>cases h
 rename_i ac6 ho
 split at h<;>cases h
 rename_i hb;refine⟨out,hc,fg _ _ _ ho,λhx=>?_,hk⟩;simpa[hx]using hb
omit fg in
theorem NR{p:Nat->Prop}(h:∃k,p k):∃k,p k/\∀m,m<k->¬p m:=by
 obtain⟨k,hk⟩:=h
 induction k using Nat.strongRecOn with
 |_ k ih=>
  by_cases hm:∃m,m<k/\p m
  .obtain⟨m,h1,h2⟩:=hm;exact ih m h1 h2
  .exact⟨k,hk,λm h1 h2=>hm ⟨m,h1,h2⟩⟩
open Classical in
noncomputable def least(p:Nat->Prop):Nat:=if h:∃k,p k then Classical.choose (NR h)else 0
omit fg in
theorem I8{p:Nat->Prop}(h:∃k,p k):p (least p)/\∀m,p m->least p<=m:=by
 unfold least;rw[dif_pos h];obtain⟨h1,h2⟩:=Classical.choose_spec (NR h);exact⟨h1,λm hm=>Nat.le_of_not_lt λau=>h2 m au hm⟩
end
structure xw where
 code:af
 n:Nat
 res:List ResultVar
def Ph(P:Program)(yR:Nat->Option xw):Prop:=
 ∀f fn,yR f=some fn->∃(F:Func)(c:Code),P.funcs[f]?=some F/\F.body=some c/\F.ntmps=fn.n/\F.results.toList=fn.res/\d_ P fn.n c=fn.code
def FR(ro:Option Nat):Fence:={ Fence.wide with round:=ro }
theorem jw{ro:Option Nat}{m:Nat}{P:Program}{f:FuncId}{args:Array Value}{w:World}{R:Ending->World->Prop}:CallsIn (FR ro) m P f args w R↔Calls P f args w R:=
 callsIn_wide (n:=m)
theorem SY{ro:Option Nat}{m:Nat}{P:Program}{row:String}{args:Array Value}{w:World}{R:Value->World->Prop}(h:Rows P row args w R):RowsIn (FR ro) m P row args w R:=
 λc cs _=>let⟨v,w',r,s⟩:=h c cs;⟨v,w',r,stepsIn_wide.2 s⟩
theorem e_{m:Nat}{P:Program}{c:Code}{Q:Exit->Act->World->Prop}{a:Act}{w:World}:c.wpIn (FR none) m P Q a w↔c.wp P Q a w:=wpIn_wide (n:=m)
def il:Op->Bool
 |.defer _=>false
 |_=>true
section
variable{P:Program}{Q:Exit->Act->World->Prop}{ro:Option Nat}{m:Nat}
theorem Ms{o:Oper}{a:Act}{w:World}{K:Act->World->Prop}(fk:il o.op=true)(h:o.wp P a w K Q):o.wpIn (FR ro) m P a w K Q:=by
 refine⟨λ_ _=>trivial,?_⟩;unfold Oper.wp at h;rw[ae6 _ _ _ (λc hc=>by rw[hc]at fk;cases fk)]
 generalize(execOp a.eval o).run P w=r at*
 have hd:(FR ro).depth.isSome=true->1<=m:=λh=>by simp[FR,Fence.wide]at h
 cases r with
 |ok x w'=>
  cases x<;>simp only[Oper.upon,Oper.uponIn]at h⊢<;>first
   |exact h
   |exact⟨hd,jw.2 h⟩
   |exact⟨hd,SY h⟩
 |halt x w'=>cases x<;>simp only[Oper.upon,Oper.uponIn]at h⊢<;>exact h
theorem vU{ops:Array Oper}(fk:ops.all (λo=>il o.op)=true)(hQ:¬LetsOut Q):∀(l:List Nat)(a:Act)(w:World),wpOps P ops Q l a w->wpOpsIn (FR ro) m P ops Q l a w
 |[],_,_,h=>h
 |i::l,a,w,h=>by
  simp only[wpOps,wpOpsIn]at h⊢
  cases ho:ops[i]? with
  |none=>simp only[ho]at h⊢;exact vU fk hQ l a w h
  |some o=>
   simp only[ho]at h⊢
   have hc:il o.op=true:=by
    have:=afv.1 fk o (aeM ho);exact this
   split
   .rename_i hw;simp only[hw,adJ]at h
    rcases h with h|⟨_,h⟩
    .exact Ms hc (Oper.wp_mono (λa w hh=>vU fk hQ l a w hh) h)
    .exact absurd h hQ
   .rename_i hw;simp only[hw,adl,adz]at h;exact⟨λ_ _=>trivial,vU fk hQ l _ w h⟩
theorem aaM{ops:Array Oper}(fk:ops.all (λo=>il o.op)=true)(hQ:¬LetsOut Q){i:Nat}{K:Act->World->Prop}{a:Act}{w:World}(h:wpOp P ops Q i K a w):wpOpIn (FR ro) m P ops Q i K a w:=by
 unfold wpOp at h;unfold wpOpIn
 cases ho:ops[i]? with
 |none=>simp only[ho]at h⊢;exact h
 |some o=>
  simp only[ho]at h⊢
  have hc:il o.op=true:=by
   have:=afv.1 fk o (aeM ho);exact this
  split
  .rename_i hw;simp only[hw,adJ]at h
   rcases h with h|⟨_,h⟩
   .exact Ms hc h
   .exact absurd h hQ
  .rename_i hw;simp only[hw,adl,adz]at h;exact⟨λ_ _=>trivial,h⟩
theorem Is{ops:Array Oper}{md:Region.Mode}(fk:ops.all (λo=>il o.op)=true)(hQ:¬LetsOut Q):∀(fuel:Nat)(listed:Array Bool)(a:Act)(w:World),wpAny P md ops Q fuel listed a w->wpAnyIn (FR ro) m P md ops Q fuel listed a w
 |0,_,_,_,h=>h
 |fuel+1,listed,a,w,h=>⟨h.1,λi hi=>wpOpIn_mono (λa w hh=>Is fk hQ fuel _ a w hh) (aaM fk hQ (h.2 i hi))⟩
def kY:Code->Bool
 |.region _ ops _=>ops.all λo=>il o.op
 |.seq x y|.cond _ x y=>kY x&&kY y
 |.block _ c|.loop c=>kY c
 |_=>true
end
section
variable{P:Program}{GI:World->Prop}{w0:World}{n:Nat}{g:Gh}{S:av}{H:aD}{a:Act}{w:World}{ro:Option Nat}{m:Nat}
theorem zm{old:Old}{Q:dp->av->aD->Prop}:¬LetsOut (QQ P w0 n old Q):=λ⟨_,_,h⟩=>h
theorem xH (hG:aw GI) (cT:GI w0) {old:Old} {ops:Array Oper} {Q:dp→av→aD→Prop} (fk:ops.all (fun o=>il o.op)=true) (cP:(cN P n false ops).all (·.ok n)=true) (dH:∀ o∈cN P n false ops,∀ d∈o.je,¬ old.bx d) (ho:g.old=old) (R:Rel P w0 n cm g S H a w)
  (h:bn P GI (cN P n false ops) (Q .normal) (λv=>Q (.panic v) S H) S H):wpOpsIn (FR ro) m P ops (QQ P w0 n old Q) (List.range ops.size) a w:=by
 refine vU fk zm _ _ _ (y5 hG cT (S0:=S) (H0:=H) (List.range ops.size) ops.toList g S H a w ?_ (λo qf=>?_) (λo qf=>dH _ (ago qf)) ho R h)
 .apply aeX;intro i;simp only[adI]
  by_cases hi:i<ops.size
  .simp[hi]
  .simp[hi]
 .simp only[cN,afA,adu,Function.comp]at cP;exact cP o qf
theorem O1 (hG:aw GI) (cT:GI w0) {old:Old} {id:Nat} {ops:Array Oper} {Q:dp→av→aD→Prop} (fk:ops.all (fun o=>il o.op)=true) (cP:(cN P n false ops).all (·.ok n)=true) (dH:∀ o∈cN P n false ops,∀ d∈o.je,¬ old.bx d) (ho:g.old=old) (R:Rel P w0 n cm g S H a w)
  (h:bn P GI (cN P n false ops) (Q .normal) (λv=>Q (.panic v) S H) S H):(Code.region id ops false).wpIn (FR ro) m P (QQ P w0 n old Q) a w:=
 adB (xH hG cT fk cP dH ho R h)
theorem su (hG:aw GI) (cT:GI w0) (hm:P.follows .mixedOrders=true) {old:Old} {ops:Array Oper} {Q:dp→av→aD→Prop} (fk:ops.all (fun o=>il o.op)=true) (cP:UA P n ops=true) (dH:∀ o∈cN P n true ops,∀ d∈o.je,¬ old.bx d) (ho:g.old=old) (R:Rel P w0 n cm g S H a w)
  (h:dc P GI (cN P n true ops) (Q .normal) (eY (cN P n true ops) S) (dQ (cN P n true ops) H)):wpAnyIn (FR ro) m P .any ops (QQ P w0 n old Q) ops.size (Array.replicate ops.size false) a { w with drawn:=w.drawn+1 }:=by
 simp only[UA,adb,adf]at cP;obtain⟨⟨⟨h1,h2⟩,h3⟩,h4⟩:=cP;refine Is fk zm _ _ _ _ ?_;have R0:Rel P w0 n cm g S H a { w with drawn:=w.drawn+1 }:=R.kS ((aeb _ w).drew)
 obtain⟨g',e1,e2,R'⟩:=Rel.eY (cN P n true ops) R0 h3 (λd hd=>by
  simp only[fh,aft,adr]at hd;obtain⟨o,qf,⟨d',z⟩,k1,rfl⟩:=hd;rw[ho];refine dH o qf d' ?_;unfold bQ at k1;split at k1
  .rename_i h1 h2;cases k1;simp[cC.je,h1,h2,fw.je]
  .cases k1)
 have hU:UU P n ops (Array.replicate ops.size false)=(λt=>cm t\/t∈fh (cN P n true ops)):=by
  funext t
  simp only[UU,cm,agW,agA,fh,aft,adr]
  constructor
  .rintro⟨j,o,z,k1,k2,k3⟩;rw[<-jK]at k1;exact⟨o,aet k1,(t,z),k2,rfl⟩
  .rintro⟨o,ho,⟨d,z⟩,k1,rfl⟩;obtain⟨j,hj⟩:=ag4 ho;refine⟨j,o,z,by rw[<-jK];exact hj,k1,?_⟩
   have:j<ops.size:=by
    have:=(adE.1 hj).1;simpa[cN]using this
   simp[this]
 refine P3 hG cT h2 (λo qf=>?_) ops.size (Array.replicate ops.size false) g' _ _ a _ (by simp) (e2.trans ho) (by rw[hU];exact R') (λj o d z k1 k2 k3=>?_) ?_
 .simp only[cN,afA,adu,Function.comp]at h1;exact h1 o (by simpa using qf)
 .rw[<-jK]at k1;exact F6 _ S H h3 o (aet k1) d z k2
 .have:=Ig (QA:=Q .normal) ops.toList 0 (Array.replicate ops.size false) _ _ (by simp) (by simpa using h4) h;simpa using this
theorem Nf (hG:aw GI) (cT:GI w0) (hm:P.follows .mixedOrders=true) {old:Old} {id:Nat} {ops:Array Oper} {Q:dp→av→aD→Prop} (fk:ops.all (fun o=>il o.op)=true) (cP:UA P n ops=true) (dH:∀ o∈cN P n true ops,∀ d∈o.je,¬ old.bx d) (ho:g.old=old) (R:Rel P w0 n cm g S H a w)
  (h:dc P GI (cN P n true ops) (Q .normal) (eY (cN P n true ops) S) (dQ (cN P n true ops) H)):(Code.region id ops true).wpIn (FR ro) m P (QQ P w0 n old Q) a w:=
 afC hm (su hG cT hm fk cP dH ho R h)
abbrev jM:=dp->Old->av->aD->Prop
def QS(P:Program)(w0:World)(n:Nat)(Q:jM):Exit->Act->World->Prop
 |.normal,a,w=>∃g S H,Rel P w0 n cm g S H a w/\Q .normal g.old S H
 |.exit id,a,w=>∃g S H,Rel P w0 n cm g S H a w/\Q (.exit id) g.old S H
 |.ret,a,w=>∃g S H,Rel P w0 n cm g S H a w/\Q .ret g.old S H
 |.panic chain,a,w=>∃(o:Old)(v:AV)(c:Value)(hi:Nat->Nat)(S:av)(H:aD),a.defers=o.ds/\chain=[{ v:=c,recovered:=false }]/\Below w0.heap.size w0 w/\(∀b,w.heap.size<=b->hi b=0)/\RD (vv w0.heap.size o.c hi) w v c/\Q (.panic v) o S H
 |_,_,_=>False
def SW(P:Program)(GI:World->Prop)(n:Nat)(ro:Option Nat)(c:Code)(Q:jM)(old:Old)(S:av)(H:aD):Prop:=
 ∀(w0:World)(g:Gh)(a:Act)(w:World)(m:Nat),GI w0->g.old=old->Rel P w0 n cm g S H a w->c.wpIn (FR ro) m P (QS P w0 n Q) a w
def thenS(K:Old->av->aD->Prop)(Q:jM):jM
 |.normal=>K
 |e=>Q e
def VW(id:Nat)(Q:jM):jM
 |.exit j=>if j=id then Q .normal else Q (.exit j)
 |e=>Q e
variable{old:Old}{Q Q':jM}
theorem QS.mono(h:∀e o S H,Q e o S H->Q' e o S H){e:Exit}{a:Act}{w:World}(hq:QS P w0 n Q e a w):QS P w0 n Q' e a w:=by
 cases e<;>simp only[QS]at hq⊢
 case normal=>obtain⟨g,S,H,h2,h3⟩:=hq;exact⟨g,S,H,h2,h _ _ _ _ h3⟩
 case exit=>obtain⟨g,S,H,h2,h3⟩:=hq;exact⟨g,S,H,h2,h _ _ _ _ h3⟩
 case ret=>obtain⟨g,S,H,h2,h3⟩:=hq;exact⟨g,S,H,h2,h _ _ _ _ h3⟩
 case panic=>obtain⟨o,v,c,hi,S,H,h1,h2,h3,h4,h5,h6⟩:=hq;exact⟨o,v,c,hi,S,H,h1,h2,h3,h4,h5,h _ _ _ _ h6⟩
theorem SW.mono{c:Code}(h:∀e o S H,Q e o S H->Q' e o S H)(hs:SW P GI n ro c Q old S H):SW P GI n ro c Q' old S H:=
 λw0 g a w m hG ho R=>afl (hs w0 g a w m hG ho R) λ_ _ _ hq=>QS.mono h hq
theorem SW.seq{x y:Code}(hx:SW P GI n ro x (thenS (SW P GI n ro y Q) Q) old S H):SW P GI n ro (.seq x y) Q old S H:=by
 intro w0 g a w m hG ho R;refine adk (afl (hx w0 g a w m hG ho R) ?_);intro e a' w' he
 cases e with
 |normal=>
  obtain⟨g',S',H',h2,h3⟩:=he;exact h3 w0 g' a' w' m hG rfl h2
 |exit id=>exact he
 |ret=>exact he
 |panic ch=>exact he
 |goto l=>exact he.elim
 |outgrown=>exact he.elim
theorem SW.block{id:Nat}{c:Code}(hc:SW P GI n ro c (VW id Q) old S H):SW P GI n ro (.block id c) Q old S H:=by
 intro w0 g a w m hG ho R;refine aen (afl (hc w0 g a w m hG ho R) ?_);intro e a' w' he
 cases e with
 |normal=>exact he
 |exit j=>
  obtain⟨g',S',H',h2,h3⟩:=he;simp only[VW]at h3;simp only[Exit.inBlock];split
  .rename_i hj;rw[if_pos hj]at h3;exact⟨g',S',H',h2,h3⟩
  .rename_i hj;rw[if_neg hj]at h3;exact⟨g',S',H',h2,h3⟩
 |ret=>exact he
 |panic ch=>exact he
 |goto l=>exact he.elim
 |outgrown=>exact he.elim
theorem SW.cond{c:Operand}{c':eA}{x y:Code}(hc:eO n c=some c')(b:Bool)(hb:ev S c'=.bool b)(h:SW P GI n ro (if b then x else y) Q old S H):SW P GI n ro (.cond c x y) Q old S H:=by
 intro w0 g a w m hG ho R;have hv:=R.ev hc (λ_ _=>id);rw[hb]at hv
 have:a.eval c=.bool b:=by
  generalize a.eval c=v at hv;cases hv;rename_i hv;cases hv;rfl
 exact ad1 this (h w0 g a w m hG ho R)
theorem SW.exit{id:Nat}(h:Q (.exit id) old S H):SW P GI n ro (.exit id) Q old S H:=
 λ_ g _ _ _ _ ho R=>afc ⟨g,S,H,R,by rw[ho];exact h⟩
theorem SW.ret(h:Q .ret old S H):SW P GI n ro .ret Q old S H:=
 λ_ g _ _ _ _ ho R=>aeZ ⟨g,S,H,R,by rw[ho];exact h⟩
theorem SW.skip(h:Q .normal old S H):SW P GI n ro .skip Q old S H:=
 λ_ g _ _ _ _ ho R=>aer ⟨g,S,H,R,by rw[ho];exact h⟩
theorem SW.loop{c:Code}(I:Old->av->aD->Prop)(μ:av->aD->Nat)(h0:I old S H)(hr:∀o S H,I o S H->SW P GI n ro c (thenS (λo' S' H'=>I o' S' H'/\μ S' H'<μ S H) Q) o S H):SW P GI n ro (.loop c) Q old S H:=by
 intro w0 g a w m hG ho R;subst ho
 have key:∀ (k:Nat) (g:Gh) (S:av) (H:aD) (a:Act) (w:World),Rel P w0 n cm g S H a w→I g.old S H→μ S H=k→∀ (b:Frame) (kk:List Item) (cs:List Frame),b.roundOf=ro→(FR ro).room (cs.length+1+m) →
   ∃e a' w',QS P w0 n Q e a' w'/\ArrivesIn (Machine.fenced P (FR ro)) P (lone (b.atR a (.code c::.inLoop c::kk)) cs w) b kk cs e a' w':=by
  intro k
  induction k using Nat.strongRecOn with
  |_ k ih=>
   intro g S H a w R hI hk b kk cs DW l5;obtain⟨e,mH,p9,hq,ld⟩:=hr g.old S H hI w0 g a w m hG rfl R b (.inLoop c::kk) cs DW trivial l5
   cases e with
   |normal=>
    obtain⟨g',S',H',h2,h3,h4⟩:=hq;obtain⟨Ly,LD,Lh,Fa,wm⟩:=ih _ (by rw[<-hk];exact h4) g' S' H' mH p9 h2 h3 rfl b kk cs DW l5;exact⟨Ly,LD,Lh,Fa,.of_steps (agR ld (.one (af6 (F:=FR ro) (fr:=b.atR mH (.inLoop c::kk)) trivial l5 rfl) ahb)) wm⟩
   |exit id=>exact⟨.exit id,mH,p9,hq,.pass (x:=.inLoop c) rfl (λ_ _=>.inl (by simp)) ld⟩
   |goto l=>exact hq.elim
   |ret=>exact⟨.ret,mH,p9,hq,.pass (x:=.inLoop c) rfl (λ_ _=>.inl (by simp)) ld⟩
   |panic ch=>exact⟨.panic ch,mH,p9,hq,.pass (x:=.inLoop c) rfl (λ_ _=>.inl (by simp)) ld⟩
   |outgrown=>exact hq.elim
 intro b kk cs DW hF l5;obtain⟨e,a',w',hq,ld⟩:=key _ g S H a w R h0 rfl b kk cs DW l5;exact⟨e,a',w',hq,.of_steps (.one (af6 (F:=FR ro) (fr:=b.atR a (.code (.loop c)::kk)) trivial l5 rfl) stepR_loop) ld⟩
def jM.bC(old:Old)(Q:jM):dp->av->aD->Prop
 |e,S,H=>Q e old S H
theorem NB{e:Exit}{a:Act}{w:World}(h:QQ P w0 n old (Q.bC old) e a w):QS P w0 n Q e a w:=by
 cases e<;>simp only[QQ,QS]at h⊢
 case normal=>obtain⟨g,S,H,h1,h2,h3⟩:=h;exact⟨g,S,H,h2,by rw[h1];exact h3⟩
 case exit=>obtain⟨g,S,H,h1,h2,h3⟩:=h;exact⟨g,S,H,h2,by rw[h1];exact h3⟩
 case ret=>obtain⟨g,S,H,h1,h2,h3⟩:=h;exact⟨g,S,H,h2,by rw[h1];exact h3⟩
 case panic=>obtain⟨h1,v,c,hi,S,H,h2,h3,h4,h5,h6⟩:=h;exact⟨old,v,c,hi,S,H,h1,h2,h3,h4,h5,h6⟩
theorem ma (hG:aw GI) (cT:GI w0) (hm:P.follows .mixedOrders=true) {old:Old} :
  ∀(c:Code)(Q:dp->av->aD->Prop)(g:Gh)(S:av)(H:aD)(a:Act)(w:World),kY c=true->(∀d∈(d_ P n c).names,¬old.bx d)->g.old=old->Rel P w0 n cm g S H a w->bC P GI (d_ P n c) Q S H->c.wpIn (FR ro) m P (QQ P w0 n old Q) a w
 |.skip,Q,g,S,H,a,w,_,dH,ho,R,h=>aer ⟨g,S,H,ho,R,h⟩
 |.region id ops draw,Q,g,S,H,a,w,fk,dH,ho,R,h=>by
  simp only[d_]at h dH
  cases draw with
  |true=>
   simp only[adJ]at h dH;split at h
   case isFalse=>exact h.elim
   rename_i cP;rw[if_pos cP]at dH;exact Nf hG cT hm fk cP (λo qf d hd=>dH d (adR.2 ⟨o,qf,hd⟩)) ho R h
  |false=>
   simp only[adl,adz]at h dH;split at h
   case isFalse=>exact h.elim
   rename_i cP;rw[if_pos cP]at dH;exact O1 hG cT fk cP (λo qf d hd=>dH d (adR.2 ⟨o,qf,hd⟩)) ho R h
 |.seq x y,Q,g,S,H,a,w,fk,dH,ho,R,h=>by
  simp only[kY,adb]at fk;refine adk (afl (ma hG cT hm x _ g S H a w fk.1 (λd hd=>dH d (by simp[d_,af.names,hd])) ho R h) ?_);intro e a' w' he
  cases e with
  |normal=>
   obtain⟨g',S',H',h1,h2,h3⟩:=he;exact ma hG cT hm y Q g' S' H' a' w' fk.2 (λd hd=>dH d (by simp[d_,af.names,hd])) h1 h2 h3
  |exit id=>exact he
  |ret=>exact he
  |panic ch=>exact he
  |goto l=>exact he.elim
  |outgrown=>exact he.elim
 |.cond c x y,Q,g,S,H,a,w,fk,dH,ho,R,h=>by
  simp only[kY,adb]at fk;simp only[d_]at h;split at h
  case h_2=>exact h.elim
  rename_i c' hc;simp only[d_,hc,af.names,adm]at dH;simp only[bC]at h;have hv:=R.ev hc (λ_ _=>id)
  have key:∀b,a.eval c=.bool b->(if b then x else y).wpIn (FR ro) m P (QQ P w0 n old Q) a w->(Code.cond c x y).wpIn (FR ro) m P (QQ P w0 n old Q) a w:=λb hb h=>ad1 hb h
  split at h
  .rename_i hb;rw[hb]at hv
   have:a.eval c=.bool true:=by
    generalize a.eval c=v at hv;cases hv;rename_i hv;cases hv;rfl
   exact key true this (ma hG cT hm x Q g S H a w fk.1 (λd hd=>dH d (.inl hd)) ho R h)
  .rename_i hb;rw[hb]at hv
   have:a.eval c=.bool false:=by
    generalize a.eval c=v at hv;cases hv;rename_i hv;cases hv;rfl
   exact key false this (ma hG cT hm y Q g S H a w fk.2 (λd hd=>dH d (.inr hd)) ho R h)
  .rename_i hb;rw[hb]at hv
   have:∃b,a.eval c=.bool b:=by
    generalize a.eval c=v at hv;cases hv;rename_i hv;cases hv;exact⟨_,rfl⟩
   obtain⟨b,hb⟩:=this
   cases b with
   |true=>exact key true hb (ma hG cT hm x Q g S H a w fk.1 (λd hd=>dH d (.inl hd)) ho R h.1)
   |false=>exact key false hb (ma hG cT hm y Q g S H a w fk.2 (λd hd=>dH d (.inr hd)) ho R h.2)
  .exact h.elim
 |.block id c,Q,g,S,H,a,w,fk,dH,ho,R,h=>by
  refine aen (afl (ma hG cT hm c _ g S H a w fk (λd hd=>dH d (by simpa[d_,af.names]using hd)) ho R h) ?_);intro e a' w' he
  cases e with
  |normal=>exact he
  |exit j=>
   obtain⟨g',S',H',h1,h2,h3⟩:=he;simp only[db]at h3;simp only[Exit.inBlock];split
   .rename_i hj;rw[if_pos hj]at h3;exact⟨g',S',H',h1,h2,h3⟩
   .rename_i hj;rw[if_neg hj]at h3;exact⟨g',S',H',h1,h2,h3⟩
  |ret=>exact he
  |panic ch=>exact he
  |goto l=>exact he.elim
  |outgrown=>exact he.elim
 |.loop c,Q,g,S,H,a,w,fk,dH,ho,R,h=>by
  obtain⟨I,μ,h0,hr⟩:=h
  have key:∀ (k:Nat) (g:Gh) (S:av) (H:aD) (a:Act) (w:World),g.old=old→Rel P w0 n cm g S H a w→I S H→μ S H=k→∀ (b:Frame) (kk:List Item) (cs:List Frame),b.roundOf=ro→(FR ro).room (cs.length+1+m) →
    ∃e a' w',QQ P w0 n old Q e a' w'/\ArrivesIn (Machine.fenced P (FR ro)) P (lone (b.atR a (.code c::.inLoop c::kk)) cs w) b kk cs e a' w':=by
   intro k
   induction k using Nat.strongRecOn with
   |_ k ih=>
    intro g S H a w ho R hI hk b kk cs DW l5;obtain⟨e,mH,p9,hq,ld⟩:=ma hG cT hm c _ g S H a w fk (λd hd=>dH d (by simpa[d_,af.names]using hd)) ho R (hr S H hI) b (.inLoop c::kk) cs DW trivial l5
    cases e with
    |normal=>
     obtain⟨g',S',H',h1,h2,h3,h4⟩:=hq;obtain⟨Ly,LD,Lh,Fa,wm⟩:=ih _ (by rw[<-hk];exact h4) g' S' H' mH p9 h1 h2 h3 rfl b kk cs DW l5;exact⟨Ly,LD,Lh,Fa,.of_steps (agR ld (.one (af6 (F:=FR ro) (fr:=b.atR mH (.inLoop c::kk)) trivial l5 rfl) ahb)) wm⟩
    |exit id=>exact⟨.exit id,mH,p9,hq,.pass (x:=.inLoop c) rfl (λ_ _=>.inl (by simp)) ld⟩
    |goto l=>exact hq.elim
    |ret=>exact⟨.ret,mH,p9,hq,.pass (x:=.inLoop c) rfl (λ_ _=>.inl (by simp)) ld⟩
    |panic ch=>exact⟨.panic ch,mH,p9,hq,.pass (x:=.inLoop c) rfl (λ_ _=>.inl (by simp)) ld⟩
    |outgrown=>exact hq.elim
  intro b kk cs DW hF l5;obtain⟨e,a',w',hq,ld⟩:=key _ g S H a w ho R h0 rfl b kk cs DW l5;exact⟨e,a',w',hq,.of_steps (.one (af6 (F:=FR ro) (fr:=b.atR a (.code (.loop c)::kk)) trivial l5 rfl) stepR_loop) ld⟩
 |.exit id,Q,g,S,H,a,w,_,dH,ho,R,h=>afc ⟨g,S,H,ho,R,h⟩
 |.ret,Q,g,S,H,a,w,_,dH,ho,R,h=>aeZ ⟨g,S,H,ho,R,h⟩
 |.rangeFunc ..,_,_,_,_,_,_,_,_,_,_,h=>h.elim
 |.scope _,_,_,_,_,_,_,_,_,_,_,h=>h.elim
 |.label _,_,_,_,_,_,_,_,_,_,_,h=>h.elim
 |.goto _,_,_,_,_,_,_,_,_,_,_,h=>h.elim
 |.refuse _,_,_,_,_,_,_,_,_,_,_,h=>h.elim
theorem SW.og (hG:aw GI) (hm:P.follows .mixedOrders=true) {c:Code} (hc:kY c=true) (dH:∀ d∈(d_ P n c).names,¬ old.bx d) {ac:af} (pU:d_ P n c=ac)
  (h:bC P GI ac (Q.bC old) S H):SW P GI n ro c Q old S H:=by
 subst pU;intro w0 g a w m cT ho R
 exact afl (ma hG cT hm c _ g S H a w hc dH ho R h) λ_ _ _ hq=>NB hq
end
def Eb(g:Gh)(b:Nat):Prop:=g.base<=b/\g.hi b=0/\g.owner b=none/\∀i,g.al i≠some b
structure mV(M:Nat->Prop)(w w':World):Prop where
 os:w'.os=w.os
 tape:w'.tape=w.tape
 output:w'.output=w.output
 size:w.heap.size<=w'.heap.size
 block:∀b,b<w.heap.size->¬M b->w'.heap[b]?=w.heap[b]?
theorem mV.refl(M:Nat->Prop)(w:World):mV M w w:=⟨rfl,rfl,rfl,adh _,λ_ _ _=>rfl⟩
theorem mV.trans{M M' M'':Nat->Prop}{w w' lu:World}(h:mV M w w')(h':mV M' w' lu)(h1:∀b,M b->M'' b)(h2:∀b,M' b->b<w.heap.size->M'' b):mV M'' w lu:=
 ⟨h'.os.trans h.os,h'.tape.trans h.tape,h'.output.trans h.output,ael h.size h'.size,λb hb hm=>
  (h'.block b (adU hb h.size) λhh=>hm (h2 b hh hb)).trans (h.block b hb λhh=>hm (h1 b hh))⟩
theorem mV.sf{M:Nat->Prop}{w w':World}(h:Below w.heap.size w w'):mV M w w':=⟨h.os,h.tape,h.output,h.size,λb hb _=>h.block b hb⟩
theorem mV.below{M:Nat->Prop}{w w':World}(h:mV M w w'){k:Nat}(hk:k<=w.heap.size)(hM:∀b,M b->k<=b):Below k w w':=
 ⟨h.os,h.tape,h.output,h.size,λb hb=>h.block b (adU hb hk) λhm=>by have:=hM b hm;omega⟩
section
variable{P:Program}{w0:World}{n:Nat}{g:Gh}{S:av}{H:aD}{a:Act}{w w':World}
theorem Rel.dE(R:Rel P w0 n cm g S H a w){M:Nat->Prop}(ht:mV M w w')(hM:∀b,M b->Eb g b)(hk:∀b,M b->g.old.bf b=none):Rel P w0 n cm g S H a w':=by
 have fo:bl g.Pr g.Pr w w':=bl.pk λb k au hp=>ht.block b au λhm=>by
  obtain⟨h1,h2,_⟩:=hM b hm;rcases hp with hp|hp
  .omega
  .rw[h2]at hp;omega
 refine R.ext rfl rfl rfl fo ?_ ?_ ?_ ?_ ?_ ht.size
 .intro i b hi;obtain⟨_,_,_,_,_,h3,_⟩:=R.box i b hi;exact⟨ht.block b (ade.1 h3).1 λhm=>(hM b hm).2.2.2 i hi,rfl,rfl⟩
 .intro b loc ho
  have au:b<w.heap.size:=by
   rcases ae1 b w.heap.size with h|h
   .exact h
   .rw[(R.fresh b h).2]at ho;cases ho
  exact⟨ht.block b au λhm=>(by rw[(hM b hm).2.2.1]at ho;cases ho),rfl,ho⟩
 .exact R.below.trans (ht.below (by rw[R.base];exact R.below.size) λb hm=>(hM b hm).1)
 .exact λb hb=>R.fresh b (ael ht.size hb)
 .intro b o hko ho;exact⟨by rw[ht.block b (ade.1 ho).1 (λhm=>by rw[hk b hm]at hko;cases hko)];exact ho,rfl,rfl⟩
open Classical in
noncomputable def Gh.nJ(g:Gh)(G:Nat->Prop)(eb:Nat->Nat):Gh:={ g with hi:=λb=>if G b then eb b else g.hi b }
theorem Rel.nJ(R:Rel P w0 n cm g S H a w){G:Nat->Prop}(eb:Nat->Nat)(hG:∀b,G b->Eb g b/\b<w.heap.size/\g.old.bf b=none):Rel P w0 n cm (g.nJ G eb) S H a w:=by
 have hn:∀b,¬G b->(g.nJ G eb).hi b=g.hi b:=λb hb=>by simp[Gh.nJ,hb]
 have wO:∀b k,g.Pr b k->(g.nJ G eb).Pr b k:=by
  intro b k hp
  by_cases hb:G b
  .obtain⟨⟨h1,h2,_⟩,_⟩:=hG b hb;rcases hp with hp|hp
   .omega
   .rw[h2]at hp;omega
  .rcases hp with hp|hp
   .exact .inl hp
   .exact .inr ⟨hp.1,by rw[hn b hb];exact hp.2⟩
 refine R.ext (g':=g.nJ G eb) rfl rfl rfl (bl.same λb k _ hp=>wO b k hp) ?_ ?_ R.below ?_ ?_ (adh _)
 .intro i b hi;exact⟨rfl,hn b λhb=>(hG b hb).1.2.2.2 i hi,rfl⟩
 .intro b loc ho;exact⟨rfl,hn b (λhb=>by rw[(hG b hb).1.2.2.1]at ho;cases ho),ho⟩
 .intro b hb;exact⟨by rw[hn b (λh=>by have:=(hG b h).2.1;omega)];exact(R.fresh b hb).1,(R.fresh b hb).2⟩
 .intro b o hk ho;exact⟨ho,hn b (λh=>by rw[(hG b h).2.2]at hk;cases hk),rfl⟩
theorem Rel.mF(R:Rel P w0 n cm g S H a w){l:Nat}{o:Obj}(hl:g.old.bf l=some o)(o':Obj):Rel P w0 n cm { g with old:={ g.old with bf:=ar g.old.bf l (some o') } } S H a (w.putObj l o'):=by
 obtain⟨k1,k2,k3,k4,k5⟩:=R.kept l o hl;have au:l<w.heap.size:=(ade.1 k2).1
 have kC:∀b,b≠l->(w.putObj l o').heap[b]?=w.heap[b]?:=λb hb=>agC hb
 have cI:∀b k,g.Pr b k->b≠l:=by
  rintro b k hp rfl;rcases hp with hp|hp
  .omega
  .rw[k3]at hp;omega
 have hK:bl g.Pr g.Pr w (w.putObj l o'):=bl.pk λb k _ hp=>kC b (cI b k hp)
 have oq:(w.putObj l o').heap.size=w.heap.size:=by simp[World.putObj]
 refine{ size:=R.size,defers:=R.defers,facts:=λp hp=>(R.facts p hp).mono hK λ_ _ h=>h,slot:=λt ht hu=>(R.slot t ht hu).mono hK λ_ _ h=>h,own:=λt ht hu=>(R.own t ht hu).bf rfl λb' kg=>⟨kC b' (by rintro rfl;rw[k4]at kg;cases kg),rfl,kg⟩,box:=?_,mB:=R.mB,mr:=R.mr,inj:=R.inj,base:=R.base,below:=?_,fresh:=?_,still:=R.still.trans hK,grown:=by rw[oq];exact R.grown,kept:=?_ }
 .intro i b hi;obtain⟨cs,vs,ty,h1,h2,h3,h4,h5,h6,h7,h8,h9⟩:=R.box i b hi
  have kW:b≠l:=by rintro rfl;exact k5 i hi
  refine⟨cs,vs,ty,h1,h2,by rw[kC b kW];exact h3,h4,h5,h6,λj hj dY=>(h7 j hj dY).mono hK,λj hj dY=>(h8 j hj dY).bf rfl λb' kg=>⟨kC b' (by rintro rfl;rw[k4]at kg;cases kg),rfl,kg⟩,h9⟩
 .refine R.below.trans ⟨rfl,rfl,rfl,by rw[oq];exact adh _,λk hk=>kC k (by omega)⟩
 .intro b hb;rw[oq]at hb;exact R.fresh b hb
 .intro b ob h
  by_cases kW:b=l
  .subst kW
   have:ob=o':=by simpa[ar]using h.symm
   subst this;exact⟨k1,agG au,k3,k4,k5⟩
  .have h:g.old.bf b=some ob:=by simpa[ar,kW]using h
   obtain⟨q1,q2,q3,q4,q5⟩:=R.kept b ob h;exact⟨q1,by rw[kC b kW];exact q2,q3,q4,q5⟩
theorem Rel.Ia (R:Rel P w0 n cm g S H a w) (o2:Old) {a2:Act} {S2:av} (hc:o2.c=g.old.c) (bq:a2.tmps.size=n) (dZ:a2.defers=o2.ds)
  (hf:∀p∈o2.facts,RV g.Pr g.al w p.1 p.2) (jC:bl o2.sp g.Pr o2.sw w) (kL:o2.sw.heap.size<=w.heap.size) (hk:∀b o,o2.bf b=some o->Eb g b/\w.heap[b]?=some o)
  (hS:∀t,t<n->(S2 t).aG=S2 t/\RV g.Pr g.al w (S2 t) (a2.tmps.getD t undef)):Rel P w0 n cm { g with old:=o2 } S2 H a2 w:=by
 have wO:({ g with old:=o2 }:Gh).Pr=g.Pr:=by
  funext b k
  simp only[Gh.Pr,hc]
 refine{ size:=bq,defers:=dZ,facts:=by rw[wO];exact hf,slot:=λt ht _=>by rw[wO];exact(hS t ht).2,own:=λt ht _=>?_,box:=?_,mB:=R.mB,mr:=R.mr,inj:=R.inj,base:=R.base,below:=R.below,fresh:=R.fresh,still:=by rw[wO];exact jC,grown:=kL,kept:=?_ }
 .rw[<-(hS t ht).1];exact gR.aG
 .intro i b hi;obtain⟨cs,vs,ty,h1,h2,h3,h4,h5,h6,h7,h8,h9⟩:=R.box i b hi;exact⟨cs,vs,ty,h1,h2,h3,h4,h5,h6,by rw[wO];exact h7,λj hj dY=>(h8 j hj dY).bf rfl λb hb=>⟨rfl,rfl,hb⟩,h9⟩
 .intro b o h;obtain⟨⟨q1,q3,q4,q5⟩,q2⟩:=hk b o h;exact⟨q1,q2,q3,q4,q5⟩
def inL(L:Nat->Bool):AV->Bool
 |.box i _=>L i
 |.func ..|.j0 _=>true
 |_=>false
def pH(L:Nat->Bool)(v:AV):AV:=match v with
 |.box i o=>if L i then .br else .box i o
 |.func fn f c=>if f.any (inL L)||c.any (inL L)then .br else .func fn f c
 |.j0 _=>.br
 |v=>v.aG
theorem RV.pH{Pr:Nat->Nat->Prop}{al:Nat->Option Nat}{w:World}{v:AV}{c:Value}{L:Nat->Bool}(h:RV Pr al w v c):RV Pr al w (Go.AL.pH L v) c:=by
 have hd:=h.aG
 cases v<;>simp only[Go.AL.pH]<;>(try exact hd)
 .split
  .exact .br _
  .exact h
 .split
  .exact .br _
  .exact h
 .exact .br _
theorem XP(L:Nat->Bool)(v:AV):(pH L v).aG=pH L v:=by
 cases v<;>simp only[pH]<;>try rfl
 .rename_i o es;cases o<;>rfl
 .split<;>rfl
 .split<;>rfl
theorem Wy(L:Nat->Bool)(v:AV):flat (pH L v)=true:=by
 cases v<;>simp only[pH]<;>try rfl
 .rename_i o es;cases o<;>rfl
 .split<;>rfl
 .split
  .rfl
  .rename_i fn f c h;simp only[afp,afB,ad5]at h;simp only[flat,adb,adu];refine⟨λv hv=>?_,λv hv=>?_⟩
   .have:=h.1 v hv
    cases v<;>first|rfl|(cases this;done)
   .have:=h.2 v hv
    cases v<;>first|rfl|(cases this;done)
theorem SV(L:Nat->Bool)(v:AV)(d:Nat)(hd:L d=true):bX d (pH L v)=pH L v:=by
 have key:∀v,inL L v=false->¬l6 d v=true:=by
  intro v hv hs
  cases v<;>simp only[l6]at hs<;>(try cases hs)<;>(try cases hv)
  simp only[adX]at hs;subst hs;simp only[inL,hd]at hv;cases hv
 cases v<;>simp only[pH]<;>try rfl
 .rename_i o es;cases o<;>rfl
 .split
  .rfl
  .rename_i i o h;simp only[bX];rw[if_neg];rintro rfl;exact h hd
 .split
  .rfl
  .rename_i fn f c h;simp only[afp,afB,ad5]at h;simp only[bX];rw[if_neg];simp only[aei,aeU,not_or,not_exists,not_and];exact⟨λv hv=>key v (h.1 v hv),λv hv=>key v (h.2 v hv)⟩
end
structure Cons(P:Program)(GI:World->Prop)(l:Nat)(xs:List AV) where
 J:Nat->(Nat->Prop)->(Nat->Nat->Prop)->World->Prop
 X:(Nat->Prop)->(Nat->Nat->Prop)->World->Prop
 gi:∀{k M Pr w},J k M Pr w->GI w
 apart:∀{k M Pr w},J k M Pr w->∀b j,M b->¬Pr b j
 dE:∀{k M M' Pr w w'},J k M Pr w->mV M w w'->(∀b,M' b->b<w'.heap.size/\(M b\/w.heap.size<=b))->J k M' Pr w'
 abF:∀{M M' Pr w w'},X M Pr w->mV M w w'->(∀b,M' b->b<w'.heap.size/\(M b\/w.heap.size<=b))->X M' Pr w'
 round:∀{k:Nat}(hk:k<xs.length){M Pr w}(G:Nat->Prop)(eb:Nat->Nat)(c:Value),J k M Pr w->(∀b,G b->M b)->RD (λb j=>Pr b j\/(G b/\j<eb b)) w xs[k] c->
  ∃f tmps assign body,(Instr.yield l #[c]).run P w=.ok (.round l f tmps assign body) w/\
   ∀m,RoundIn (FR none) m P l f tmps assign body w λe w'=>(∀b,M b->¬G b->w'.heap[b]?=w.heap[b]?)/\∃eR,bl Pr eR w w'/\
    ((e=.returned (.bool true)/\J (k+1) (λb=>M b/\¬G b) eR w')\/(e=.returned (.bool false)/\X (λb=>M b/\¬G b) eR w'))
def cj:Nat->Option Nat:=λ_=>none
def sP(P:Program)(GI:World->Prop)(f:Nat)(caps:List AV)(xs:List AV):Prop:=
 ∀(l:Nat)(C:Cons P GI l xs)(w:World)(Pr:Nat->Nat->Prop)(ck:Array Value),C.J 0 (λ_=>False) Pr w->caps.length=ck.size->
  (∀i (h:i<caps.length)(h':i<ck.size),RV Pr cj w caps[i] ck[i])->
  Calls P f (#[.func (.yield l) #[] #[]]++ck) w λe w'=>∃v M eR,e=.returned v/\(C.J xs.length M eR w'\/C.X M eR w')
def Ok:AV->Bool
 |.box ..|.func ..|.j0 _=>false
 |_=>true
def SH:AV->Bool
 |.box ..|.j0 _=>false
 |.func _ f c=>f.all Ok&&c.all Ok
 |_=>true
theorem RV.Wd{Pr:Nat->Nat->Prop}{al:Nat->Option Nat}{w:World}{v:AV}{c:Value}(h:RV Pr al w v c)(hv:Ok v=true):RV Pr Go.AL.cj w v c:=by
 cases h with
 |data v c h=>exact .data _ _ h
 |box=>cases hv
 |func=>cases hv
 |j0=>cases hv
 |br c=>exact .br c
theorem RV.cj{Pr:Nat->Nat->Prop}{al:Nat->Option Nat}{w:World}{v:AV}{c:Value}(h:RV Pr al w v c)(hv:SH v=true):RV Pr Go.AL.cj w v c:=by
 cases h with
 |data v c h=>exact .data _ _ h
 |box=>cases hv
 |func fn f c vs us h1 h2 r1 r2=>
  simp only[SH,adb,adu]at hv;exact .func _ _ _ _ _ h1 h2 (λi hi eb=>(r1 i hi eb).Wd (hv.1 _ (ada hi))) (λi hi eb=>(r2 i hi eb).Wd (hv.2 _ (ada hi)))
 |j0=>cases hv
 |br c=>exact .br c
def Old.mark(o:Old)(D:Nat):Old:={ o with ds:={ target:=.collected D,args:=#[] }::o.ds,bf:=ar o.bf D (some (.deferred (some []))) }
def Ql:dp->Option Code
 |.exit id=>some (.exit id)
 |.ret=>some .ret
 |_=>none
def oG(I:aD->Prop)(Ix:dp->aD->Prop):dp->av->aD->Prop
 |.normal,_,H=>I H
 |.panic _,_,_=>False
 |e,_,H=>Ix e H
def aM(K:av->aD->Prop):dp->av->aD->Prop
 |.normal,S,H=>K S H
 |_,_,_=>False
section
variable{P:Program}{GI:World->Prop}{n:Nat}{S:av}{H:aD}
open Classical in
theorem SW.range (hG:aw GI) (hm:P.follows .mixedOrders=true) {old:Old} {Q:jM} {KW:Operand} {y:eA} {p:Tmp} {assign body:Code} {f:Nat} {caps xs:List AV}
  (hg:eO n KW=some y) (hS:ev S y=.func (.func f) [] caps) (hf:dX P f=true) (mN:caps.all SH=true) (hit:sP P GI f caps xs) (hp:p<n) (o_:∀x∈xs,x.aG=x)
  (L:Nat->Bool) {aa ab:af} (haa:d_ P n assign=aa) (pq:d_ P n body=ab) (hLa:∀d∈aa.names,L d=true) (hLb:∀d∈ab.names,L d=true) (hLo:∀d,L d=true->¬old.bx d)
  (Jj:kY assign=true) (nv:kY body=true) (I:Nat->aD->Prop) (Ix:dp->aD->Prop) (h0:I 0 H)
  (vM:∀k (hk:k<xs.length) H',I k H'->bC P GI aa (aM (bC P GI ab (oG (I (k+1)) Ix))) (ar (λt=>pH L (S t)) p xs[k]) H')
  (abA:∀D H',old.bf D=none->I xs.length H'->Q .normal (old.mark D) (λt=>pH L (S t)) H')
  (abI:∀D e H',old.bf D=none->(Ql e).isSome=true->Ix e H'->Q e (old.mark D) (λt=>pH L (S t)) H'):
  SW P GI n none (.rangeFunc KW #[p] assign body) Q old S H:=by
 subst haa pq;intro w0 g a w m cT ho R;subst ho;refine wpIn_rangeFunc ?_;intro fn QF
 obtain⟨rec,F'⟩:∃rec:LoopState->Option Code->Loop,rec=λst pe=>{ state:=st,pending:=pe,fn,tmps:=a.tmps,params:=#[p],assign,body,defers:=w.heap.size }:=⟨_,rfl⟩
 obtain⟨W1,hW1⟩:∃W1,(w.alloc (.deferred (some []))).alloc (.loop (rec .ready none))=W1:=⟨_,rfl⟩
 obtain⟨D,hD⟩:∃D,w.heap.size=D:=⟨_,rfl⟩
 have hL1:W1.heap[D+1]?=some (.loop (rec .ready none)):=by
  rw[<-hW1,<-hD];have:=ad4 (w.alloc (.deferred (some []))) (.loop (rec .ready none));rwa [World.size_alloc]at this
 have hK1:W1.heap[D]?=some (.deferred (some [])):=by
  rw[<-hW1,<-hD];exact(age _ _ _ (by simp)).trans (ad4 w _)
 have uX:Below w.heap.size w W1:=by
  rw[<-hW1];exact(((aeb _ w).alloc (adh _) _).alloc (by simp) _)
 have R1:Rel P w0 n cm g S H a W1:=R.kS uX
 have hle:g.base<=D:=by rw[<-hD,R.base];exact R.below.size
 have vj:∀b,D<=b->Eb g b:=λb hb=>⟨by omega,(R.fresh b (by omega)).1,(R.fresh b (by omega)).2,λi hi=>by
  obtain⟨_,_,_,_,_,h3,_⟩:=R.box i b hi;have:=(ade.1 h3).1
  omega⟩
 have JC:∀b,D<=b->g.old.bf b=none:=λb hb=>by
  cases hk:g.old.bf b with
  |none=>rfl
  |some o=>have:=(ade.1 (R.kept b o hk).2.1).1;omega
 have kM:=R.ev hg (λ_ _=>id);rw[hS]at kM
 obtain⟨us,y9,ni,hcr⟩:∃us:Array Value,a.eval KW=.func (.func f) #[] us/\caps.length=us.size/\∀i (h:i<caps.length)(h':i<us.size),RV g.Pr cj W1 caps[i] us[i]:=by
  generalize hq:a.eval KW=q at kM
  cases kM with
  |data _ _ h=>cases h
  |func _ _ _ vs us h1 h2 r1 r2=>
   have:vs=#[]:=aeG (by simpa using h1.symm);subst this;refine⟨us,rfl,h2,λi h h'=>?_⟩;have:=(r2 i h h').cj (by simp only[adu]at mN;exact mN _ (ada h))
   exact this.mono (bl.iY (λb au=>uX.block b au) λ_ _ _ h=>h) λ_ _ h=>h
 let Se:av:=λt=>pH L (S t)
 let al:Act:={ tmps:=a.tmps,defers:=[] }
 let fs:List (AV×Value):=(List.range n).map λt=>(Se t,a.tmps.getD t undef)
 let kp:Nat->Option Obj:=ar (ar g.old.bf D (some (.deferred (some [])))) (D+1) (some (.loop (rec .ready none)))
 have cP:∀q∈fs++g.old.facts,flat q.1=true/\∀d,¬(L d=false)->bX d q.1=q.1:=by
  intro q hq;rcases adm.1 hq with h|h
  .obtain⟨t,_,rfl⟩:=adx.1 h;exact⟨Wy L _,λd hd=>SV L _ d (by simpa using hd)⟩
  .exact⟨(g.old.ok q h).1,λd hd=>(g.old.ok q h).2 d (hLo d (by simpa using hd))⟩
 let mk:(Nat->Option Obj)->(Nat->Nat->Prop)->World->Old:=λbf sp sw=>
  { c:=g.old.c,facts:=fs++g.old.facts,bx:=λd=>L d=false,ds:=[],bf:=bf,sp:=sp,sw:=sw,ok:=cP }
 let NN:Old:=mk kp g.old.sp g.old.sw
 let kx:Code->Nat->Option Obj:=λc=>ar kp (D+1) (some (.loop (rec .done (some c))))
 have hSe:∀t,(Se t).aG=Se t:=λt=>XP L _
 have bq:a.tmps.size=n:=R.size
 have V_:∀{g':Gh}{W:World}{H':aD}{n' S' a'},Rel P w0 n' cm g' S' H' a' W->g'.old.facts=fs++g.old.facts->∀t,t<n->(Se t).aG=Se t/\RV g'.Pr g'.al W (Se t) (a.tmps.getD t undef):=by
  intro g' W H' n' S' a' R' hfa t ht;exact⟨hSe t,R'.facts (Se t,a.tmps.getD t undef) (by rw[hfa];exact aeu _ (adx.2 ⟨t,adF.2 ht,rfl⟩))⟩
 have ac2:∀b,D<=b->b≠D->b≠D+1->kp b=none:=λb hb h1 h2=>by simp[kp,ar,h1,h2,JC b hb]
 have Wq:kp (D+1)=some (.loop (rec .ready none)):=aS _ _ _
 let J:Nat->(Nat->Prop)->(Nat->Nat->Prop)->World->Prop:=λk M Pr W=>∃g' H',Rel P w0 n cm g' Se H' al W/\g'.old=NN/\g'.Pr=Pr/\I k H'/\∀b,M b->Eb g' b/\b<W.heap.size/\kp b=none
 let X:(Nat->Prop)->(Nat->Nat->Prop)->World->Prop:=λM Pr W=>∃e jc g' H',Rel P w0 n cm g' Se H' al W/\g'.old=mk (kx jc) g.old.sp g.old.sw/\Ql e=some jc/\g'.Pr=Pr/\Ix e H'/\∀b,M b->Eb g' b/\b<W.heap.size/\kp b=none
 have A2:∀{g':Gh}{H':aD}{W:World},Rel P w0 n cm g' Se H' al W->GI W:=λR'=>by
  have hb:=R'.below;rw[R'.base]at hb;exact hG w0 _ cT hb
 have aaD:∀{g':Gh}{H':aD}{W:World}(k':Nat->Option Obj),Rel P w0 n cm g' Se H' al W->g'.old.bf=k'->(∀b,kp b=none↔k' b=none)->∀b,W.heap.size<=b->Eb g' b/\kp b=none:=by
  intro g' H' W k' R' hk Ew b hb;refine⟨⟨?_,(R'.fresh b hb).1,(R'.fresh b hb).2,λi hi=>?_⟩,?_⟩
  .have:=R'.below.size;rw[R'.base];omega
  .obtain⟨_,_,_,_,_,h3,_⟩:=R'.box i b hi;have:=(ade.1 h3).1;omega
  .rw[Ew]
   cases hq:k' b with
   |none=>rfl
   |some o=>have:=(ade.1 (R'.kept b o (by rw[hk];exact hq)).2.1).1;omega
 have F4:∀c b,kp b=none↔kx c b=none:=λc b=>by
  by_cases hb:b=D+1
  .subst hb;simp[Wq,kx,ar]
  .simp[kx,ar,hb]
 let C:Cons P GI (D+1) xs:={
  J:=J
  X:=X
  gi:=λ⟨g',H',R',_⟩=>A2 R'
  apart:=by
   rintro k M Pr W ⟨g',H',R',e1,rfl,e3,e4⟩ b j hb hp;obtain⟨⟨h1,h2,_⟩,_⟩:=e4 b hb;rcases hp with hp|hp
   .omega
   .rw[h2]at hp;omega
  dE:=by
   rintro k M M' Pr W W' ⟨g',H',R',e1,e2,e3,e4⟩ ht hM';have R2:=R'.dE ht (λb hb=>(e4 b hb).1) (λb hb=>by rw[e1];exact(e4 b hb).2.2);refine⟨g',H',R2,e1,e2,e3,λb hb=>?_⟩;obtain⟨q1,q2⟩:=hM' b hb;rcases q2 with q2|q2
   .exact⟨(e4 b q2).1,q1,(e4 b q2).2.2⟩
   .obtain⟨z1,z2⟩:=aaD kp R' (by rw[e1]) (λ_=>Iff.rfl) b q2;exact⟨z1,q1,z2⟩
  abF:=by
   rintro M M' Pr W W' ⟨e,jc,g',H',R',e1,ej,e2,e3,e4⟩ ht hM';have R2:=R'.dE ht (λb hb=>(e4 b hb).1) (λb hb=>by rw[e1];exact(F4 jc b).1 (e4 b hb).2.2);refine⟨e,jc,g',H',R2,e1,ej,e2,e3,λb hb=>?_⟩;obtain⟨q1,q2⟩:=hM' b hb;rcases q2 with q2|q2
   .exact⟨(e4 b q2).1,q1,(e4 b q2).2.2⟩
   .obtain⟨z1,z2⟩:=aaD (kx jc) R' (by rw[e1]) (F4 jc) b q2;exact⟨z1,q1,z2⟩
  round:=by
   rintro k hk M Pr W G eb c ⟨g',H',R',e1,rfl,e3,e4⟩ WY hx
   have hkg:∀b,M b->g'.old.bf b=none:=λb hb=>by rw[e1];exact(e4 b hb).2.2
   have Rc:=R'.nJ (G:=G) eb (λb hb=>⟨(e4 b (WY b hb)).1,(e4 b (WY b hb)).2.1,hkg b (WY b hb)⟩)
   obtain⟨gc,OF⟩:∃gc,g'.nJ G eb=gc:=⟨_,rfl⟩
   rw[OF]at Rc
   have gco:gc.old=NN:=by rw[<-OF];exact e1
   have hKc:bl g'.Pr gc.Pr W W:=bl.same λb j _ Jm=>by
    rw[<-OF]
    by_cases hb:G b
    .obtain⟨⟨h1,h2,_⟩,_⟩:=e4 b (WY b hb);rcases Jm with hp|hp
     .omega
     .rw[h2]at hp;omega
    .rcases Jm with hp|hp
     .exact .inl hp
     .exact .inr ⟨hp.1,by simpa[Gh.nJ,hb]using hp.2⟩
   have C3:RD gc.Pr W xs[k] c:=hx.mono (bl.same λb j au Jm=>by
    rcases Jm with Jm|⟨h1,h2⟩
    .by_cases hex:∃u,W.cell? ⟨b,j,none⟩=some u
     .obtain⟨u,hu⟩:=hex;exact(hKc.cell b j Jm u hu).1
     .rw[<-OF]
      by_cases hb:G b
      .obtain⟨⟨h1,h2,_⟩,_⟩:=e4 b (WY b hb);rcases Jm with hp|hp
       .omega
       .rw[h2]at hp;omega
      .rcases Jm with hp|hp
       .exact .inl hp
       .exact .inr ⟨hp.1,by simpa[Gh.nJ,hb]using hp.2⟩
    .rw[<-OF]
     exact .inr ⟨(e4 b (WY b h1)).1.1,by simpa[Gh.nJ,h1]using h2⟩)
   let kr:Nat->Option Obj:=λb=>if M b/\¬G b then W.heap[b]? else kp b
   have hMl:¬M (D+1):=λhh=>by have:=(e4 _ hh).2.2;rw[Wq]at this;cases this
   have krl:kr (D+1)=some (.loop (rec .ready none)):=by simp[kr,hMl,Wq]
   have Rr:=Rc.Ia (mk kr gc.Pr W) (a2:={ tmps:=a.tmps.setIfInBounds p c,defers:=[] }) (S2:=ar Se p xs[k]) (by rw[gco]) (by simpa using bq) rfl
    (λq hq=>Rc.facts q (by rw[gco];exact hq)) (bl.same λ_ _ _ h=>h) (adh _)
    (λb ob hb=>by
     simp only[mk,kr]at hb;split at hb
     .rename_i Jv;obtain⟨h1,h2,h3,h4⟩:=(e4 b Jv.1).1;exact⟨⟨by rw[<-OF];exact h1,by rw[<-OF];simpa[Gh.nJ,Jv.2]using h2,by rw[<-OF];exact h3,by rw[<-OF];exact h4⟩,hb⟩
     .obtain⟨h1,h2,h3,h4,h5⟩:=Rc.kept b ob (by rw[gco];exact hb)
      exact⟨⟨h1,h3,h4,h5⟩,h2⟩)
    (λt ht=>by
     by_cases Y_:t=p
     .subst Y_;rw[aS];refine⟨o_ _ (ada hk),.data _ _ ?_⟩
      have:(a.tmps.setIfInBounds t c).getD t undef=c:=by simp[bq,ht]
      rw[this];exact C3
     .rw[bj _ _ Y_]
      have:(a.tmps.setIfInBounds p c).getD t undef=a.tmps.getD t undef:=by
       simp[adg (ad2 Y_)]
      rw[this]
      exact⟨hSe t,(Rc.slot t ht id)⟩)
   have rI:W.heap[D+1]?=some (.loop (rec .ready none)):=(R'.kept (D+1) _ (by rw[e1];exact Wq)).2.1;have hy:=run_yield (P:=P) (args:=#[c]) rI (by rw[F'];rfl);rw[F']at hy
   have hy':(Instr.yield (D+1) #[c]).run P W=.ok (.round (D+1) fn (a.tmps.setIfInBounds p c) assign body) W:=by rw[hy];simp
   refine⟨fn,_,assign,body,hy',λm'=>roundIn_of_wpIn (F:=FR none) trivial ?_⟩;show assign.wpIn (FR (some (D+1))) m' P _ { tmps:=a.tmps.setIfInBounds p c,defers:=[] } W;refine afl (ma hG cT hm (old:=mk kr gc.Pr W) assign _ _ _ H' _ W Jj (λd hd (hh:L d=false)=>by have:=hLa d hd;rw[this]at hh;cases hh) rfl Rr (vM k hk H' e3)) ?_;intro e a1 w1 hq
   cases e with
   |normal=>
    obtain⟨g1,S1,H1,DC,Nn,hb⟩:=hq;have O5:w1.heap[D+1]?=some (.loop (rec .ready none)):=(Nn.kept (D+1) _ (by rw[DC];exact krl)).2.1;have hbr:=run_beginRound (P:=P) O5 (by rw[F']);refine⟨_,hbr,?_⟩;have R2:=Nn.mF (l:=D+1) (o:=.loop (rec .ready none)) (by rw[DC];exact krl) (.loop { rec .ready none with state:=.busy })
    let kb:Nat->Option Obj:=ar kr (D+1) (some (.loop { rec .ready none with state:=.busy }))
    have Kw:({ g1.old with bf:=ar g1.old.bf (D+1) (some (.loop { rec .ready none with state:=.busy })) }:Old)=mk kb gc.Pr W:=by rw[DC]
    refine afl (ma hG cT hm (old:=mk kb gc.Pr W) body _ _ _ _ _ _ nv (λd hd (hh:L d=false)=>by have:=hLb d hd;rw[this]at hh;cases hh) Kw R2 hb) ?_;have kbl:kb (D+1)=some (.loop { rec .ready none with state:=.busy }):=aS _ _ _
    have fin:∀ (g3:Gh) (S3:av) (H3:aD) (a3:Act) (w3:World) (jump:Option Code),g3.old=mk kb gc.Pr W→Rel P w0 n cm g3 S3 H3 a3 w3 →
      ∃w4,(Instr.endRound (D+1) jump).run P w3=.ok (.bool jump.isNone) w4/\(∀b,M b->¬G b->w4.heap[b]?=W.heap[b]?)/\∃g4,bl g'.Pr g4.Pr W w4/\
       Rel P w0 n cm g4 Se H3 al w4/\g4.old=mk (ar kp (D+1) (some (.loop (rec (if jump.isNone then .ready else .done) jump)))) g.old.sp g.old.sw/\∀b,M b/\¬G b->Eb g4 b/\b<w4.heap.size/\kp b=none:=by
     intro g3 S3 H3 a3 w3 jump HU R3;have Lz:w3.heap[D+1]?=some (.loop { rec .ready none with state:=.busy }):=(R3.kept (D+1) _ (by rw[HU];exact kbl)).2.1;have QB:=run_endRound (P:=P) jump Lz
     obtain⟨w4,jA⟩:∃w4,w3.putObj (D+1) (.loop { ({ rec .ready none with state:=.busy }:Loop)with state:=if jump.isNone then .ready else .done,pending:=jump })=w4:=⟨_,rfl⟩
     rw[jA]at QB;have R4:=R3.mF (l:=D+1) (o:=.loop { rec .ready none with state:=.busy }) (by rw[HU];exact kbl) (.loop { ({ rec .ready none with state:=.busy }:Loop)with state:=if jump.isNone then .ready else .done,pending:=jump });rw[jA]at R4
     have Mv:({ ({ rec .ready none with state:=.busy }:Loop)with state:=if jump.isNone then .ready else .done,pending:=jump })=rec (if jump.isNone then .ready else .done) jump:=by rw[F']
     rw[Mv]at R4
     have ho4:({ g3.old with bf:=ar g3.old.bf (D+1) (some (.loop (rec (if jump.isNone then .ready else .done) jump))) }:Old)=mk (ar kr (D+1) (some (.loop (rec (if jump.isNone then .ready else .done) jump)))) gc.Pr W:=by
      rw[HU];simp only[mk,Old.mk.injEq,agV,agu]
      funext b
      by_cases qG:b=D+1
      .subst qG;simp[ar]
      .simp[ar,kb,qG]
     obtain⟨g4,hg4⟩:∃g4,({ g3 with old:={ g3.old with bf:=ar g3.old.bf (D+1) (some (.loop (rec (if jump.isNone then .ready else .done) jump))) } }:Gh)=g4:=⟨_,rfl⟩
     rw[hg4]at R4
     have IV:g4.old=mk (ar kr (D+1) (some (.loop (rec (if jump.isNone then .ready else .done) jump)))) gc.Pr W:=by rw[<-hg4];exact ho4
     have hKW:bl g'.Pr g4.Pr W w4:=hKc.trans (by have:=R4.still;rw[IV]at this;exact this)
     have acO:∀b,M b->b≠D+1:=by rintro b hb rfl;exact hMl hb
     have hkr:∀b,M b->¬G b->∃ob,W.heap[b]?=some ob/\g4.old.bf b=some ob:=by
      intro b hb xu;have au:=(e4 b hb).2.1;refine⟨W.heap[b],by simp[au],?_⟩;rw[IV];simp[mk,ar,acO b hb,kr,hb,xu,au]
     have R5:=R4.Ia (mk (ar kp (D+1) (some (.loop (rec (if jump.isNone then .ready else .done) jump)))) g.old.sp g.old.sw) (a2:=al) (S2:=Se) (by rw[IV]) bq rfl
      (λq hq=>R4.facts q (by rw[IV];exact hq)) (by
       have h1:=R'.still;rw[e1]at h1
       exact h1.trans hKW) (by
       have h1:=R'.grown;rw[e1]at h1;have h2:=R4.grown;rw[IV]at h2
       exact ael h1 h2)
      (λb ob hb=>by
       have hq:g4.old.bf b=some ob:=by
        rw[IV];simp only[mk]at hb⊢
        by_cases qG:b=D+1
        .subst qG;simpa[ar]using hb
        .simp only[bj _ _ qG]at hb⊢;simp only[kr];rw[if_neg];exact hb;rintro⟨hMb,_⟩;rw[(e4 b hMb).2.2]at hb;cases hb
       obtain⟨h1,h2,h3,h4,h5⟩:=R4.kept b ob hq
       exact⟨⟨h1,h3,h4,h5⟩,h2⟩)
      (λt ht=>V_ R4 (by rw[IV]) t ht)
     refine⟨w4,QB,λb hb xu=>?_,{ g4 with old:=mk (ar kp (D+1) (some (.loop (rec (if jump.isNone then .ready else .done) jump)))) g.old.sp g.old.sw },?_,R5,rfl,λb hb=>?_⟩
     .obtain⟨ob,h1,h2⟩:=hkr b hb xu;rw[h1];exact(R4.kept b ob h2).2.1
     .have:(({ g4 with old:=mk (ar kp (D+1) (some (.loop (rec (if jump.isNone then .ready else .done) jump)))) g.old.sp g.old.sw }:Gh)).Pr=g4.Pr:=by
       funext b j;simp only[Gh.Pr,IV,mk]
      rw[this];exact hKW
     .obtain⟨ob,h1,h2⟩:=hkr b hb.1 hb.2;obtain⟨q1,q2,q3,q4,q5⟩:=R4.kept b ob h2;exact⟨⟨q1,q3,q4,q5⟩,(ade.1 q2).1,(e4 b hb.1).2.2⟩
    intro e2 a3 w3 WH
    cases e2 with
    |normal=>
     obtain⟨g3,S3,H3,HU,R3,ZC⟩:=WH;obtain⟨w4,QB,q1,g4,q3,R4,q4,q5⟩:=fin g3 S3 H3 a3 w3 none HU R3;refine⟨_,w4,QB,q1,g4.Pr,q3,.inl ⟨rfl,g4,H3,R4,?_,rfl,ZC,q5⟩⟩;rw[q4];simp only[NN,mk,Old.mk.injEq,agV,agu,Option.isNone_none,adJ]
     funext b
     by_cases qG:b=D+1
     .subst qG;simp[ar,Wq]
     .simp[ar,qG]
    |ret=>
     obtain⟨g3,S3,H3,HU,R3,ZC⟩:=WH;obtain⟨w4,QB,q1,g4,q3,R4,q4,q5⟩:=fin g3 S3 H3 a3 w3 (some .ret) HU R3;exact⟨_,w4,QB,q1,g4.Pr,q3,.inr ⟨rfl,.ret,.ret,g4,H3,R4,q4,rfl,rfl,ZC,q5⟩⟩
    |exit id=>
     obtain⟨g3,S3,H3,HU,R3,ZC⟩:=WH;obtain⟨w4,QB,q1,g4,q3,R4,q4,q5⟩:=fin g3 S3 H3 a3 w3 (some (.exit id)) HU R3;exact⟨_,w4,QB,q1,g4.Pr,q3,.inr ⟨rfl,.exit id,.exit id,g4,H3,R4,q4,rfl,rfl,ZC,q5⟩⟩
    |panic ch=>obtain⟨_,_,_,_,_,_,_,_,_,_,hh⟩:=WH;exact hh.elim
    |goto l=>exact WH.elim
    |outgrown=>exact WH.elim
   |exit id=>obtain⟨_,_,_,_,_,hh⟩:=hq;exact hh.elim
   |ret=>obtain⟨_,_,_,_,_,hh⟩:=hq;exact hh.elim
   |panic ch=>obtain⟨_,_,_,_,_,_,_,_,_,_,hh⟩:=hq;exact hh.elim
   |goto l=>exact hq.elim
   |outgrown=>exact hq.elim }
 have II:∀ (g':Gh) (H':aD) (w2:World) (st:LoopState) (pe:Option Code),st ≠ .busy→Rel P w0 n cm g' Se H' al w2→g'.old=mk (ar kp (D+1) (some (.loop (rec st pe)))) g.old.sp g.old.sw →
   ∃w4 g4,(Instr.endLoop (D+1)).run P w2=.ok pe w4/\Rel P w0 n cm g4 Se H' { a with defers:=[{ target:=.collected D,args:=#[] }]++a.defers } w4/\g4.old=g.old.mark D:=by
  intro g' H' w2 st pe jC R' e1
  have iQ:g'.old.bf (D+1)=some (.loop (rec st pe)):=by rw[e1];exact aS _ _ _
  have qN:=(R'.kept (D+1) _ iQ).2.1;have Au:=run_endLoop (P:=P) qN (by rw[F'];exact jC);have R2:=R'.mF iQ (.loop { rec st pe with state:=.exhausted })
  obtain⟨W4,hW4⟩:∃W4,w2.putObj (D+1) (.loop { rec st pe with state:=.exhausted })=W4:=⟨_,rfl⟩
  rw[hW4]at Au R2
  have hpe:(rec st pe).pending=pe:=by rw[F']
  rw[hpe]at Au
  have hold:∀b ob,(g.old.mark D).bf b=some ob->({ g' with old:={ g'.old with bf:=ar g'.old.bf (D+1) (some (.loop { rec st pe with state:=.exhausted })) } }:Gh).old.bf b=some ob:=by
   intro b ob hb;simp only[Old.mark]at hb
   by_cases hbD:b=D
   .subst hbD;rw[aS]at hb;cases hb;show ar g'.old.bf (b+1) _ b=_;rw[bj _ _ (by omega),e1];show ar kp (b+1) _ b=_;rw[bj _ _ (by omega)];show ar (ar g.old.bf b _) (b+1) _ b=_;rw[bj _ _ (by omega),aS]
   .rw[bj _ _ hbD]at hb
    have au:b<D:=by
     rcases ae1 b D with h|h
     .exact h
     .rw[JC b h]at hb;cases hb
    show ar g'.old.bf (D+1) _ b=_;rw[bj _ _ (by omega),e1];show ar kp (D+1) _ b=_;rw[bj _ _ (by omega)];show ar (ar g.old.bf D _) (D+1) _ b=_;rw[bj _ _ (by omega),bj _ _ hbD];exact hb
  have R3:=R2.Ia (g.old.mark D) (a2:={ a with defers:=[{ target:=.collected D,args:=#[] }]++a.defers }) (S2:=Se) (by show g.old.c=g'.old.c;rw[e1]) bq (by show[_]++a.defers=_::_;rw[R.defers];rfl) (λq hq=>R2.facts q ?_) ?_ ?_ (λb ob hb=>?_) (λt ht=>V_ R2 (by show g'.old.facts=_;rw[e1]) t ht)
  .refine⟨_,_,Au,R3,?_⟩
   rfl
  .show q∈g'.old.facts;rw[e1];exact af_ _ hq
  .have h:=R2.still
   have:({ g' with old:={ g'.old with bf:=ar g'.old.bf (D+1) (some (.loop { rec st pe with state:=.exhausted })) } }:Gh).old.sp=g.old.sp:=by show g'.old.sp=_;rw[e1]
   rw[this]at h
   have:({ g' with old:={ g'.old with bf:=ar g'.old.bf (D+1) (some (.loop { rec st pe with state:=.exhausted })) } }:Gh).old.sw=g.old.sw:=by show g'.old.sw=_;rw[e1]
   rw[this]at h;exact h
  .have h:=R2.grown
   have:({ g' with old:={ g'.old with bf:=ar g'.old.bf (D+1) (some (.loop { rec st pe with state:=.exhausted })) } }:Gh).old.sw=g.old.sw:=by show g'.old.sw=_;rw[e1]
   rw[this]at h;exact h
  .obtain⟨h1,h2,h3,h4,h5⟩:=R2.kept b ob (hold b ob hb);exact⟨⟨h1,h3,h4,h5⟩,h2⟩
 refine⟨D+1,[{ target:=.collected D,args:=#[] }],W1,{ target:=.fn (.func f) us,args:=#[.func (.yield (D+1)) #[] #[]] },W1,f,#[.func (.yield (D+1)) #[] #[]]++us,W1,?_,?_,λ_ _=>trivial,?_,λh=>by simp[FR,Fence.wide]at h,?_⟩
 .rw[<-hW1,F',<-hD];exact run_enterLoop_outer _ _ _ _ _
 .simp only[resolve,y9];simp[go_sem]
 .simp[invoke,go_sem,gy hf]
 .refine jw.2 ((hit (D+1) C W1 g.Pr us ?_ ni hcr).mono ?_)
  .refine⟨{ g with old:=NN },H,R1.Ia NN rfl bq rfl (λq hq=>?_) R1.still R1.grown (λb ob hb=>?_) (λt ht=>⟨hSe t,(R1.slot t ht id).pH⟩),rfl,rfl,h0,λb hb=>hb.elim⟩
   .rcases adm.1 hq with h|h
    .obtain⟨t,ht,rfl⟩:=adx.1 h;exact(R1.slot t (adF.1 ht) id).pH
    .exact R1.facts q h
   .simp only[NN,mk,kp]at hb
    by_cases h1:b=D+1
    .subst h1;rw[aS]at hb;cases hb;exact⟨vj _ (by omega),hL1⟩
    .rw[bj _ _ h1]at hb
     by_cases h2:b=D
     .subst h2;rw[aS]at hb;cases hb;exact⟨vj _ (by omega),hK1⟩
     .rw[bj _ _ h2]at hb;obtain⟨q1,q2,q3,q4,q5⟩:=R1.kept b ob hb;exact⟨⟨q1,q3,q4,q5⟩,q2⟩
  .rintro e w2 ⟨v,M,eR,rfl,hJ|hX⟩
   .obtain⟨g',H',R',e1,_,hI,_⟩:=hJ
    have Ez:ar kp (D+1) (some (.loop (rec .ready none)))=kp:=by
     funext b
     by_cases hb:b=D+1
     .subst hb;rw[aS,Wq]
     .rw[bj _ _ hb]
    obtain⟨w4,g4,h1,R4,h2⟩:=II g' H' w2 .ready none (by simp) R' (by rw[Ez];exact e1);exact⟨none,w4,h1,g4,Se,H',R4,by rw[h2];exact abA D H' (JC D (adh _)) hI⟩
   .obtain⟨e,jc,g',H',R',e1,ej,_,hI,_⟩:=hX;obtain⟨w4,g4,h1,R4,h2⟩:=II g' H' w2 .done (some jc) (by simp) R' e1;refine⟨some jc,w4,h1,?_⟩;have hq:=abI D e H' (JC D (adh _)) (by rw[ej];rfl) hI
    cases e<;>simp only[Ql]at ej<;>cases ej
    .exact afc ⟨g4,Se,H',R4,by rw[h2];exact hq⟩
    .exact aeZ ⟨g4,Se,H',R4,by rw[h2];exact hq⟩
end
def eD(o:Old):Prop:=∃Ds:List Nat,Ds.Nodup/\o.ds=Ds.map (λD=>{ target:=.collected D,args:=#[] })/\∀D∈Ds,o.bf D=some (.deferred (some []))
theorem eD.plain{o:Old}(h:o.ds=[]):eD o:=⟨[],.nil,by simpa using h,by simp⟩
theorem eD.mark{o:Old}{D:Nat}(h:eD o)(hD:o.bf D=none):eD (o.mark D):=by
 obtain⟨Ds,h1,h2,h3⟩:=h
 have hn:D∉Ds:=λhm=>by rw[h3 D hm]at hD;cases hD
 refine⟨D::Ds,aff.2 ⟨hn,h1⟩,by simp[Old.mark,h2],λE hE=>?_⟩;rcases ad6.1 hE with rfl|hE
 .exact aS _ _ _
 .show ar o.bf D _ E=_;rw[bj _ _ (λe:E=D=>hn (by rw[<-e];exact hE))];exact h3 E hE
section
variable{P:Program}{GI:World->Prop}{w0:World}{n:Nat}{g:Gh}{S:av}{H:aD}{a:Act}{w:World}
theorem D5 {F:Fence} {m:Nat} {fn:Func} {tmps:Array Value} {R:Ending→World→Prop}:∀ (Ds:List Nat) {g:Gh} {w:World},Rel P w0 n cm g S H a w→Ds.Nodup→(∀ D∈Ds,g.old.bf D=some (.deferred (some []))) →
  (∀g' w',Rel P w0 n cm g' S H a w'->g'.old.c=g.old.c->∃v,(results fn tmps).run P w'=.ok v w'/\R (.returned v) w')->
  LeavesInM F m P fn tmps R (Ds.map λD=>{ target:=.collected D,args:=#[] }) .returning w
 |[],g,w,R',_,_,Cb=>Cb g w R' rfl
 |D::Ds,g,w,R',fk,hk,Cb=>by
  obtain⟨h1,h2⟩:=aff.1 fk;have hD:=hk D adt;have R2:=R'.mF hD (.deferred none);refine⟨by simp,.inl ⟨D,_,rfl,run_takeDeferred (R'.kept D _ hD).2.1,?_⟩⟩;refine D5 Ds R2 h2 (λE hE=>?_) (λg' w' R3 hc=>Cb g' w' R3 hc);show ar g.old.bf D _ E=_;rw[bj _ _ (λe:E=D=>h1 (by rw[<-e];exact hE))];exact hk E (ado _ hE)
theorem Rel.begin {fn:Func} {args:List AV} {old:Nat→Nat→Prop} {ck:Array Value} (hn:fn.ntmps=n) (hl:args.length≤n) (hlen:args.length=ck.size)
  (hr:∀i (h:i<args.length)(h':i<ck.size),RV old (λ_=>none) w args[i] ck[i]):
  Rel P w n cm { base:=w.heap.size,old:=Old.plain old w,al:=λ_=>none,hi:=λ_=>0,owner:=λ_=>none } (start args) (λ_=>none) { tmps:=ck++Array.replicate (fn.ntmps-ck.size) undef,defers:=[] } w:=by
 have bq:(ck++Array.replicate (fn.ntmps-ck.size) undef).size=n:=by simp;omega
 refine{ size:=bq,defers:=rfl,facts:=λ_ h=>(by cases h),slot:=?_,own:=?_,box:=?_,mB:=?_,mr:=?_,inj:=?_,base:=rfl,below:=aeb _ _,fresh:=λb _=>⟨rfl,rfl⟩,still:=⟨λ_ _ h=>h.elim,λ_ h=>h.elim⟩,grown:=adh _,kept:=λ_ _ h=>(by cases h) }
 .intro t ht _
  by_cases Ul:t<args.length
  .have h1:start args t=args[t].aG:=by simp[start,Ul]
   have h2:(ck++Array.replicate (fn.ntmps-ck.size) undef).getD t undef=ck[t]'(by omega):=by
    have:t<ck.size:=by omega
    simp[afu,this]
   rw[h1,h2];refine((hr t Ul (by omega)).mono (bl.same λb k au hp=>.inl ⟨au,hp⟩) (λ_ _ h=>h)).aG
  .have h1:start args t=b_:=by simp[start,Ul,b_,AV.aG]
   have h2:(ck++Array.replicate (fn.ntmps-ck.size) undef).getD t undef=undef:=by
    have:¬t<ck.size:=by omega
    simp only[ad9,afu,this,adz]
    by_cases hh:t-ck.size<fn.ntmps-ck.size
    .simp[hh]
    .simp[hh]
   rw[h1,h2];exact .data _ _ (F8 _ _)
 .intro t ht _;exact kP _ _ _
 .intro i b h;cases h
 .intro i cs h;cases h
 .intro i h;rfl
 .intro i j b h;cases h
def IT(P:Program)(n:Nat)(rs:List ResultVar)(out:eP)(c:Nat->Nat->Prop):jM
 |.normal,o,S,H|.ret,o,S,H=>eD o/\o.c=c/\∃v,cy P n rs S H=some v/\out=.ret v
 |.panic v,o,_,_=>o.ds=[]/\o.c=c/\out=.panic v
 |_,_,_,_=>False
theorem AC.iF {f:Nat} {fn:Func} {c:Code} {args:List AV} {out:eP} (hf:P.funcs[f]? = some fn) (hb:fn.body=some c) (hn:fn.ntmps=n) (hl:args.length≤n)
  (h:∀cc w,SW P GI n none c (IT P n fn.results.toList out cc) (Old.plain cc w) (start args) (λ_=>none)):AC P GI f args out:=by
 intro w old ck fU hlen hr;refine(jw (ro:=none) (m:=0)).1 (callsIn_of_wp_marks hf hb trivial ?_);have R:Rel P w n cm _ (start args) (λ_=>none) { tmps:=ck++Array.replicate (fn.ntmps-ck.size) undef,defers:=[] } w:=Rel.begin hn hl hlen hr;refine afl (h old w w _ _ w 0 fU rfl R) ?_;intro e a' w' he
 have fin:(∃ g' S H,Rel P w n cm g' S H a' w'∧eD g'.old∧g'.old.c=old∧∃ v,cy P n fn.results.toList S H=some v∧out = .ret v) →
   LeavesInM (FR none) 0 P fn a'.tmps (Ends P old w out) a'.defers .returning w':=by
  rintro⟨g',S,H,R',⟨Ds,h1,h2,h3⟩,hc,v,hv,rfl⟩;rw[R'.defers,h2]
  refine D5 Ds R' h1 h3 λg2 w2 R2 nF=>?_
  obtain⟨c,r1,r2,r3⟩:=CE R2 hv;refine⟨c,r1,?_,g2.hi,λb hb=>(R2.fresh b hb).1,c,rfl,?_,?_⟩
  .have:=R2.below;rwa [R2.base]at this
  .have:g2.Pr=vv w.heap.size old g2.hi:=by
    funext b k
    simp only[Gh.Pr,vv,R2.base,nF,hc]
   rw[this]at r2;exact .data _ _ r2
  .rwa [R2.base]at r3
 cases e with
 |normal=>exact fin he
 |ret=>exact fin he
 |exit id=>obtain⟨_,_,_,_,h⟩:=he;exact h.elim
 |panic chain=>
  obtain⟨o,v,c,hi,S,H,h1,h2,h3,h4,h5,h6,rfl,rfl⟩:=he;subst h2;show LeavesInM (FR none) 0 P fn a'.tmps _ a'.defers _ w';rw[h1,h6];exact⟨h3,hi,h4,c,rfl,h5⟩
 |goto l=>exact he.elim
 |outgrown=>exact he.elim
def abT(n:Nat)(rs:List ResultVar)(out:eP):dp->av->aD->Prop
 |.normal,S,H|.ret,S,H=>∃t fn fi ca,rs=[.tmp t]/\t<n/\S t=.func fn fi ca/\out=.ret (fz H (S t))
 |_,_,_=>False
open Classical in
theorem AC.DR (hG:aw GI) (hm:P.follows .mixedOrders=true) {f:Nat} {fn:Func} {c:Code} {args:List AV} {out:eP} (hf:P.funcs[f]? = some fn) (hb:fn.body=some c) (hn:fn.ntmps=n) (hl:args.length≤n) {ac:af} (hc:d_ P n c=ac)
  (h:bC P GI ac (abT n fn.results.toList out) (start args) (λ_=>none)):AC P GI f args out:=by
 intro w old ck fU hlen hr;refine afy hf hb ?_;subst hc;have R:Rel P w n cm _ (start args) (λ_=>none) { tmps:=ck++Array.replicate (fn.ntmps-ck.size) undef,defers:=[] } w:=Rel.begin hn hl hlen hr;refine agT (q' hG fU hm c _ _ _ _ _ w (λ_ _ h=>h) rfl R h) ?_;intro e a' w' he
 have fin:(∃ g' S H,g'.old=Old.plain old w∧Rel P w n cm g' S H a' w'∧∃ t f' fi ca,fn.results.toList=[.tmp t]∧t < n∧S t = .func f' fi ca∧out = .ret (fz H (S t))) →
   a'.defers=[]/\∃v,(results fn a'.tmps).run P w'=.ok v w'/\Ends P old w out (.returned v) w':=by
  rintro⟨g',S,H,e1,R',t,f',fi,ca,hrs,ht,hS,rfl⟩
  have acx:fn.results=#[.tmp t]:=by
   rw[<-Array.toArray_toList (xs:=fn.results),hrs]
  have hv:=R'.fz (R'.slot t ht id) true (λ_=>rfl)
  have IP:∀b,(∃i,g'.al i=some b)->g'.base<=b/\g'.hi b=0/\∃vs ty,w'.heap[b]?=some (.cells vs ty (0,0)):=by
   rintro b ⟨i,hi⟩;obtain⟨cs,vs,ty,h1,h2,h3,h4,_⟩:=R'.box i b hi;exact⟨h2,h4,vs,ty,h3⟩
  let eb:Nat->Nat:=λb=>if∃i,g'.al i=some b then(match w'.heap[b]? with|some (.cells vs _ _)=>vs.size|_=>0)else g'.hi b
  have wO:∀b k,g'.Pr b k->vv w.heap.size old eb b k:=by
   intro b k hp
   rcases hp with⟨q1,q2⟩|⟨q1,q2⟩
   .exact .inl ⟨by rw[<-R'.base];exact q1,by rw[e1]at q2;exact q2⟩
   .refine .inr ⟨by rw[<-R'.base];exact q1,?_⟩;show k<(if∃i,g'.al i=some b then _ else g'.hi b);rw[if_neg]
    .exact q2
    .intro hex;rw[(IP b hex).2.1]at q2;omega
  refine⟨by rw[R'.defers,e1];rfl,a'.tmps.getD t undef,by simp[results,acx],?_,eb,λb hb=>?_,_,rfl,?_,?_⟩
  .have:=R'.below;rwa [R'.base]at this
  .show(if∃i,g'.al i=some b then _ else g'.hi b)=0;rw[if_neg]
   .exact(R'.fresh b hb).1
   .intro hex;obtain⟨_,_,vs,ty,h3⟩:=IP b hex;have:=(ade.1 h3).1;omega
  .refine hv.mono ?_ (λ_ _ h=>h);refine{ cell:=λb k hp u hu=>⟨?_,hu⟩,map:=λb hp es cc D0=>⟨?_,D0⟩ }
   .rcases hp with hp|⟨_,hex⟩
    .exact wO b k hp
    .obtain⟨h1,h2,vs,ty,h3⟩:=IP b hex;refine .inr ⟨by rw[<-R'.base];exact h1,?_⟩;show k<(if∃i,g'.al i=some b then _ else g'.hi b);rw[if_pos hex,h3];simp[World.cell?,h3]at hu;exact(ade.1 hu).1
   .rcases hp with hp|⟨_,hex⟩
    .exact wO b 0 hp
    .obtain⟨h1,h2,vs,ty,h3⟩:=IP b hex;rw[h3]at D0;cases D0
  .rw[hS];simp only[fz]
   trivial
 cases e with
 |normal=>exact fin he
 |ret=>exact fin he
 |exit id=>obtain⟨_,_,_,_,_,h⟩:=he;exact h.elim
 |panic chain=>obtain⟨_,_,_,_,_,_,_,_,_,_,h⟩:=he;exact h.elim
 |goto l=>exact he.elim
 |outgrown=>exact he.elim
end
theorem oc{α:Type}{p A b s:α->Prop}{o:α}(h:A o)(k:s o)(hp:p o:=by kernel_rfl)(hb:b o:=by simp[df,ar]):∃o,p o/\A o/\b o/\s o:=⟨o,hp,h,hb,k⟩
inductive TT(α:Type) where
 |lf (v:α)
 |nd (a b c d:TT α)
namespace TT
variable{α:Type}
noncomputable def G(z:α)(k:Nat):TT α->Nat->α:=
 Nat.rec (motive:=λ_=>TT α->Nat->α) (λt _=>match t with|.lf v=>v|.nd ..=>z)
  (λ_ ih t i=>match t with
   |.lf v=>v
   |.nd a b c d=>bif Nat.beq (i % 4) 0 then ih a (i/4)else bif Nat.beq (i % 4) 1 then ih b (i/4)else bif Nat.beq (i % 4) 2 then ih c (i/4)else ih d (i/4)) k
noncomputable def P(k:Nat):TT α->Nat->α->TT α:=
 Nat.rec (motive:=λ_=>TT α->Nat->α->TT α) (λ_ _ v=>.lf v)
  (λ_ ih t i v=>match t with
   |.lf x=>bif Nat.beq (i % 4) 0 then .nd (ih (.lf x) (i/4) v) (.lf x) (.lf x) (.lf x)else bif Nat.beq (i % 4) 1 then .nd (.lf x) (ih (.lf x) (i/4) v) (.lf x) (.lf x)else bif Nat.beq (i % 4) 2 then .nd (.lf x) (.lf x) (ih (.lf x) (i/4) v) (.lf x)else .nd (.lf x) (.lf x) (.lf x) (ih (.lf x) (i/4) v)
   |.nd a b c d=>bif Nat.beq (i % 4) 0 then .nd (ih a (i/4) v) b c d else bif Nat.beq (i % 4) 1 then .nd a (ih b (i/4) v) c d else bif Nat.beq (i % 4) 2 then .nd a b (ih c (i/4) v) d else .nd a b c (ih d (i/4) v)) k
noncomputable def M(f:α->α)(k:Nat):TT α->TT α:=
 Nat.rec (motive:=λ_=>TT α->TT α) (λt=>match t with|.lf v=>.lf (f v)|t=>t)
  (λ_ ih t=>match t with
   |.lf v=>.lf (f v)
   |.nd a b c d=>.nd (ih a) (ih b) (ih c) (ih d)) k
theorem Wc(z x:α):∀k i,G z k (.lf x) i=x
 |0,_=>rfl
 |_+1,_=>rfl
theorem aau(z:α)(k:Nat)(a b c d:TT α)(i:Nat):G z (k+1) (.nd a b c d) i=bif Nat.beq (i % 4) 0 then G z k a (i/4)else bif Nat.beq (i % 4) 1 then G z k b (i/4)else bif Nat.beq (i % 4) 2 then G z k c (i/4)else G z k d (i/4):=rfl
theorem four(i:Nat):i % 4=0\/i % 4=1\/i % 4=2\/i % 4=3:=by omega
theorem G_P(z:α):∀(k:Nat)(t:TT α)(i j:Nat)(v:α),i<4^k->j<4^k->G z k (P k t i v) j=if j=i then v else G z k t j
 |0,t,i,j,v,hi,hj=>by
  have:i=0:=by simpa using hi
  have:j=0:=by simpa using hj
  subst_vars;rfl
 |k+1,t,i,j,v,hi,hj=>by
  have O':i/4<4^k:=by rw[Nat.pow_succ]at hi;omega
  have hj4:j/4<4^k:=by rw[Nat.pow_succ]at hj;omega
  have ih:=λt=>G_P z k t (i/4) (j/4) v O' hj4
  have hd:j=i↔(j % 4=i % 4/\j/4=i/4):=⟨λh=>by subst h;exact⟨rfl,rfl⟩,λ⟨h1,h2⟩=>by omega⟩
  cases t with
  |lf x=>
   show G z (k+1) (bif Nat.beq (i % 4) 0 then .nd (P k (.lf x) (i/4) v) (.lf x) (.lf x) (.lf x)else bif Nat.beq (i % 4) 1 then .nd (.lf x) (P k (.lf x) (i/4) v) (.lf x) (.lf x)else bif Nat.beq (i % 4) 2 then .nd (.lf x) (.lf x) (P k (.lf x) (i/4) v) (.lf x)else .nd (.lf x) (.lf x) (.lf x) (P k (.lf x) (i/4) v)) j=_;rw[Wc];have ih:=ih (.lf x);rw[Wc]at ih
   rcases four i with h|h|h|h<;>rcases four j with h'|h'|h'|h'<;>simp[h,h',aau,hd,ih,Wc,Nat.beq]
  |nd a b c d=>
   show G z (k+1) (bif Nat.beq (i % 4) 0 then .nd (P k a (i/4) v) b c d else bif Nat.beq (i % 4) 1 then .nd a (P k b (i/4) v) c d else bif Nat.beq (i % 4) 2 then .nd a b (P k c (i/4) v) d else .nd a b c (P k d (i/4) v)) j=_
   rcases four i with h|h|h|h<;>rcases four j with h'|h'|h'|h'<;>simp[h,h',aau,hd,ih,Nat.beq]
theorem G_M(z:α)(f:α->α)(hz:f z=z):∀(k:Nat)(t:TT α)(j:Nat),G z k (M f k t) j=f (G z k t j)
 |0,t,j=>by cases t<;>first|rfl|exact hz.symm
 |k+1,t,j=>by
  cases t with
  |lf x=>rfl
  |nd a b c d=>
   show G z (k+1) (.nd (M f k a) (M f k b) (M f k c) (M f k d)) j=_
   rcases four j with h|h|h|h<;>simp[h,aau,G_M z f hz k,Nat.beq]
end TT
abbrev TS:=TT AV
abbrev TH:=TT (Option (List AV))
noncomputable def gT(s:TS):av:=λt=>bif Nat.ble 256 t then b_ else s.G b_ 4 t
noncomputable def gU(h:TH):aD:=λt=>bif Nat.ble 256 t then none else h.G none 4 t
noncomputable def pN{α:Type}(s:TT α)(i:Nat)(v:α):Option (TT α):=bif Nat.ble 256 i then none else some (s.P 4 i v)
theorem ND{α:Type}{s s':TT α}{i:Nat}{v:α}(z:α)(h:pN s i v=some s'):(λt=>bif Nat.ble 256 t then z else s'.G z 4 t)=ar (λt=>bif Nat.ble 256 t then z else s.G z 4 t) i v:=by
 unfold pN at h
 cases hb:Nat.ble 256 i with
 |true=>rw[hb]at h;cases h
 |false=>
  rw[hb]at h;cases h
  have hi:i<256:=by
   have:¬256<=i:=λhh=>by rw[ag3 hh]at hb;cases hb
   omega
  funext t
  unfold ar
  cases ht:Nat.ble 256 t with
  |true=>
   have:256<=t:=afw ht;rw[if_neg (by omega)];simp[ht]
  |false=>
   have:t<256:=by
    have:¬256<=t:=λhh=>by rw[ag3 hh]at ht;cases ht
    omega
   simp only[ht,cond_false];exact TT.G_P z 4 s i t v hi this
theorem tA{s s':TS}{i:Nat}{v:AV}(h:pN s i v=some s'):gT s'=ar (gT s) i v:=ND b_ h
theorem zg{s s':TH}{i:Nat}{v:Option (List AV)}(h:pN s i v=some s'):gU s'=ar (gU s) i v:=ND none h
noncomputable def Ae(d:Nat)(s:TS):TS:=s.M (bX d) 4
theorem B4(d:Nat)(s:TS):gT (Ae d s)=λt=>bX d (gT s t):=by
 funext t
 unfold gT Ae
 cases Nat.ble 256 t with
 |true=>rfl
 |false=>exact TT.G_M b_ (bX d) rfl 4 s t
noncomputable def GD(s:TS):Option Nat->AV->Option TS
 |some d,v=>pN s d v
 |none,_=>some s
theorem DM{s s':TS}{d:Option Nat}{v:AV}(h:GD s d v=some s'):gT s'=aT (gT s) d v:=by
 cases d with
 |none=>cases h;rfl
 |some d=>exact tA h
noncomputable def V7(e:aQ)(dst:Option Nat)(s:TS)(h:TH):Option (TS×TH):=
 match(match e.dm with|some t=>pN s t (gT s t).aG|none=>some s)with
 |none=>none
 |some s1=>match GD s1 dst e.v with
  |none=>none
  |some s2=>match e.hw with
   |some (i,cs)=>match pN h i (some cs)with
    |some h'=>some (s2,h')
    |none=>none
   |none=>some (s2,h)
theorem WR{e:aQ}{dst:Option Nat}{s s':TS}{h h':TH}(hh:V7 e dst s h=some (s',h')):gT s'=e.S (gT s) dst/\gU h'=e.H (gU h):=by
 unfold V7 at hh;split at hh
 .cases hh
 rename_i s1 h1
 have e1:gT s1=(match e.dm with|some t=>ar (gT s) t (gT s t).aG|none=>gT s):=by
  cases hd:e.dm with
  |none=>rw[hd]at h1;cases h1;rfl
  |some t=>rw[hd]at h1;exact tA h1
 split at hh
 .cases hh
 rename_i s2 h2;have e2:=DM h2;unfold aQ.S aQ.H;rw[e1]at e2;split at hh
 .rename_i i cs hw
  split at hh<;>cases hh
  rename_i h3;exact⟨e2,by rw[hw];exact zg h3⟩
 .rename_i hw;cases hh;exact⟨e2,by rw[hw]⟩
inductive Cu where
 |go (s:TS) (h:TH)|panic (v:AV)
noncomputable def Cu.on(K:av->aD->Prop)(Qp:AV->Prop):Cu->Prop
 |.go s h=>K (gT s) (gU h)
 |.panic v=>Qp v
noncomputable def fD(dst:Option Nat)(s:TS)(h:TH):eP->Option Cu
 |.ret v=>(GD s dst v).map λs'=>.go s' h
 |.panic v=>some (.panic v)
noncomputable def stepT(P:Program)(call:iB)(op:fw)(dst:Option Nat)(s:TS)(h:TH):Option Cu:=
 match op with
 |.alloc _ zero=>match dst with
  |some d=>match pN (Ae d s) d (.box d 0),pN h d (some zero)with
   |some s',some h'=>some (.go s' h')
   |_,_=>none
  |none=>none
 |.box _ size x=>match dst with
  |some d=>if (ev (gT s) x).cells.length=size∧(ev (gT s) x).storable=true then
    match pN (Ae d s) d (.box d 0),pN h d (some ((ev (gT s) x).cells.map AV.aG))with
    |some s',some h'=>some (.go s' h')
    |_,_=>none
   else none
  |none=>none
 |.call f args=>match HF P call f (args.map λy=>fz (gU h) (ev (gT s) y)) (args.any λy=>df (ev (gT s) y))with
  |some out=>fD dst s h out
  |none=>none
 |.ik f args=>match ev (gT s) f with
  |.func (.func k) first cap=>match HF P call k ((first++args.map (ev (gT s))++cap).map (fz (gU h))) ((first++args.map (ev (gT s))++cap).any df)with
   |some out=>fD dst s h out
   |none=>none
  |_=>none
 |.panic x=>match ev (gT s) x with
  |.iface t v=>some (.panic (.iface t v))
  |_=>none
 |op=>match aH (gT s) (gU h) op with
  |some e=>(V7 e dst s h).map λ(s',h')=>.go s' h'
  |none=>none
noncomputable def Kp(P:Program)(call:iB):List cC->TS->TH->Option Cu
 |[],s,h=>some (.go s h)
 |o::rest,s,h=>match aF (gT s) o.guard with
  |some true=>match stepT P call o.op o.dst s h with
   |some (.go s' h')=>Kp P call rest s' h'
   |r=>r
  |some false=>match GD s o.dst b_ with
   |some s'=>Kp P call rest s' h
   |none=>none
  |none=>none
noncomputable def E0:List cC->TS->TH->Option (TS×TH)
 |[],s,h=>some (s,h)
 |o::l,s,h=>match bQ o with
  |some (d,z)=>match pN (Ae d s) d (.box d 0),pN h d (some z)with
   |some s',some h'=>E0 l s' h'
   |_,_=>none
  |none=>E0 l s h
noncomputable def xK(P:Program)(call:iB)(op:fw)(dst:Option Nat)(s:TS)(h:TH):Option (TS×TH):=
 match op with
 |.alloc _ _=>match dst with
  |some d=>(pN s d (.box d 0)).map λs'=>(s',h)
  |none=>none
 |.box ..|.panic _|.other=>none
 |.call f args=>if(args.any λy=>df (ev (gT s) y))then none else match stepT P call (.call f args) dst s h with
  |some (.go s' h')=>some (s',h')
  |_=>none
 |.ik f args=>if(match ev (gT s) f with|.func _ first cap=>(first++args.map (ev (gT s))++cap).any df|_=>true)then none else match stepT P call (.ik f args) dst s h with
  |some (.go s' h')=>some (s',h')
  |_=>none
 |op=>match stepT P call op dst s h with
  |some (.go s' h')=>some (s',h')
  |_=>none
noncomputable def Eo(P:Program)(call:iB):List cC->TS->TH->Option (TS×TH)
 |[],s,h=>some (s,h)
 |o::rest,s,h=>match aF (gT s) o.guard with
  |some true=>match xK P call o.op o.dst s h with
   |some (s',h')=>Eo P call rest s' h'
   |none=>none
  |some false=>match GD s o.dst b_ with
   |some s'=>Eo P call rest s' h
   |none=>none
  |none=>none
noncomputable def IA(body:TS->TH->Option (dp×TS×TH)):Nat->TS->TH->Option (dp×TS×TH)
 |0,_,_=>none
 |k+1,s,h=>match body s h with
  |some (.normal,s',h')=>IA body k s' h'
  |r=>r
noncomputable def pZ(P:Program)(call:iB)(m:Nat):af->TS->TH->Option (dp×TS×TH)
 |.skip,s,h=>some (.normal,s,h)
 |.ops l,s,h=>match Kp P call l s h with
  |some (.go s' h')=>some (.normal,s',h')
  |some (.panic v)=>some (.panic v,s,h)
  |none=>none
 |.dc l,s,h=>match E0 l s h with
  |some (s1,h1)=>match Eo P call l s1 h1 with
   |some (s',h')=>some (.normal,s',h')
   |none=>none
  |none=>none
 |.seq x y,s,h=>match pZ P call m x s h with
  |some (.normal,s',h')=>pZ P call m y s' h'
  |r=>r
 |.cond c x y,s,h=>match ev (gT s) c with
  |.bool true=>pZ P call m x s h
  |.bool false=>pZ P call m y s h
  |_=>none
 |.block id c,s,h=>match pZ P call m c s h with
  |some (.exit j,s',h')=>if j=id then some (.normal,s',h')else some (.exit j,s',h')
  |r=>r
 |.loop c,s,h=>IA (pZ P call m c) m s h
 |.exit id,s,h=>some (.exit id,s,h)
 |.ret,s,h=>some (.ret,s,h)
 |.bad,_,_=>none
section
variable{P:Program}{GI:World->Prop}{call:iB}(fg:∀f args out,call f args=some out->AC P GI f args out)
include fg
omit fg in
theorem Qv {dst:Option Nat} {s:TS} {h:TH} {out:eP} {r:Cu} (hr:fD dst s h out=some r) {K:av→aD→Prop} {Qp:AV→Prop}
  (hk:r.on K Qp):iD out (λv=>K (aT (gT s) dst v) (gU h)) Qp:=by
 cases out with
 |ret v=>
  simp only[fD,adr]at hr;obtain⟨s',h1,rfl⟩:=hr;show K _ _;rw[<-DM h1];exact hk
 |panic v=>cases hr;exact hk
theorem sS {op:fw} {dst:Option Nat} {s:TS} {h:TH} {r:Cu} (hr:stepT P call op dst s h=some r) {K:av→aD→Prop} {Qp:AV→Prop}
  (hk:r.on K Qp):bg P GI op dst K Qp (gT s) (gU h):=by
 cases op
 case alloc t z=>
  cases dst with
  |none=>cases hr
  |some d=>
   simp only[stepT]at hr
   split at hr<;>cases hr
   rename_i h1 h2;simp only[bg];rw[<-B4,<-tA h1,<-zg h2];exact hk
 case box t size x=>
  cases dst with
  |none=>cases hr
  |some d=>
   simp only[stepT]at hr;split at hr
   case isFalse=>cases hr
   rename_i hc
   split at hr<;>cases hr
   rename_i h1 h2;simp only[bg];rw[<-B4,<-tA h1,<-zg h2];exact⟨hc.1,hc.2,hk⟩
 case call f args=>
  simp only[stepT]at hr;split at hr
  case h_2=>cases hr
  rename_i out ho;exact G4 fg ho (Qv hr hk)
 case ik f args=>
  simp only[stepT]at hr;simp only[bg];split at hr
  case h_2=>cases hr
  rename_i k first cap hf;rw[hf];split at hr
  case h_2=>cases hr
  rename_i out ho;exact G4 fg ho (Qv hr hk)
 case panic x=>
  simp only[stepT]at hr;split at hr
  case h_2=>cases hr
  rename_i t v hx;cases hr;simp only[bg,hx];exact hk
 case other=>cases hr
 all_goals
  simp only[stepT]at hr;simp only[bg];split at hr
  case h_2=>cases hr
  rename_i e he;simp only[adr,Prod.exists]at hr;obtain⟨s',h',h1,rfl⟩:=hr;rw[he];obtain⟨e1,e2⟩:=WR h1;simp only;rw[<-e1,<-e2];exact hk
theorem xM:∀ {l:List cC} {s:TS} {h:TH} {r:Cu},Kp P call l s h=some r→∀ {K:av→aD→Prop} {Qp:AV→Prop},
  r.on K Qp->bn P GI l K Qp (gT s) (gU h)
 |[],s,h,r,hr,K,Qp,hk=>by cases hr;exact hk
 |o::l,s,h,r,hr,K,Qp,hk=>by
  simp only[Kp]at hr;simp only[bn];split at hr
  .rename_i hw;rw[hw];simp only;split at hr
   .rename_i s' h' hs;exact sS fg hs (r:=.go s' h') (xM hr hk)
   .rename_i cI
    cases r with
    |go s' h'=>exact absurd hr (cI s' h')
    |panic v=>exact sS fg hr hk
  .rename_i hw;rw[hw];simp only;split at hr
   case h_2=>cases hr
   rename_i s' hs;rw[<-DM hs];exact xM hr hk
  .cases hr
omit fg in
theorem EH:∀{l:List cC}{s s':TS}{h h':TH},E0 l s h=some (s',h')->gT s'=eY l (gT s)/\gU h'=dQ l (gU h)
 |[],s,s',h,h',hh=>by cases hh;exact⟨rfl,rfl⟩
 |o::l,s,s',h,h',hh=>by
  simp only[E0]at hh;simp only[eY,dQ];split at hh
  .rename_i d z ha
   try rw[ha]
   try simp only
   split at hh
   case h_2=>cases hh
   rename_i s1 h1 e1 e2;rw[<-B4,<-tA e1,<-zg e2];exact EH hh
  .rename_i ha
   try rw[ha]
   exact EH hh
theorem M_{op:fw}{dst:Option Nat}{s s':TS}{h h':TH}(hr:xK P call op dst s h=some (s',h')){K:av->aD->Prop}(hk:K (gT s') (gU h')):i_ P GI op dst K (gT s) (gU h):=by
 cases op
 case alloc t z=>
  simp only[xK]at hr;split at hr
  case h_2=>cases hr
  simp only[adr]at hr;obtain⟨s1,h1,h2⟩:=hr;cases h2;simp only[i_];rw[<-tA h1];exact hk
 case box=>cases hr
 case panic=>cases hr
 case other=>cases hr
 case call f args=>
  simp only[xK]at hr;split at hr
  case isTrue=>cases hr
  rename_i hb;split at hr
  case h_2=>cases hr
  rename_i s1 h1 hs;cases hr;exact⟨by simpa using hb,sS fg hs (r:=.go s' h') hk⟩
 case ik f args=>
  unfold xK at hr;simp only at hr
  by_cases hb:(match ev (gT s) f with|.func _ first cap=>(first++args.map (ev (gT s))++cap).any df|_=>true)=true
  .rw[if_pos hb]at hr;cases hr
  .rw[if_neg hb]at hr;split at hr
   case h_2=>cases hr
   rename_i s1 h1 hs;cases hr;refine⟨?_,sS fg hs (r:=.go s' h') hk⟩;generalize ev (gT s) f=q at hb
   cases q<;>first|exact absurd trivial hb|exact absurd rfl hb|(exact Bool.eq_false_iff.2 hb)
 all_goals
  simp only[xK]at hr;split at hr
  case h_2=>cases hr
  rename_i s1 h1 hs;cases hr;exact sS fg hs (r:=.go s' h') (Qp:=λ_=>False) hk
theorem AW:∀{l:List cC}{s s':TS}{h h':TH},Eo P call l s h=some (s',h')->∀{K:av->aD->Prop},K (gT s') (gU h')->dc P GI l K (gT s) (gU h)
 |[],s,s',h,h',hr,K,hk=>by cases hr;exact hk
 |o::l,s,s',h,h',hr,K,hk=>by
  simp only[Eo]at hr;simp only[dc];split at hr
  .rename_i hw;rw[hw];simp only;split at hr
   case h_2=>cases hr
   rename_i s1 h1 hs;exact M_ fg hs (AW hr hk)
  .rename_i hw;rw[hw];simp only;split at hr
   case h_2=>cases hr
   rename_i s1 hs;rw[<-DM hs];exact AW hr hk
  .cases hr
theorem kz{m:Nat}:∀{c:af}{s s':TS}{h h':TH}{e:dp},pZ P call m c s h=some (e,s',h')->∀{Q:dp->av->aD->Prop},Q e (gT s') (gU h')->bC P GI c Q (gT s) (gU h)
 |.skip,s,s',h,h',e,hr,Q,hq=>by cases hr;exact hq
 |.ops l,s,s',h,h',e,hr,Q,hq=>by
  simp only[pZ]at hr;simp only[bC]
  split at hr<;>cases hr
  .rename_i hs;exact xM fg hs (r:=.go s' h') hq
  .rename_i v hs;exact xM fg hs (r:=.panic v) hq
 |.dc l,s,s',h,h',e,hr,Q,hq=>by
  simp only[pZ]at hr;simp only[bC];split at hr
  case h_2=>cases hr
  rename_i s1 h1 hp
  split at hr<;>cases hr
  rename_i hs;obtain⟨e1,e2⟩:=EH hp;rw[<-e1,<-e2];exact AW fg hs hq
 |.seq x y,s,s',h,h',e,hr,Q,hq=>by
  simp only[pZ]at hr;simp only[bC];split at hr
  .rename_i s1 h1 hx;exact kz hx (show cU _ _ _ _ _ from kz hr hq)
  .rename_i cI;refine kz hr ?_
   cases e with
   |normal=>exact absurd hr (cI _ _)
   |exit id=>exact hq
   |ret=>exact hq
   |panic v=>exact hq
 |.cond c x y,s,s',h,h',e,hr,Q,hq=>by
  simp only[pZ]at hr;simp only[bC];split at hr
  .rename_i hc;rw[hc];exact kz hr hq
  .rename_i hc;rw[hc];exact kz hr hq
  .cases hr
 |.block id c,s,s',h,h',e,hr,Q,hq=>by
  simp only[pZ]at hr;simp only[bC];split at hr
  .rename_i j s1 h1 hx;refine kz hx ?_;simp only[db];split at hr
   .rename_i hj;cases hr;rw[if_pos hj];exact hq
   .rename_i hj;cases hr;rw[if_neg hj];exact hq
  .rename_i cI;refine kz hr ?_
   cases e with
   |normal=>exact hq
   |exit j=>exact absurd hr (cI _ _ _)
   |ret=>exact hq
   |panic v=>exact hq
 |.loop c,s,s',h,h',e,hr,Q,hq=>by
  simp only[pZ]at hr;simp only[bC]
  let p:av->aD->Nat->Prop:=λS H k=>∃s h,gT s=S/\gU h=H/\IA (pZ P call m c) k s h=some (e,s',h')
  refine⟨λS H=>∃k,p S H k,λS H=>least (p S H),⟨m,s,h,rfl,rfl,hr⟩,?_⟩;intro S H hI;obtain⟨⟨s1,h1,rfl,rfl,hl⟩,_⟩:=I8 hI;generalize hk:least (p (gT s1) (gU h1))=k at hl
  cases k with
  |zero=>cases hl
  |succ k=>
   simp only[IA]at hl;split at hl
   .rename_i s2 h2 hb;refine kz hb ?_
    have hp:p (gT s2) (gU h2) k:=⟨s2,h2,rfl,rfl,hl⟩
    refine⟨⟨k,hp⟩,?_⟩;have:=(I8 ⟨k,hp⟩).2 k hp;show least (p (gT s2) (gU h2))<least (p (gT s1) (gU h1));omega
   .rename_i cI;refine kz hl ?_
    cases e with
    |normal=>exact absurd hl (cI _ _)
    |exit id=>exact hq
    |ret=>exact hq
    |panic v=>exact hq
 |.exit id,s,s',h,h',e,hr,Q,hq=>by cases hr;exact hq
 |.ret,s,s',h,h',e,hr,Q,hq=>by cases hr;exact hq
 |.bad,s,s',h,h',e,hr,Q,hq=>by cases hr
end
noncomputable def G3:TS->Nat->List AV->TS
 |s,_,[]=>s
 |s,i,v::vs=>G3 (s.P 4 i v.aG) (i+1) vs
theorem Ji:∀(args:List AV)(s:TS)(i:Nat),i+args.length<=256->gT (G3 s i args)=λt=>if t<i then gT s t else if t<i+args.length then(args.getD (t-i) b_).aG else gT s t
 |[],s,i,_=>by
  funext t
  simp only[G3,List.length_nil,Nat.add_zero];split
  .rfl
  .rfl
 |v::vs,s,i,hl=>by
  simp only[List.length_cons]at hl;rw[G3,Ji vs _ (i+1) (by omega)]
  have hs:pN s i v.aG=some (s.P 4 i v.aG):=by
   unfold pN
   have:Nat.ble 256 i=false:=by
    cases h:Nat.ble 256 i with
    |false=>rfl
    |true=>have:=afw h;omega
   rw[this];rfl
  rw[tA hs]
  funext t
  by_cases h1:t<i
  .rw[if_pos (by omega),if_pos h1,bj _ _ (by omega)]
  .by_cases h2:t=i
   .subst h2;rw[if_pos (by omega),if_neg (by omega),if_pos (by simp),aS];simp
   .rw[if_neg (by omega),if_neg h1]
    by_cases h3:t<i+1+vs.length
    .rw[if_pos h3,if_pos (by simp;omega)]
     have:t-i=(t-(i+1))+1:=by omega
     rw[this];rfl
    .rw[if_neg h3,if_neg (by simp;omega),bj _ _ h2]
noncomputable def DN(args:List AV):TS:=G3 (.lf b_) 0 args
theorem I0(args:List AV)(h:args.length<=256):gT (DN args)=start args:=by
 unfold DN;rw[Ji args _ 0 (by omega)]
 funext t
 simp only[afm,adz,ad3,start]
 by_cases ht:t<args.length
 .simp[ht]
 .have:args[t]?=none:=adv (by omega);simp only[ht,adz];unfold gT
  cases Nat.ble 256 t<;>simp[TT.Wc,this,b_,AV.aG,ht]
theorem Su:gU (.lf none)=λ_=>none:=by
 funext t
 unfold gU
 cases Nat.ble 256 t<;>rfl
noncomputable def KX(P:Program)(call:iB)(m:Nat)(fn:xw)(args:List AV):Option eP:=
 bif Nat.ble args.length fn.n&&Nat.ble args.length 256 then
  match pZ P call m fn.code (DN args) (.lf none)with
  |some (.normal,s,h)|some (.ret,s,h)=>(cy P fn.n fn.res (gT s) (gU h)).map .ret
  |some (.panic v,_,_)=>some (.panic v)
  |_=>none
 else none
noncomputable def runT(P:Program)(pA:iB)(yR:Nat->Option xw)(m:Nat)(d:Nat):iB:=
 Nat.rec (motive:=λ_=>iB) (λ_ _=>none) (λ_ ih f args=>match yR f with
  |some fn=>KX P ih m fn args
  |none=>pA f args) d
theorem Jd {P:Program} {GI:World→Prop} (hG:aw GI) (hm:P.follows .mixedOrders=true) {pA:iB} {yR:Nat→Option xw} {m:Nat} (hp:∀ f args out,pA f args=some out→AC P GI f args out) (ht:Ph P yR) :
  ∀(d:Nat)(f:Nat)(args:List AV)(out:eP),runT P pA yR m d f args=some out->AC P GI f args out
 |0,_,_,_,h=>by cases h
 |d+1,f,args,out,h=>by
  have h:(match yR f with|some fn=>KX P (runT P pA yR m d) m fn args|none=>pA f args)=some out:=h;split at h
  case h_2=>exact hp _ _ _ h
  rename_i fn hf;obtain⟨F,c,h1,h2,h3,h4,h5⟩:=ht f fn hf;unfold KX at h
  cases hb:(Nat.ble args.length fn.n&&Nat.ble args.length 256)with
  |false=>rw[hb]at h;cases h
  |true=>
  rw[hb]at h;simp only[cond_true]at h;rw[adb]at hb;have hl:=afw hb.1;have qN:=afw hb.2
  have hs:=λ(e:dp)(s:TS)(hh:TH)=>@kz P GI (runT P pA yR m d) (λf args out=>Jd hG hm hp ht d f args out) m fn.code (DN args) s (.lf none) hh e
  simp only[I0 args qN,Su]at hs;refine AC.KC hG hm h1 h2 h3 hl h5 ?_;rw[h4];split at h
  .rename_i s hh hc;simp only[adr]at h;obtain⟨v,hv,rfl⟩:=h;exact hs _ _ _ hc ⟨v,hv,rfl⟩
  .rename_i s hh hc;simp only[adr]at h;obtain⟨v,hv,rfl⟩:=h;exact hs _ _ _ hc ⟨v,hv,rfl⟩
  .rename_i v s hh hc;cases h;exact hs _ _ _ hc rfl
  .cases h
end Go.AL
namespace Go.AL
open Go.RowKit
def V3:fw->av->aD->Option aQ
 |.mv take x=>λS H=>if take then some { v:=ev S x,dm:=bz x }else some { v:=(ev S x).aG }
 |.pick c a b=>λS H=>match ev S c with
  |.bool t=>some { v:=(if t then ev S a else ev S b).aG }
  |_=>none
 |.build zero parts=>λS H=>(bI zero (parts.map λ(o,s,x)=>(o,s,ev S x))).map λcs=>{ v:=.agg cs }
 |.buildSlice _ e size parts=>λS H=>
  if aJ size (parts.map (ev S))&&parts.length*size<=16777216 then some { v:=.slice (.own e) ((parts.map (ev S)).map AV.vw) }else none
 |.load hr agg size x=>λS H=>match ev S x with
  |.box i off=>if hr.okB i then match H i with
   |some cs=>(b0 agg size (cs.drop off)).map λv=>{ v:=v }
   |none=>none
   else none
  |.ref cs=>(b0 agg size cs).map λv=>{ v:=v }
  |_=>none
 |.loadT hr x=>λS H=>match ev S x with
  |.box i off=>if hr.okB i then match H i with
   |some cs=>match cs[off]? with
    |some v=>some { v:=v,hw:=some (i,cs.set off v.aG) }
    |none=>none
   |none=>none
   else none
  |_=>none
 |.store hr size x y=>λS H=>match ev S x with
  |.box i off=>if hr.okB i then match H i with
   |some cs=>if (ev S y).cells.length=size∧off+size≤cs.length∧(ev S y).storable=true then
     some { v:=b_,dm:=bz y,hw:=some (i,bo cs off (ev S y).bZ) }else none
   |none=>none
   else none
  |_=>none
 |.bin op x y=>λS H=>(dS op (ev S x) (ev S y)).map λv=>{ v:=v }
 |.F2 neg x y=>λS H=>match ev S x,ev S y with
  |.bool a,.bool b=>some { v:=.bool (if neg then a !=b else a==b) }
  |_,_=>none
 |.eqs neg k x y=>λS H=>match ev S x,ev S y with
  |.agg xs,.agg ys=>match ny xs,ny ys with
   |some a,some b=>if a.length=k/\b.length=k then some { v:=.bool (if neg then a !=b else a==b) }else none
   |_,_=>none
  |_,_=>none
 |.nx ag len size x i=>λS H=>match ev S x,ev S i with
  |.agg cs,.int .i64 k=>if 0<=k/\k<len then(b0 ag size (cs.drop (k.toNat*size))).map λv=>{ v:=v }else none
  |_,_=>none
 |.pC xs=>λS H=>if(xs.map (ev S)).all Cg then some { v:=.j0 (xs.map (ev S)) }else none
 |.pE len x i=>λS H=>match ev S x,ev S i with
  |.j0 fs,.int .i64 k=>if 0≤k∧k < len then match fs[k.toNat]? with
    |some v=>if Cg v then some { v:=v }else none
    |none=>none
   else none
  |_,_=>none
 |.zr x=>λS H=>match ev S x with
  |.slice _ es=>(bytesOf es).map λl=>{ v:=.str l }
  |_=>none
 |.lookup k z x i=>λS H=>match ev S x,ev S i with
  |.map ks vs,.agg c=>match ny c with
   |some key=>if key.length=k then match oF key ks vs with
     |some (some v)=>some { v:=.dN [v.aG,.bool true] }
     |some none=>some { v:=.dN [z,.bool false] }
     |none=>none
    else none
   |none=>none
  |_,_=>none
 |.not x=>λS H=>match ev S x with
  |.bool b=>some { v:=.bool !b }
  |_=>none
 |.conv k x=>λS H=>match ev S x with
  |.int _ n=>some { v:=.int k (k.wrap n) }
  |_=>none
 |.iface t x=>λS H=>if(ev S x).storable then some { v:=.iface t (ev S x).vw }else none
 |.GO fn first cap=>λS H=>some { v:=.func fn (first.map λx=>(ev S x).aG) (cap.map λx=>(ev S x).aG) }
 |.pG x lo hi=>λS H=>match ev S x with
  |.str l=>match bound (lo.map (ev S)) 0,bound (hi.map (ev S)) l.length with
   |some a,some b=>if 0<=a/\a<=b/\b<=l.length then some { v:=.str ((l.take b.toNat).drop a.toNat) }else none
   |_,_=>none
  |_=>none
 |.qq len x=>λS H=>match ev S x with
  |.ref cs=>if cs.length=len then some { v:=.slice .view cs }else none
  |_=>none
 |.mS size x lo hi=>λS H=>match ev S x with
  |.slice _ es=>match bound (lo.map (ev S)) 0,bound (hi.map (ev S)) es.length with
   |some a,some b=>if 0<=a/\a<=b/\b<=es.length/\aJ size es=true then some { v:=.slice .view ((es.take b.toNat).drop a.toNat) }else none
   |_,_=>none
  |_=>none
 |.fieldAddr off x=>λS H=>match ev S x with
  |.box i o=>some { v:=.box i (o+off) }
  |.ref cs=>some { v:=.ref (cs.drop off) }
  |_=>none
 |.indexAddr size x i=>λS H=>match ev S x,ev S i with
  |.slice _ es,.int .i64 k=>if 0≤k then match es[k.toNat]? with
    |some v=>if v.cells.length=size then some { v:=.ref v.cells }else none
    |none=>none
   else none
  |_,_=>none
 |.pF x i=>λS H=>match ev S x,ev S i with
  |.str l,.int .i64 k=>if 0≤k then match l[k.toNat]? with
    |some b=>some { v:=.int .u8 b.toNat }
    |none=>none
   else none
  |_,_=>none
 |.extract x i=>λS H=>match ev S x with
  |.dN vs=>(vs[i]?).map λv=>{ v:=v.aG }
  |_=>none
 |.yK x=>λS H=>match ev S x with
  |.str l=>some { v:=.int .i64 l.length }
  |_=>none
 |.j6 x=>λS H=>match ev S x with
  |.slice _ es=>some { v:=.int .i64 es.length }
  |_=>none
 |.isNil neg x=>λS H=>match ev S x with
  |.slice _ es=>some { v:=if es.isEmpty then .pX else .bool neg }
  |_=>none
 |.empty _=>λS H=>some { v:=.slice .nil [] }
 |.append _ e size _ x y=>λS H=>match ev S x,ev S y with
  |.slice .nil [],.slice _ ys=>if aJ size ys&&ys.length<1048576 then some { v:=.slice (if ys.isEmpty then .nil else .own e) ys }else none
  |.slice (.own e') xs,.slice _ ys=>if e'=e/\(aJ size ys&&aJ size xs&&(xs.length+ys.length<1048576))=true then some { v:=.slice (.own e) (xs++ys),dm:=bz x }else none
  |_,_=>none
 |.max x y=>λS H=>match ev S x,ev S y with
  |.int .i64 a,.int .i64 b=>some { v:=.int .i64 (max a b) }
  |_,_=>none
 |.min x y=>λS H=>match ev S x,ev S y with
  |.int .i64 a,.int .i64 b=>some { v:=.int .i64 (min a b) }
  |_,_=>none
 |.assert t zero x=>λS H=>match ev S x with
  |.iface t' v=>some { v:=if t'=t then .dN [v,.bool true]else .dN [zero,.bool false] }
  |.vu=>some { v:=.dN [zero,.bool false] }
  |_=>none
 |_=>λS H=>none
theorem U2(S:av)(H:aD)(op:fw):V3 op S H=aH S H op:=by
 cases op<;>rfl
noncomputable def ja:fw->(P:Program)->(call:iB)->(dst:Option Nat)->(s:TS)->(h:TH)->Option Cu
 |.alloc _ zero=>λ_ _ dst s h=>match dst with
  |some d=>match pN (Ae d s) d (.box d 0),pN h d (some zero)with
   |some s',some h'=>some (.go s' h')
   |_,_=>none
  |none=>none
 |.box _ size x=>λ_ _ dst s h=>match dst with
  |some d=>if (ev (gT s) x).cells.length=size∧(ev (gT s) x).storable=true then
    match pN (Ae d s) d (.box d 0),pN h d (some ((ev (gT s) x).cells.map AV.aG))with
    |some s',some h'=>some (.go s' h')
    |_,_=>none
   else none
  |none=>none
 |.call f args=>λP call dst s h=>match HF P call f (args.map λy=>fz (gU h) (ev (gT s) y)) (args.any λy=>df (ev (gT s) y))with
  |some out=>fD dst s h out
  |none=>none
 |.ik f args=>λP call dst s h=>match ev (gT s) f with
  |.func (.func k) first cap=>match HF P call k ((first++args.map (ev (gT s))++cap).map (fz (gU h))) ((first++args.map (ev (gT s))++cap).any df)with
   |some out=>fD dst s h out
   |none=>none
  |_=>none
 |.panic x=>λ_ _ _ s _=>match ev (gT s) x with
  |.iface t v=>some (.panic (.iface t v))
  |_=>none
 |op=>λ_ _ dst s h=>match V3 op (gT s) (gU h)with
  |some e=>(V7 e dst s h).map λ(s',h')=>.go s' h'
  |none=>none
theorem NO(op:fw)(P:Program)(call:iB)(dst:Option Nat)(s:TS)(h:TH):ja op P call dst s h=stepT P call op dst s h:=by
 cases op<;>first|rfl|(simp only[ja,stepT,U2])
noncomputable def NT(P:Program)(call:iB)(l:List cC):TS->TH->Option Cu:=
 List.rec (motive:=λ_=>TS->TH->Option Cu) (λs h=>some (.go s h)) (λo _ ih s h=>match aF (gT s) o.guard with
  |some true=>match ja o.op P call o.dst s h with
   |some (.go s' h')=>ih s' h'
   |r=>r
  |some false=>match GD s o.dst b_ with
   |some s'=>ih s' h
   |none=>none
  |none=>none) l
theorem RQ(P:Program)(call:iB):∀(l:List cC)(s:TS)(h:TH),NT P call l s h=Kp P call l s h
 |[],_,_=>rfl
 |o::l,s,h=>by
  have e:NT P call (o::l) s h=(match aF (gT s) o.guard with
   |some true=>match ja o.op P call o.dst s h with
    |some (.go s' h')=>NT P call l s' h'
    |r=>r
   |some false=>match GD s o.dst b_ with
    |some s'=>NT P call l s' h
    |none=>none
   |none=>none):=rfl
  rw[e];simp only[Kp,NO,RQ P call l]
  try rfl
noncomputable def JA:fw->(P:Program)->(call:iB)->(dst:Option Nat)->(s:TS)->(h:TH)->Option (TS×TH)
 |.alloc _ _=>λ_ _ dst s h=>match dst with
  |some d=>(pN s d (.box d 0)).map λs'=>(s',h)
  |none=>none
 |.box ..|.panic _|.other=>λ_ _ _ _ _=>none
 |.call f args=>λP call dst s h=>if(args.any λy=>df (ev (gT s) y))then none else match ja (.call f args) P call dst s h with
  |some (.go s' h')=>some (s',h')
  |_=>none
 |.ik f args=>λP call dst s h=>if(match ev (gT s) f with|.func _ first cap=>(first++args.map (ev (gT s))++cap).any df|_=>true)then none else match ja (.ik f args) P call dst s h with
  |some (.go s' h')=>some (s',h')
  |_=>none
 |op=>λP call dst s h=>match ja op P call dst s h with
  |some (.go s' h')=>some (s',h')
  |_=>none
theorem TN(op:fw)(P:Program)(call:iB)(dst:Option Nat)(s:TS)(h:TH):JA op P call dst s h=xK P call op dst s h:=by
 cases op<;>first|rfl|(simp only[JA,xK,NO])
noncomputable def Hg(P:Program)(call:iB)(l:List cC):TS->TH->Option (TS×TH):=
 List.rec (motive:=λ_=>TS->TH->Option (TS×TH)) (λs h=>some (s,h)) (λo _ ih s h=>match aF (gT s) o.guard with
  |some true=>match JA o.op P call o.dst s h with
   |some (s',h')=>ih s' h'
   |none=>none
  |some false=>match GD s o.dst b_ with
   |some s'=>ih s' h
   |none=>none
  |none=>none) l
theorem Nz(P:Program)(call:iB):∀(l:List cC)(s:TS)(h:TH),Hg P call l s h=Eo P call l s h
 |[],_,_=>rfl
 |o::l,s,h=>by
  have e:Hg P call (o::l) s h=(match aF (gT s) o.guard with
   |some true=>match JA o.op P call o.dst s h with
    |some (s',h')=>Hg P call l s' h'
    |none=>none
   |some false=>match GD s o.dst b_ with
    |some s'=>Hg P call l s' h
    |none=>none
   |none=>none):=rfl
  rw[e];simp only[Eo,TN,Nz P call l]
  try rfl
abbrev CL:=TS->TH->Option (dp×TS×TH)
noncomputable def Lm(body:CL)(k:Nat):CL:=
 Nat.rec (motive:=λ_=>CL) (λ_ _=>none) (λ_ ih s h=>match body s h with
  |some (.normal,s',h')=>ih s' h'
  |r=>r) k
theorem NW(body:CL):∀(k:Nat)(s:TS)(h:TH),Lm body k s h=IA body k s h
 |0,_,_=>rfl
 |k+1,s,h=>by
  have e:Lm body (k+1) s h=(match body s h with
   |some (.normal,s',h')=>Lm body k s' h'
   |r=>r):=rfl
  rw[e];simp only[IA,NW body k]
  try rfl
noncomputable def codeF(P:Program)(call:iB)(m:Nat)(c:af):CL:=
 af.rec (motive:=λ_=>CL) (λs h=>some (.normal,s,h))
  (λl s h=>match NT P call l s h with
   |some (.go s' h')=>some (.normal,s',h')
   |some (.panic v)=>some (.panic v,s,h)
   |none=>none)
  (λl s h=>match E0 l s h with
   |some (s1,h1)=>match Hg P call l s1 h1 with
    |some (s',h')=>some (.normal,s',h')
    |none=>none
   |none=>none)
  (λ_ _ ihx ihy s h=>match ihx s h with
   |some (.normal,s',h')=>ihy s' h'
   |r=>r)
  (λc _ _ ihx ihy s h=>match ev (gT s) c with
   |.bool true=>ihx s h
   |.bool false=>ihy s h
   |_=>none)
  (λid _ ih s h=>match ih s h with
   |some (.exit j,s',h')=>if j=id then some (.normal,s',h')else some (.exit j,s',h')
   |r=>r)
  (λ_ ih s h=>Lm ih m s h)
  (λid s h=>some (.exit id,s,h))
  (λs h=>some (.ret,s,h))
  (λ_ _=>none) c
theorem codeF_eq(P:Program)(call:iB)(m:Nat):∀(c:af),codeF P call m c=pZ P call m c
 |.skip=>rfl
 |.ops l=>by
  funext s h
  show(match NT P call l s h with
   |some (.go s' h')=>some (dp.normal,s',h')
   |some (.panic v)=>some (.panic v,s,h)
   |none=>none)=_
  rw[RQ];rfl
 |.dc l=>by
  funext s h
  show(match E0 l s h with
   |some (s1,h1)=>match Hg P call l s1 h1 with
    |some (s',h')=>some (dp.normal,s',h')
    |none=>none
   |none=>none)=_
  simp only[Nz,pZ]
  try rfl
 |.seq x y=>by
  funext s h
  show(match codeF P call m x s h with
   |some (.normal,s',h')=>codeF P call m y s' h'
   |r=>r)=_
  rw[codeF_eq P call m x,codeF_eq P call m y];rfl
 |.cond c x y=>by
  funext s h
  show(match ev (gT s) c with
   |.bool true=>codeF P call m x s h
   |.bool false=>codeF P call m y s h
   |_=>none)=_
  rw[codeF_eq P call m x,codeF_eq P call m y];rfl
 |.block id c=>by
  funext s h
  show(match codeF P call m c s h with
   |some (dp.exit j,s',h')=>if j=id then some (dp.normal,s',h')else some (dp.exit j,s',h')
   |r=>r)=_
  rw[codeF_eq P call m c];rfl
 |.loop c=>by
  funext s h
  show Lm (codeF P call m c) m s h=_;rw[NW,codeF_eq P call m c];rfl
 |.exit id=>rfl
 |.ret=>rfl
 |.bad=>rfl
noncomputable def Pt(P:Program)(call:iB)(m:Nat)(fn:xw)(args:List AV):Option eP:=
 bif Nat.ble args.length fn.n&&Nat.ble args.length 256 then
  match codeF P call m fn.code (DN args) (.lf none)with
  |some (.normal,s,h)|some (.ret,s,h)=>(cy P fn.n fn.res (gT s) (gU h)).map .ret
  |some (.panic v,_,_)=>some (.panic v)
  |_=>none
 else none
theorem Wh(P:Program)(call:iB)(m:Nat)(fn:xw)(args:List AV):Pt P call m fn args=KX P call m fn args:=by
 unfold Pt KX;rw[codeF_eq]
 try rfl
noncomputable def Sh(P:Program)(pA:iB)(yR:Nat->Option xw)(m:Nat)(d:Nat):iB:=
 Nat.rec (motive:=λ_=>iB) (λ_ _=>none) (λ_ ih f args=>match yR f with
  |some fn=>Pt P ih m fn args
  |none=>pA f args) d
theorem Q3(P:Program)(pA:iB)(yR:Nat->Option xw)(m:Nat):∀d,Sh P pA yR m d=AL.runT P pA yR m d
 |0=>rfl
 |d+1=>by
  funext f args
  show(match yR f with|some fn=>Pt P (Sh P pA yR m d) m fn args|none=>pA f args)=_;rw[Q3 P pA yR m d];simp only[Wh]
  try rfl
theorem Ja {P:Program} {GI:World→Prop} (hG:aw GI) (hm:P.follows .mixedOrders=true) {pA:iB} {yR:Nat→Option xw} {m:Nat} (hp:∀ f args out,pA f args=some out→AC P GI f args out) (ht:Ph P yR)
  (d:Nat) (f:Nat) (args:List AV) (out:eP) (h:Sh P pA yR m d f args=some out):AC P GI f args out:=by
 rw[Q3]at h;exact Jd hG hm hp ht d f args out h
section
variable{P:Program}{GI:World->Prop}{n:Nat}{S:av}{H:aD}{a:Act}{w:World}{ro:Option Nat}{m:Nat}{Q:Exit->Act->World->Prop}
theorem Rel.aav (c:Nat→Nat→Prop) (bq:a.tmps.size=n) (dZ:a.defers=[]) (hS:∀ t,t < n→(S t).aG=S t∧RV c cj w (S t) (a.tmps.getD t undef)) :
  Rel P w n cm { base:=w.heap.size,old:=Old.plain c w,al:=cj,hi:=λ_=>0,owner:=λ_=>none } S (λ_=>none) a w:={
 size:=bq
 defers:=dZ
 facts _ h:=by cases h
 slot t ht _:=(hS t ht).2.mono (bl.same λb k au hp=>.inl ⟨au,hp⟩) (λ_ _ h=>h)
 own t ht _:=by rw[<-(hS t ht).1];exact gR.aG
 box i b h:=by cases h
 mB i cs h:=by cases h
 mr i _:=rfl
 inj i j b h:=by cases h
 base:=rfl
 below:=aeb _ _
 fresh b _:=⟨rfl,rfl⟩
 still:=⟨λ_ _ h=>h.elim,λ_ h=>h.elim⟩
 grown:=adh _
 kept _ _ h:=by cases h }
theorem aV {ops:Array Oper} {i:Nat} {rest:List Nat} {o:Oper} (ho:ops[i]? = some o) (hg:o.guard=none) (fk:il o.op=true) {v:Value} {w':World}
  (hr:(execOp a.eval o).run P w=.ok (.value v) w') (hk:wpOpsIn (FR ro) m P ops Q rest (a.put o.dst v) w'):wpOpsIn (FR ro) m P ops Q (i::rest) a w:=by
 simp only[wpOpsIn,ho]
 have:Region.wanted o (yielded ops a.tmps)=true:=by simp[Region.wanted,hg]
 rw[if_pos this];refine⟨λ_ _=>trivial,?_⟩;rw[ae6 _ _ _ (λc hc=>by rw[hc]at fk;cases fk),hr];exact hk
theorem dM {ops:Array Oper} {i:Nat} {rest:List Nat} {o:Oper} (ho:ops[i]? = some o) (hg:o.guard=none) (fk:il o.op=true) {w':World}
  (hr:(execOp a.eval o).run P w=.ok .skip w') (hk:wpOpsIn (FR ro) m P ops Q rest (a.put o.dst undef) w'):wpOpsIn (FR ro) m P ops Q (i::rest) a w:=by
 simp only[wpOpsIn,ho]
 have:Region.wanted o (yielded ops a.tmps)=true:=by simp[Region.wanted,hg]
 rw[if_pos this];refine⟨λ_ _=>trivial,?_⟩;rw[ae6 _ _ _ (λc hc=>by rw[hc]at fk;cases fk),hr];exact hk
theorem fH {ops:Array Oper} {i:Nat} {rest:List Nat} {o:Oper} (ho:ops[i]? = some o) (hg:o.guard=none) (fk:il o.op=true) {f:Nat} {args:Array Value} {w':World}
  (hr:(execOp a.eval o).run P w=.ok (.enter f args) w') {R:Ending->World->Prop} (hc:Calls P f args w' R) (hk:∀e lu,R e lu->∃v,e=.returned v/\wpOpsIn (FR ro) m P ops Q rest (a.put o.dst v) lu):wpOpsIn (FR ro) m P ops Q (i::rest) a w:=by
 simp only[wpOpsIn,ho]
 have:Region.wanted o (yielded ops a.tmps)=true:=by simp[Region.wanted,hg]
 rw[if_pos this];refine⟨λ_ _=>trivial,?_⟩;rw[ae6 _ _ _ (λc hc=>by rw[hc]at fk;cases fk),hr];refine⟨λh=>by simp[FR,Fence.wide]at h,jw.2 (hc.mono λe lu hh=>?_)⟩;obtain⟨v,rfl,h⟩:=hk e lu hh;exact h
theorem IS {ops:Array Oper} {i:Nat} {rest:List Nat} {o:Oper} (ho:ops[i]? = some o) (hg:o.guard=none) (fk:il o.op=true) {l f:Nat} {tmps:Array Value} {Jz bd:Code} {w':World}
  (hr:(execOp a.eval o).run P w=.ok (.round l f tmps Jz bd) w') {R:Ending->World->Prop} (hc:∀m,RoundIn (FR none) m P l f tmps Jz bd w' R) (hk:∀e lu,R e lu->∃v,e=.returned v/\wpOpsIn (FR none) m P ops Q rest (a.put o.dst v) lu):wpOpsIn (FR none) m P ops Q (i::rest) a w:=by
 simp only[wpOpsIn,ho]
 have:Region.wanted o (yielded ops a.tmps)=true:=by simp[Region.wanted,hg]
 rw[if_pos this];refine⟨λ_ _=>trivial,?_⟩;rw[ae6 _ _ _ (λc hc=>by rw[hc]at fk;cases fk),hr];refine⟨λh=>by simp[FR,Fence.wide]at h,(hc (m-1)).mono λe lu hh=>?_⟩;obtain⟨v,rfl,h⟩:=hk e lu hh;exact h
def YC(K:Act->World->Prop)(Q:Exit->Act->World->Prop):Exit->Act->World->Prop
 |.normal,a,w=>K a w
 |e,a,w=>Q e a w
theorem Vs{F:Fence}{o:Oper}{K K':Act->World->Prop}(h:o.wpIn F m P a w K' (YC K Q)):o.wpIn F m P a w K' Q:=by
 unfold Oper.wpIn at*
 refine⟨h.1,?_⟩;have h2:=h.2
 generalize(o.semAt F.round a.eval).run P w=r at*
 cases r with
 |ok x w'=>
  cases x<;>simp only[Oper.uponIn]at h2⊢<;>first
   |exact h2
   |exact⟨h2.1,agK h2.2 (λe lu he=>by cases e<;>exact he)⟩
   |exact⟨h2.1,agQ h2.2 (λ_ _ he=>he)⟩
   |exact⟨h2.1,agL h2.2 (λe lu he=>by cases e<;>exact he)⟩
 |halt x w'=>cases x<;>simp only[Oper.uponIn]at h2⊢<;>exact h2
def Gm(ops:Array Oper):Nat->Nat->Array Bool->Bool
 |0,_,listed=>Region.ready .any ops listed==[]
 |k+1,i,listed=>Region.ready .any ops listed==[i]&&Gm ops k (i+1) (listed.setIfInBounds i true)
def MD(ops:Array Oper)(p:Nat):Nat->Array Bool->Array Bool->Bool
 |0,la,l=>(Region.ready .any (ops.extract 0 p) la==[])&&Gm ops (ops.size-p) p l
 |k+1,la,l=>let r:=Region.ready .any ops l
  r !=[]&&r==Region.ready .any (ops.extract 0 p) la&&r.all (λi=>decide (i<p)&&MD ops p k (la.setIfInBounds i true) (l.setIfInBounds i true))
def cutAt(ops:Array Oper)(p:Nat):Bool:=
 decide (p<=ops.size)&&ops.all (λo=>o.guard.isNone)&&MD ops p p (Array.replicate p false) (Array.replicate ops.size false)
theorem D9{F:Fence}{ops:Array Oper}(hg:ops.all (λo=>o.guard.isNone)=true):∀(k i:Nat)(l:Array Bool)(a:Act)(w:World),Gm ops k i l=true->wpOpsIn F m P ops Q (List.range' i k) a w->wpAnyIn F m P .any ops Q k l a w
 |0,i,l,a,w,h,hh=>⟨by simpa[Gm]using h,hh⟩
 |k+1,i,l,a,w,h,hh=>by
  simp only[Gm,adb,adX]at h;refine⟨λhr=>(by rw[hr]at h;cases h.1),λj hj=>?_⟩;rw[h.1,ady]at hj;subst hj;simp only[aeB]at hh;rw[wpOpsIn_cons]at hh;exact wpOpIn_mono (λa w hq=>D9 hg k _ _ a w h.2 hq) hh
theorem Be {F:Fence} {ops:Array Oper} {p:Nat} (hp:p≤ops.size) (hg:ops.all (fun o=>o.guard.isNone)=true):∀ (k:Nat) (la l:Array Bool) (a:Act) (w:World),MD ops p k la l=true →
  wpAnyIn F m P .any (ops.extract 0 p) (YC (wpOpsIn F m P ops Q (List.range' p (ops.size-p))) Q) k la a w->wpAnyIn F m P .any ops Q (k+(ops.size-p)) l a w
 |0,la,l,a,w,h,hh=>by
  simp only[MD,adb]at h;rw[ad3];exact D9 hg _ _ _ a w h.2 hh.2
 |k+1,la,l,a,w,h,hh=>by
  simp only[MD,adb,af2,ne_eq,adX,adu,adf]at h;obtain⟨⟨h1,h2⟩,h3⟩:=h;rw[show k+1+(ops.size-p)=(k+(ops.size-p))+1 by omega];refine⟨λhr=>absurd hr h1,λi hi=>?_⟩
  have eb:i∈Region.ready .any (ops.extract 0 p) la:=by rw[<-h2];exact hi
  obtain⟨hip,hc⟩:=h3 i hi;have hs:=hh.2 i eb;unfold wpOpIn at hs⊢
  have iJ:(ops.extract 0 p)[i]?=ops[i]?:=by
   rw[agH]
   have:i<min p ops.size-0:=by omega
   rw[if_pos this,ad3]
  rw[iJ]at hs
  cases ho:ops[i]? with
  |none=>rw[ho]at hs;exact Be hp hg k _ _ a w hc hs
  |some o=>
   rw[ho]at hs
   have py:o.guard=none:=by
    have:=afv.1 hg o (aeM ho);simpa using this
   have hw:∀y,Region.wanted o y=true:=λy=>by simp[Region.wanted,py]
   simp only[hw,adJ]at hs⊢;exact agO (λa w hq=>Be hp hg k _ _ a w hc hq) (Vs hs)
theorem Wt (hm:P.follows .mixedOrders=true) {F:Fence} {id:Nat} {ops:Array Oper} {p:Nat} (h:cutAt ops p=true)
  (hh:wpAnyIn F m P .any (ops.extract 0 p) (YC (wpOpsIn F m P ops Q (List.range' p (ops.size-p))) Q) p (Array.replicate p false) a { w with drawn:=w.drawn+1 }):(Code.region id ops true).wpIn F m P Q a w:=by
 simp only[cutAt,adb,adf]at h;refine afC hm ?_;have:=Be h.1.1 h.1.2 p _ _ a _ h.2 hh;rwa [show p+(ops.size-p)=ops.size by omega]at this
theorem ki{F:Fence}{md:Region.Mode}{ops:Array Oper}{Q':Exit->Act->World->Prop}(hQ:∀e a w,Q e a w->Q' e a w):∀(fuel:Nat)(l:Array Bool)(a:Act)(w:World),wpAnyIn F m P md ops Q fuel l a w->wpAnyIn F m P md ops Q' fuel l a w
 |0,_,_,_,h=>⟨h.1,hQ _ _ _ h.2⟩
 |k+1,l,a,w,h=>⟨fun hr=>hQ _ _ _ (h.1 hr),fun i hi=>by
   have hs:=h.2 i hi;unfold wpOpIn at hs⊢
   cases ho:ops[i]? with
   |none=>rw[ho]at hs;exact ki hQ k _ a w hs
   |some o=>
    rw[ho]at hs;simp only at hs⊢;split
    .rename_i hw;rw[if_pos hw]at hs;have hs:=agO (λa w hq=>ki hQ k _ a w hq) hs
     unfold Oper.wpIn at*
     refine⟨hs.1,?_⟩;have h2:=hs.2
     generalize(o.semAt F.round a.eval).run P w=r at*
     cases r with
     |ok x w'=>
      have sj:LetsOut Q->LetsOut Q':=λ⟨a,w,h⟩=>⟨a,w,hQ _ _ _ h⟩
      cases x<;>simp only[Oper.uponIn]at h2⊢<;>first
       |exact h2
       |exact⟨h2.1,agK h2.2 (λe lu he=>by cases e<;>first|exact he|exact hQ _ _ _ he|exact sj he)⟩
       |exact⟨h2.1,agQ h2.2 (λ_ _ he=>he)⟩
       |exact⟨h2.1,agL h2.2 (λe lu he=>by cases e<;>first|exact he|exact hQ _ _ _ he|exact sj he)⟩
     |halt x w'=>cases x<;>simp only[Oper.uponIn]at h2⊢<;>first|exact h2|exact hQ _ _ _ h2
    .rename_i hw;rw[if_neg hw]at hs
     exact⟨hs.1,ki hQ k _ _ w hs.2⟩⟩
end
def kH(Pr:Nat->Nat->Prop)(w:World)(size:Nat)(es:List AV)(xs:List Value):Prop:=
 (∀x∈es,x.cells.length=size/\x.storable=true/\∀c∈x.cells,c.one=true)/\∀j (h:j<es.length) k (hk:k<(es[j]).cells.length),∃u,xs[j*size+k]?=some u/\RD Pr w ((es[j]).cells[k]) u
theorem kH.mono{Pr eR:Nat->Nat->Prop}{w w':World}{size:Nat}{es:List AV}{xs:List Value}(h:kH Pr w size es xs)(hk:bl Pr eR w w'):kH eR w' size es xs:=
 ⟨h.1,λj hj k Ew=>let⟨u,h1,h2⟩:=h.2 j hj k Ew;⟨u,h1,h2.mono hk⟩⟩
theorem RD.ofRow {Pr:Nat→Nat→Prop} {w:World} {base:Nat} {e:TypeId} {size:Nat} {v:Value} {es:List AV} {xs:List Value} (dO:w.ownsRow base e size v es.length xs) (hf:kH Pr w size es xs)
  (Pm:∀b,v.ownBlock=some b->∀k,k<es.length*size->Pr b k):RD Pr w (.slice .view es) v:=by
 rcases dO.2 with⟨rfl,hn⟩|⟨g,cap,cur,rfl,qL,hg,Qs,yp,vi,IG⟩
 .have:es=[]:=adQ hn;subst this;exact .jU _
 .refine .slice _ es g 0 cap size (λk=>xs.getD k undef) Qs (λh=>by cases h) (λi h=>(hf.1 _ (ada h)).1) (λi h j hj=>(hf.1 _ (ada h)).2.2 _ (ada hj)) (λk hk=>⟨?_,?_⟩) (λi h j hj=>?_)
  .rw[ad3];exact Pm g rfl k hk
  .have au:k<xs.length:=by rw[dO.1];exact hk
   have:=dO.cells (g:=g) rfl k _ (ac_ au);rw[aev]at this;simp only[adN,ac_ au,Option.getD_some];exact this
  .obtain⟨u,h1,h2⟩:=hf.2 i h j hj;simpa[h1]using h2
theorem RD.abL{Pr:Nat->Nat->Prop}{w:World}{o:Ow}{es:List AV}{c:Value}(h:RD Pr w (.slice o es) c)(e:TypeId):RD Pr w (.slice (.own e) es) c:=by
 cases h with
 |jU=>exact .jU _
 |kV _ a=>exact .kV _ a
 |slice _ _ b off cap size cs fF hn bq h1 hc hr=>exact .slice _ es b off cap size cs fF (λh=>by cases h) bq h1 hc hr
def ot(e:TypeId)(v:Value)(es:List AV):AV:=match v.ownBlock with
 |some _=>.slice (.own e) es
 |none=>.slice .nil []
theorem RD.Gr{Pr eR:Nat->Nat->Prop}{w:World}{o:Ow}{c:Value}(h:RD Pr w (.slice o []) c):RD eR w (.slice .view []) c:=by
 cases h with
 |jU=>exact .jU _
 |kV _ a=>exact .kV _ a
 |slice _ _ b off cap size cs fF hn bq h1 hc hr=>exact .slice _ [] b off cap size cs fF (λh=>by cases h) (λi h=>by simp at h) (λi h=>by simp at h) (λk h=>by simp at h) (λi h=>by simp at h)
theorem kH.U9 {Pr:Nat→Nat→Prop} {w:World} {base:Nat} {e:TypeId} {size:Nat} {o:Ow} {c:Value} {es:List AV} {xs:List Value} (hr:RD Pr w (.slice o es) c) (dO:w.ownsRow base e size c es.length xs)
  (nU:∀x∈es,x.cells.length=size/\x.storable=true/\∀c∈x.cells,c.one=true) (ID:∀x∈es,∀c∈x.cells,iC c=true):kH (λ_ _=>False) w size es xs:=by
 refine⟨nU,λj hj k hk=>?_⟩
 rcases hr.rU size (by simp only[aJ,adu,adb,adX];exact λx hx=>⟨(nU x hx).2.1,(nU x hx).1⟩)with⟨rfl,_⟩|⟨b2,off,cap,news,nw,hl,hn,nu,Mv⟩
 .simp at hj
 .obtain⟨u,u1,u2⟩:=Mv j hj k hk;refine⟨u,?_,u2.iC (ID _ (ada hj) _ (ada hk))⟩
  have au:j*size+k<xs.length:=by
   rw[dO.1,<-hl];exact(adE.1 u1).1
  rcases dO.2 with⟨Ed,h0⟩|⟨gg,Rq,cur,Jo,_⟩
  .rw[adQ h0]at hj;simp at hj
  .have e1:=dO.cells (g:=gg) (by rw[Jo];rfl) _ _ (ac_ au);have e2:=hn _ _ u1;rw[Jo]at nw;cases nw;rw[aev,ad3]at e1;rw[ad3]at e2;rw[e2]at e1;rw[ac_ au,adw e1]
section
variable{P:Program}{n:Nat}{S:av}{a:Act}{w:World}
def rV(pr:Nat->Nat->Prop)(w:World)(bN:Nat)(v:Value):Old:=
 { c:=pr,facts:=[],bx:=λ_=>False,ds:=[],bf:=λb=>if bN<b/\v.ownBlock≠some b then w.heap[b]? else none,sp:=λ_ _=>False,sw:=w,ok:=λ_ h=>by cases h }
theorem Rel.stack (pr:Nat→Nat→Prop) {bN nm:Nat} {v:Value} {e ty:TypeId} {i:TypeInfo} {es:List AV} {xs:List Value} (bq:a.tmps.size=n) (dZ:a.defers=[])
  (hN:w.heap[bN]?=some (.cells #[v] ty (0,0))) (hi:P.info? e=some i) (dO:w.ownsRow (bN+1) e i.size v es.length xs) (hf:kH (λb k=>b<bN/\pr b k) w i.size es xs)
  (hS:∀t,t<n->(S t).aG=S t/\((S t=.box nm 0/\a.tmps.getD t undef=.pointer (some ⟨bN,0,none⟩))\/RV (λb k=>b<bN/\pr b k) cj w (S t) (a.tmps.getD t undef))):
  ∃g,g.old=rV pr w bN v/\g.base=bN/\g.al=(λj=>if j=nm then some bN else none)/\
   Rel P { w with heap:=w.heap.extract 0 bN } n cm g S (λj=>if j=nm then some [ot e v es]else none) a w:=by
 have au:=(ade.1 hN).1
 let g:Gh:={ base:=bN,old:=rV pr w bN v,al:=λj=>if j=nm then some bN else none,hi:=λb=>if v.ownBlock=some b then es.length*i.size else 0,owner:=λb=>if v.ownBlock=some b then some (.cell nm 0)else none }
 have wO:∀b k,b<bN/\pr b k->g.Pr b k:=λb k h=>.inl h
 have u9:∀b,v.ownBlock=some b->bN<b/\b<w.heap.size:=λb hb=>dO.lt b hb
 have ME:v.ownBlock≠some bN:=λh=>by have:=u9 _ h;omega
 have nu:v.oneCell'=true:=by
  rcases dO.2 with⟨rfl,_⟩|⟨_,_,_,rfl,_⟩<;>rfl
 have ez:RD g.Pr w (ot e v es) v:=by
  unfold ot
  rcases dO.2 with⟨rfl,hn⟩|⟨gg,cap,cur,rfl,qL,hg,Qs,yp,vi,IG⟩
  .exact .jU _
  .simp only[Value.ownBlock]
   have h1:RD g.Pr w (.slice .view es) (.slice (some ⟨gg,0,none⟩) es.length cap):=RD.ofRow dO (hf.mono (bl.same λb k _ h=>wO b k h)) (λb hb k hk=>by
    refine .inr ⟨by have:=(u9 b hb).1;show bN<=b;omega,?_⟩;show k<(if _=some b then es.length*i.size else 0)
    rw[if_pos hb];exact hk)
   exact h1.abL e
 refine⟨g,rfl,rfl,rfl,{ size:=bq,defers:=dZ,facts:=λ_ h=>(by cases h),slot:=?_,own:=?_,box:=?_,mB:=?_,mr:=λi h=>h.elim,inj:=?_,base:=?_,below:=?_,fresh:=?_,still:=⟨λ_ _ h=>h.elim,λ_ h=>h.elim⟩,grown:=adh _,kept:=?_ }⟩
 .intro t ht _;rcases(hS t ht).2 with⟨h1,h2⟩|h
  .rw[h1,h2];exact .box _ _ _ (by simp[g])
  .exact h.mono (bl.same λb k _ h=>wO b k h) (λ_ _ h=>by cases h)
 .intro t ht _;rw[<-(hS t ht).1];exact gR.aG
 .intro j b hj
  by_cases zw:j=nm
  .subst zw
   have hb:b=bN:=by simpa[g]using hj.symm
   subst hb;refine⟨[ot e v es],#[v],ty,by simp,adh _,hN,by simp[g,ME],by simp[g,ME],rfl,λk hk dP=>?_,λk hk dP=>?_,λk hk=>?_⟩
   .have:k=0:=by simpa using hk
    subst this;exact ez
   .have:k=0:=by simpa using hk
    subst this;simp only[List.getElem_cons_zero,List.getElem_toArray];unfold ot
    cases zI:v.ownBlock with
    |none=>trivial
    |some b'=>
     refine⟨i,xs,b',hi,?_,zI,by simp[g,zI],by simp[g,zI]⟩;refine⟨dO.1,?_⟩
     rcases dO.2 with h|⟨gg,cap,cur,rfl,qL,rest⟩
     .exact .inl h
     .exact .inr ⟨gg,cap,cur,rfl,ael (Nat.le_succ _) qL,rest⟩
   .have:k=0:=by simpa using hk
    subst this;simp only[List.getElem_cons_zero];unfold ot
    cases v.ownBlock<;>rfl
  .simp[g,zw]at hj
 .intro j cs hj _
  by_cases zw:j=nm
  .subst zw;simp[g]
  .simp[zw]at hj
 .intro j k b hj hk
  by_cases zw:j=nm<;>by_cases vf:k=nm
  .rw[zw,vf]
  .simp[g,vf]at hk
  .simp[g,zw]at hj
  .simp[g,zw]at hj
 .show bN=(w.heap.extract 0 bN).size;simp;omega
 .refine⟨rfl,rfl,rfl,by simp;omega,λk hk=>?_⟩;have dP:k<bN:=hk;show w.heap[k]?=(w.heap.extract 0 bN)[k]?;rw[agH,if_pos (by omega),ad3]
 .intro b hb
  have:v.ownBlock≠some b:=λh=>by have:=u9 b h;omega
  simp[g,this]
 .intro b o h;simp only[g,rV]at h;split at h
  case isFalse=>cases h
  rename_i hc;refine⟨by show bN<=b;omega,h,by simp[g,hc.2],by simp[g,hc.2],λj hj=>?_⟩
  by_cases zw:j=nm
  .simp[g,zw]at hj;omega
  .simp[g,zw]at hj
theorem Rel.Wx {w0 w':World} {g':Gh} {S':av} {H':aD} {a':Act} (pr:Nat→Nat→Prop) {bN nm:Nat} {v:Value} {e:TypeId} {i:TypeInfo} {es':List AV} (hi:P.info? e=some i)
  (R:Rel P w0 n cm g' S' H' a' w') (hold:g'.old=rV pr w bN v) (jq:g'.base=bN) (wh:∀b,b<bN->w0.heap[b]?=w.heap[b]?) (kK:g'.al nm=some bN) (hH:H' nm=some [.slice (.own e) es'])
  (nU:∀x∈es',x.cells.length=i.size/\x.storable=true/\∀c∈x.cells,c.one=true) (ID:∀x∈es',∀c∈x.cells,iC c=true):
  ∃v' FY vn,w'.heap[bN]?=some (.cells #[v'] FY (0,0))/\w'.ownsRow (bN+1) e i.size v' es'.length vn/\kH (λ_ _=>False) w' i.size es' vn/\
   (∀b,b<w.heap.size->b≠bN->v.ownBlock≠some b->w'.heap[b]?=w.heap[b]?)/\∀b,v'.ownBlock=some b->v.ownBlock=some b\/w.heap.size<=b:=by
 obtain⟨cs,vs,ty,h1,h2,h3,h4,h5,h6,h7,h8,h9⟩:=R.box nm bN kK;rw[hH]at h1;cases h1;have vb:vs.size=1:=h6.symm
 obtain⟨v',si⟩:∃v',vs=#[v']:=⟨vs[0],by
  apply aeI
  .simpa using vb
  .intro j hj dY
   have:j=0:=by omega
   subst this;rfl⟩
 subst si;have hr:=h7 0 (by simp) (by simp);have ho:=h8 0 (by simp) (by simp);simp only[List.getElem_cons_zero,List.getElem_toArray]at hr ho;obtain⟨i',xs,b,k1,k2,k3,k4,k5⟩:=ho;rw[hi]at k1;cases k1
 have cI:b≠bN:=by
  rintro rfl;rw[h5]at k4;cases k4
 refine⟨v',ty,xs,h3,?_,⟨nU,λj hj k hk=>?_⟩,λb' kg Nt hbv=>?_,λb' kg=>?_⟩
 .refine⟨k2.1,?_⟩
  rcases k2.2 with h|⟨gg,cap,cur,rfl,qL,rest⟩
  .exact .inl h
  .have:gg=b:=by simpa[Value.ownBlock]using k3
   subst this;exact .inr ⟨gg,cap,cur,rfl,by rw[jq]at qL;omega,rest⟩
 .rcases hr.rU i.size (by simp only[aJ,adu,adb,adX];exact λx hx=>⟨(nU x hx).2.1,(nU x hx).1⟩)with⟨rfl,_⟩|⟨b2,off,cap,news,nw,hl,hn,nu,Mv⟩
  .simp at hj
  .obtain⟨u,u1,u2⟩:=Mv j hj k hk;refine⟨u,?_,u2.iC (ID _ (ada hj) _ (ada hk))⟩
   have au:j*i.size+k<xs.length:=by
    rw[k2.1,<-hl];exact(adE.1 u1).1
   have e1:=k2.cells k3 _ _ (ac_ au);have e2:=hn _ _ u1
   rcases k2.2 with⟨Ed,_⟩|⟨gg,Rq,cur,Jo,_⟩
   .rw[Ed]at k3;cases k3
   .rw[Jo]at nw k3
    have xu:gg=b:=by simpa[Value.ownBlock]using k3
    subst xu;cases nw;rw[aev,ad3]at e1;rw[ad3]at e2;rw[e2]at e1;rw[ac_ au,adw e1]
 .rcases ae1 b' bN with au|D2
  .have:=R.below.block b' (by rw[jq];exact au);rw[this];exact wh b' au
  .have Hv:g'.old.bf b'=w.heap[b']? := by
    rw[hold];simp only[rV];rw[if_pos ⟨by omega,hbv⟩]
   have:w.heap[b']?=some (w.heap[b']):=by simp[kg]
   rw[this]at Hv;rw[(R.kept b' _ Hv).2.1,this]
 .rw[k3]at kg;cases kg;rcases ae1 b w.heap.size with au|D2
  .by_cases hbv:v.ownBlock=some b
   .exact .inl hbv
   .exfalso
    have qG:bN<=b:=by
     have:=(k2.lt b k3).1;rw[jq]at this;exact this
    have Hv:g'.old.bf b=w.heap[b]?:=by
     rw[hold];simp only[rV];rw[if_pos ⟨by omega,hbv⟩]
    have:w.heap[b]?=some (w.heap[b]):=by simp[au]
    rw[this]at Hv;have:=(R.kept b _ Hv).2.2.2.1;rw[k4]at this;cases this
  .exact .inr D2
end
section
variable{P:Program}{GI:World->Prop}{n:Nat}{S:av}{H:aD}{a:Act}{w:World}{ro:Option Nat}{m:Nat}{Q Q':Exit->Act->World->Prop}{F:Fence}
theorem sO{o:Oper}{K K':Act->World->Prop}(hK:∀a w,K a w->K' a w)(hQ:∀e a w,e≠.normal->Q e a w->Q' e a w)(hs:o.wpIn F m P a w K Q):o.wpIn F m P a w K' Q':=by
 have hs:=agO hK hs
 unfold Oper.wpIn at*
 refine⟨hs.1,?_⟩;have h2:=hs.2
 generalize(o.semAt F.round a.eval).run P w=r at*
 have sj:LetsOut Q->LetsOut Q':=λ⟨a,w,h⟩=>⟨a,w,hQ _ _ _ (by simp) h⟩
 cases r with
 |ok x w'=>
  cases x<;>simp only[Oper.uponIn]at h2⊢<;>first
   |exact h2
   |exact⟨h2.1,agK h2.2 (λe lu he=>by cases e<;>first|exact he|exact hQ _ _ _ (by simp) he|exact sj he)⟩
   |exact⟨h2.1,agQ h2.2 (λ_ _ he=>he)⟩
   |exact⟨h2.1,agL h2.2 (λe lu he=>by cases e<;>first|exact he|exact hQ _ _ _ (by simp) he|exact sj he)⟩
 |halt x w'=>cases x<;>simp only[Oper.uponIn]at h2⊢<;>first|exact h2|exact hQ _ _ _ (by simp) h2
theorem kj{ops:Array Oper}(hQ:∀e a w,Q e a w->Q' e a w):∀(l:List Nat)(a:Act)(w:World),wpOpsIn F m P ops Q l a w->wpOpsIn F m P ops Q' l a w
 |[],a,w,h=>hQ _ _ _ h
 |i::l,a,w,h=>by
  simp only[wpOpsIn]at h⊢
  cases ho:ops[i]? with
  |none=>simp only[ho]at h⊢;exact kj hQ l a w h
  |some o=>
   simp only[ho]at h⊢;split
   .rename_i hw;rw[if_pos hw]at h;exact sO (λa w hh=>kj hQ l a w hh) (λe a w _ hh=>hQ e a w hh) h
   .rename_i hw;rw[if_neg hw]at h;exact⟨h.1,kj hQ l _ w h.2⟩
def eL(W:Nat->Bool)(a a':Act):Prop:=∀t,W t=false->a'.tmps.getD t undef=a.tmps.getD t undef
theorem eL.refl(W:Nat->Bool)(a:Act):eL W a a:=λ_ _=>rfl
theorem eL.trans{W:Nat->Bool}{a a' a'':Act}(h:eL W a a')(h':eL W a' a''):eL W a a'':=λt ht=>(h' t ht).trans (h t ht)
theorem eL.put{W:Nat->Bool}{a:Act}{d:Option Nat}(hd:∀t,d=some t->W t=true)(v:Value):eL W a (a.put d v):=by
 intro t ht
 cases d with
 |none=>rfl
 |some k=>
  have:t≠k:=by rintro rfl;rw[hd t rfl]at ht;cases ht
  simp[Act.put,adg (ad2 this)]
theorem xT{W:Nat->Bool}{o:Oper}{K:Act->World->Prop}(hd:∀t,o.dst=some t->W t=true)(h:o.wpIn F m P a w K Q):o.wpIn F m P a w (λa' w'=>K a' w'/\eL W a a') Q:=by
 unfold Oper.wpIn at*
 refine⟨h.1,?_⟩;have h2:=h.2
 generalize(o.semAt F.round a.eval).run P w=r at*
 cases r with
 |ok x w'=>
  cases x<;>simp only[Oper.uponIn]at h2⊢<;>first
   |exact⟨h2,eL.put hd _⟩
   |exact⟨h2,(eL.put (a:={ a with defers:=_ }) hd _:eL W { a with defers:=_ } _)⟩
   |exact⟨h2.1,agK h2.2 (λe lu he=>by cases e<;>first|exact⟨he,eL.put hd _⟩|exact he)⟩
   |exact⟨h2.1,agQ h2.2 (λ_ _ he=>⟨he,eL.put hd _⟩)⟩
   |exact⟨h2.1,agL h2.2 (λe lu he=>by cases e<;>first|exact⟨he,eL.put hd _⟩|exact he)⟩
 |halt x w'=>cases x<;>simp only[Oper.uponIn]at h2⊢<;>exact h2
def lY(ops:Array Oper)(W:Nat->Bool):Bool:=ops.all λo=>match o.dst with|some t=>W t|none=>true
theorem lY.spec{ops:Array Oper}{W:Nat->Bool}(h:lY ops W=true){i:Nat}{o:Oper}(ho:ops[i]?=some o):∀t,o.dst=some t->W t=true:=by
 intro t ht;have:=afv.1 h o (aeM ho);simpa[ht]using this
def Ii(W:Nat->Bool)(a:Act)(Q:Exit->Act->World->Prop):Exit->Act->World->Prop
 |.normal,a',w'=>Q .normal a' w'/\eL W a a'
 |e,a',w'=>Q e a' w'
theorem Ii.next{W:Nat->Bool}{aa4 mH:Act}(h:eL W aa4 mH):∀e a w,Ii W mH Q e a w->Ii W aa4 Q e a w:=by
 intro e a w hh
 cases e<;>first|exact hh|exact⟨hh.1,h.trans hh.2⟩
theorem mh{ops:Array Oper}{W:Nat->Bool}(hW:lY ops W=true):∀(l:List Nat)(a:Act)(w:World),wpOpsIn F m P ops Q l a w->wpOpsIn F m P ops (Ii W a Q) l a w
 |[],a,w,h=>⟨h,eL.refl _ _⟩
 |i::l,a,w,h=>by
  simp only[wpOpsIn]at h⊢
  cases ho:ops[i]? with
  |none=>simp only[ho]at h⊢;exact mh hW l a w h
  |some o=>
   simp only[ho]at h⊢;split
   .rename_i hw;rw[if_pos hw]at h;refine sO (λa' w' hh=>kj (Ii.next hh.2) l a' w' (mh hW l a' w' hh.1)) (λe a w cI hh=>?_) (xT (lY.spec hW ho) h)
    cases e<;>first|exact hh|exact absurd rfl cI
   .rename_i hw;rw[if_neg hw]at h;exact⟨h.1,kj (Ii.next (eL.put (lY.spec hW ho) _)) l _ w (mh hW l _ w h.2)⟩
theorem mu{ops:Array Oper}{md:Region.Mode}{W:Nat->Bool}(hW:lY ops W=true):∀(fuel:Nat)(l:Array Bool)(a:Act)(w:World),wpAnyIn F m P md ops Q fuel l a w->wpAnyIn F m P md ops (Ii W a Q) fuel l a w
 |0,l,a,w,h=>⟨h.1,h.2,eL.refl _ _⟩
 |k+1,l,a,w,h=>⟨fun hr=>⟨h.1 hr,eL.refl _ _⟩,fun i hi=>by
   have hs:=h.2 i hi;unfold wpOpIn at hs⊢
   cases ho:ops[i]? with
   |none=>rw[ho]at hs;exact mu hW k _ a w hs
   |some o=>
    rw[ho]at hs;simp only at hs⊢;split
    .rename_i hw;rw[if_pos hw]at hs;refine sO (λa' w' hh=>ki (Ii.next hh.2) k _ a' w' (mu hW k _ a' w' hh.1)) (λe a w cI hh=>?_) (xT (lY.spec hW ho) hs)
     cases e<;>first|exact hh|exact absurd rfl cI
    .rename_i hw;rw[if_neg hw]at hs
     exact⟨hs.1,ki (Ii.next (eL.put (lY.spec hW ho) _)) k _ _ w (mu hW k _ _ w hs.2)⟩⟩
theorem bJ (hG:aw GI) (hm:P.follows .mixedOrders=true) {id:Nat} {ops:Array Oper} {draw:Bool} (hc:kY (.region id ops draw)=true) {ac:af} (pU:d_ P n (.region id ops draw)=ac) {W:Nat→Bool} (hW:lY ops W=true) (fU:GI w) (pr:Nat→Nat→Prop) (S:av)
  (bq:a.tmps.size=n) (dZ:a.defers=[]) (hS:∀t,t<n->(S t).aG=S t/\RV pr cj w (S t) (a.tmps.getD t undef)) {K:av->aD->Prop} (h:bC P GI ac (aM K) S (λ_=>none))
  (hk:∀g S' H' a' w',g.old=Old.plain pr w->Rel P w n cm g S' H' a' w'->K S' H'->eL W a a'->Q .normal a' w'):(Code.region id ops draw).wpIn (FR ro) m P Q a w:=by
 subst pU;have R:=Rel.aav (P:=P) pr bq dZ hS
 have fin:∀e a' w',Ii W a (QQ P w n (Old.plain pr w) (aM K)) e a' w'->Q e a' w':=by
  intro e a' w' hq
  cases e with
  |normal=>
   obtain⟨⟨g',S',H',h1,h2,h3⟩,h4⟩:=hq;exact hk g' S' H' a' w' h1 h2 h3 h4
  |exit id=>obtain⟨_,_,_,_,_,h⟩:=hq;exact h.elim
  |ret=>obtain⟨_,_,_,_,_,h⟩:=hq;exact h.elim
  |panic ch=>obtain⟨_,_,_,_,_,_,_,_,_,_,h⟩:=hq;exact h.elim
  |goto l=>exact hq.elim
  |outgrown=>exact hq.elim
 simp only[d_]at h
 cases draw with
 |true=>
  simp only[adJ]at h;split at h
  case isFalse=>exact h.elim
  rename_i cP;exact afC hm (ki fin _ _ _ _ (mu hW _ _ _ _ (su hG fU hm (old:=Old.plain pr w) hc cP (λ_ _ _ _ h=>h) rfl R h)))
 |false=>
  simp only[adl,adz]at h;split at h
  case isFalse=>exact h.elim
  rename_i cP;exact adB (kj fin _ _ _ (mh hW _ _ _ (xH hG fU (old:=Old.plain pr w) hc cP (λ_ _ _ _ h=>h) rfl R h)))
theorem ug (hm:P.follows .mixedOrders=true) {id:Nat} {ops:Array Oper} {draw:Bool} (hc:kY (.region id ops draw)=true) {ac:af} (pU:d_ P n (.region id ops draw)=ac) (xU:ac.names=[]) {W:Nat→Bool} (hW:lY ops W=true) (pr:Nat→Nat→Prop) (S:av)
  {bN nm tp:Nat} {v:Value} {e ty:TypeId} {i:TypeInfo} {es es':List AV} {xs:List Value} (Y_:tp<n) (hWt:W tp=false) (acR:a.tmps.getD tp undef=.pointer (some ⟨bN,0,none⟩)) (bq:a.tmps.size=n) (dZ:a.defers=[])
  (hN:w.heap[bN]?=some (.cells #[v] ty (0,0))) (hi:P.info? e=some i) (dO:w.ownsRow (bN+1) e i.size v es.length xs) (hf:kH (λb k=>b<bN/\pr b k) w i.size es xs)
  (hS:∀t,t<n->(S t).aG=S t/\((S t=.box nm 0/\a.tmps.getD t undef=.pointer (some ⟨bN,0,none⟩))\/RV (λb k=>b<bN/\pr b k) cj w (S t) (a.tmps.getD t undef)))
  (h:bC P (λ_=>True) ac (aM λS' H'=>S' tp=.box nm 0/\H' nm=some [.slice (.own e) es']) S (λj=>if j=nm then some [ot e v es]else none))
  (nU:∀x∈es',x.cells.length=i.size/\x.storable=true/\∀c∈x.cells,c.one=true) (ID:∀x∈es',∀c∈x.cells,iC c=true)
  (hk:∀a' w' v' FY vn,a'.tmps.size=n->a'.defers=[]->eL W a a'->w'.heap[bN]?=some (.cells #[v'] FY (0,0))->w'.ownsRow (bN+1) e i.size v' es'.length vn->kH (λ_ _=>False) w' i.size es' vn->
   mV (λb=>b=bN\/v.ownBlock=some b) w w'->(∀b,v'.ownBlock=some b->v.ownBlock=some b\/w.heap.size<=b)->Q .normal a' w'):(Code.region id ops draw).wpIn (FR ro) m P Q a w:=by
 subst pU;obtain⟨g,kB,me,hg3,R⟩:=Rel.stack (P:=P) (nm:=nm) (S:=S) (a:=a) pr bq dZ hN hi dO hf hS;have au:=(ade.1 hN).1
 have fin:∀e1 a' w',Ii W a (QQ P { w with heap:=w.heap.extract 0 bN } n (rV pr w bN v) (aM λS' H'=>S' tp=.box nm 0/\H' nm=some [.slice (.own e) es'])) e1 a' w'->Q e1 a' w':=by
  intro e1 a' w' hq
  cases e1 with
  |normal=>
   obtain⟨⟨g',S',H',h1,h2,h3⟩,h4⟩:=hq
   have xu:g'.base=bN:=by rw[h2.base];simp;omega
   have kK:g'.al nm=some bN:=by
    have hs:=h2.slot tp Y_ (λhh=>hh);rw[h3.1,h4 tp hWt,acR]at hs
    cases hs with
    |data _ _ h=>cases h
    |box _ _ b h=>exact h
   obtain⟨v',FY,vn,k1,k2,k3,k4,k5⟩:=Rel.Wx (w:=w) pr hi h2 h1 xu (λb hb=>by
    show(w.heap.extract 0 bN)[b]?=w.heap[b]?
    rw[agH,if_pos (by omega),ad3]) kK h3.2 nU ID
   have kL:=h2.grown;rw[h1]at kL;refine hk a' w' v' FY vn h2.size (by rw[h2.defers,h1];rfl) h4 k1 k2 k3 ⟨h2.below.os,h2.below.tape,h2.below.output,kL,λb hb hM=>?_⟩ k5;exact k4 b hb (λh=>hM (.inl h)) (λh=>hM (.inr h))
  |exit id=>obtain⟨_,_,_,_,_,h⟩:=hq;exact h.elim
  |ret=>obtain⟨_,_,_,_,_,h⟩:=hq;exact h.elim
  |panic ch=>obtain⟨_,_,_,_,_,_,_,_,_,_,h⟩:=hq;exact h.elim
  |goto l=>exact hq.elim
  |outgrown=>exact hq.elim
 simp only[d_]at h xU
 have hb:∀(b:Nat),(rV pr w bN v).bx b->False:=λ_ h=>h
 cases draw with
 |true=>
  simp only[adJ]at h;split at h
  case isFalse=>exact h.elim
  rename_i cP;exact afC hm (ki fin _ _ _ _ (mu hW _ _ _ _ (su (GI:=λ_=>True) (λ_ _ _ _=>trivial) trivial hm hc cP (λ_ _ _ _ h=>h) kB R h)))
 |false=>
  simp only[adl,adz]at h;split at h
  case isFalse=>exact h.elim
  rename_i cP;exact adB (kj fin _ _ _ (mh hW _ _ _ (xH (GI:=λ_=>True) (λ_ _ _ _=>trivial) trivial hc cP (λ_ _ _ _ h=>h) kB R h)))
theorem Rel.xQ {w0 w':World} {g:Gh} {S':av} {H':aD} {a':Act} (R:Rel P w0 n cm g S' H' a' w') {t:Nat} (ht:t < n) {e:TypeId} {i:TypeInfo} (hi:P.info? e=some i) {es:List AV} (hS:S' t = .slice (if es.isEmpty then .nil else .own e) es)
  (nU:∀x∈es,x.cells.length=i.size/\x.storable=true/\∀c∈x.cells,c.one=true) (ID:∀x∈es,∀c∈x.cells,iC c=true):
  RD (λb j=>(g.base<=b/\b<w'.heap.size)/\j<g.hi b) w' (.slice .view es) (a'.tmps.getD t undef):=by
 have h1:=(R.slot t ht id)
 have h2:=(R.own t ht id)
 rw[hS]at h1 h2;have h1:=h1.fj rfl
 cases es with
 |nil=>exact h1.Gr
 |cons x es=>
  simp only[List.isEmpty_cons,adl,adz]at h1 h2;obtain⟨i',xs,b,k1,k2,k3,k4,k5⟩:=h2;rw[hi]at k1;cases k1;have hf:=kH.U9 h1 k2 nU ID
  refine RD.ofRow k2 (hf.mono (bl.same λ_ _ _ h=>h.elim)) λb' kg k hk=>?_
  rw[k3]at kg;cases kg;exact⟨k2.lt b k3,by rw[k5];exact hk⟩
end
section
variable{P:Program}{GI:World->Prop}{n:Nat}{S:av}{H:aD}{a:Act}{w:World}{ro:Option Nat}{m:Nat}{Q Q':Exit->Act->World->Prop}{F:Fence}
def G7(ops:Array Oper)(j d:Nat)(T:List Nat):Nat->Array Bool->Bool
 |0,l=>l.getD j false
 |k+1,l=>(Region.ready .any ops l != [] || l.getD j false) && (Region.ready .any ops l).all fun i =>
   (!l.getD j false||(match(ops[i]?).bind (·.dst)with|some t=>t !=d&&!T.contains t|none=>true))&&G7 ops j d T k (l.setIfInBounds i true)
def abp(N:Act->Prop)(Q:Exit->Act->World->Prop):Exit->Act->World->Prop
 |.normal,a,w=>Q .normal a w/\N a
 |e,a,w=>Q e a w
theorem ue {ops:Array Oper} {j d:Nat} {oj:Oper} {T:List Nat} (hj:ops[j]? = some oj) (WK:oj.guard=none) (fk:il oj.op=true) (N:Act→Prop)
  (WN:∀a a':Act,a'.tmps.getD d undef=a.tmps.getD d undef->(∀t∈T,a'.tmps.getD t undef=a.tmps.getD t undef)->N a->N a') (dv:∀(a:Act)(w:World),a.tmps.size=n->match(execOp a.eval oj).run P w with|.ok (.value v) _=>N (a.put oj.dst v)|.ok _ _=>False|.halt _ _=>True) (hW:lY ops (λt=>decide (t<n))=true):
  ∀(fuel:Nat)(l:Array Bool)(a:Act)(w:World),G7 ops j d T fuel l=true->(l.getD j false=true->N a)->l.size=ops.size->a.tmps.size=n->
   wpAnyIn (FR ro) m P .any ops Q fuel l a w->wpAnyIn (FR ro) m P .any ops (abp N Q) fuel l a w
 |0,l,a,w,h,hN,hl,bq,hh=>⟨hh.1,hh.2,hN (by simpa[G7]using h)⟩
 |k+1,l,a,w,h,hN,hl,bq,hh=>by
  simp only[G7,adb,adu,aei,af2,ne_eq]at h;refine⟨λhr=>⟨hh.1 hr,hN (h.1.resolve_left (λcI=>cI hr))⟩,λi hi=>?_⟩;obtain⟨h2,h3⟩:=h.2 i hi;have hs:=hh.2 i hi;unfold wpOpIn at hs⊢
  cases ho:ops[i]? with
  |none=>exact absurd (agc.1 hi).2 (by rw[ho];rintro⟨o,h,_⟩;cases h)
  |some o=>
   rw[ho]at hs h2;simp only[Option.bind_some]at h2 hs⊢
   have aaf:i<l.size:=by rw[hl];exact(ade.1 ho).1
   have pz:(l.setIfInBounds i true).size=ops.size:=by simpa using hl
   have next:∀(a':Act),a'.tmps.size=n->eL (λt=>o.dst==some t) a a'->i≠j->((l.setIfInBounds i true).getD j false=true->N a'):=by
    intro a' _ bb cI hlj
    have aa3:l.getD j false=true:=by
     rw[ad9,adg cI]at hlj;rwa [ad9]
    rcases h2 with h2|h2
    .rw[aa3]at h2;cases h2
    .have Hj:(o.dst==some d)=false∧∀ t∈T,(o.dst==some t)=false:=by
      cases hod:o.dst with
      |none=>simp
      |some t=>
       rw[hod]at h2;simp only[adb,af2,ne_eq,adP,afD,aew]at h2;refine⟨by simpa using h2.1,λt' tf=>?_⟩;simp only[adW,ne_eq,adS];rintro rfl;exact h2.2 tf
     exact WN a a' (bb d Hj.1) (λt ht=>bb t (Hj.2 t ht)) (hN aa3)
   have oq:∀(d':Option Nat)(v:Value)(a:Act),(a.put d' v).tmps.size=a.tmps.size:=by
    intro d' v a;cases d'<;>simp[Act.put]
   split
   .rename_i hw;rw[if_pos hw]at hs
    by_cases pK:i=j
    .subst pK;rw[hj]at ho;cases ho;unfold Oper.wpIn at hs⊢;refine⟨λ_ _=>trivial,?_⟩;have h4:=hs.2;rw[ae6 _ _ _ (λc hc=>by rw[hc]at fk;cases fk)]at h4⊢;have h5:=dv a w bq;generalize(execOp a.eval oj).run P w=r at h4 h5⊢
     cases r with
     |ok x w'=>
      cases x<;>simp only at h5
      case value v=>
       simp only[Oper.uponIn]at h4⊢;exact ue hj WK fk N WN dv hW k _ _ w' h3 (λ_=>h5) pz (by rw[oq];exact bq) h4
     |halt x w'=>cases x<;>simp only[Oper.uponIn]at h4⊢<;>exact h4
    .have qR:=xT (W:=λt=>o.dst==some t) (λt ht=>by simp[ht]) hs
     have Gc:o.wpIn (FR ro) m P a w (λa' w'=>(wpAnyIn (FR ro) m P .any ops Q k (l.setIfInBounds i true) a' w'/\eL (λt=>o.dst==some t) a a')/\a'.tmps.size=n) Q:=by
      unfold Oper.wpIn at qR⊢;refine⟨qR.1,?_⟩;have h4:=qR.2
      generalize(o.semAt (FR ro).round a.eval).run P w=r at*
      cases r with
      |ok x w'=>
       cases x<;>simp only[Oper.uponIn]at h4⊢<;>first
        |exact⟨h4,by rw[oq];exact bq⟩
        |exact⟨h4.1,agK h4.2 (λe lu he=>by cases e<;>first|exact⟨he,by rw[oq];exact bq⟩|exact he)⟩
        |exact⟨h4.1,agQ h4.2 (λ_ _ he=>⟨he,by rw[oq];exact bq⟩)⟩
        |exact⟨h4.1,agL h4.2 (λe lu he=>by cases e<;>first|exact⟨he,by rw[oq];exact bq⟩|exact he)⟩
      |halt x w'=>cases x<;>simp only[Oper.uponIn]at h4⊢<;>exact h4
     refine sO (λa' w' hh=>?_) (λe a w cI hh=>?_) Gc
     .exact ue hj WK fk N WN dv hW k _ a' w' h3 (next a' hh.2 hh.1.2 pK) pz hh.2 hh.1.1
     .cases e<;>first|exact hh|exact absurd rfl cI
   .rename_i hw;rw[if_neg hw]at hs
    have pK:i≠j:=by
     rintro rfl;rw[hj]at ho;cases ho;simp[Region.wanted,WK]at hw
    refine⟨hs.1,ue hj WK fk N WN dv hW k _ _ w h3 (next _ (by rw[oq];exact bq) (eL.put (λt ht=>by simp[ht]) _) pK) pz (by rw[oq];exact bq) hs.2⟩
theorem NP (hG:aw GI) (hm:P.follows .mixedOrders=true) {id:Nat} {ops:Array Oper} {p:Nat} (Ga:cutAt ops p=true) (fk:(ops.extract 0 p).all (fun o=>il o.op)=true) (cP:UA P n (ops.extract 0 p)=true)
  {l:List cC} (hl:cN P n true (ops.extract 0 p)=l) (jB:(ops.extract 0 p).size=p) {W:Nat->Bool} (hW:lY (ops.extract 0 p) W=true) (fU:GI w) (pr:Nat->Nat->Prop) (S:av)
  {j d:Nat} {oj:Oper} {T:List Nat} (hj:(ops.extract 0 p)[j]?=some oj) (WK:oj.guard=none) (ach:il oj.op=true) (N:Act->Prop)
  (WN:∀a a':Act,a'.tmps.getD d undef=a.tmps.getD d undef->(∀t∈T,a'.tmps.getD t undef=a.tmps.getD t undef)->N a->N a') (dv:∀(a:Act)(w:World),a.tmps.size=n->match(execOp a.eval oj).run P w with|.ok (.value v) _=>N (a.put oj.dst v)|.ok _ _=>False|.halt _ _=>True) (hWn:lY (ops.extract 0 p) (λt=>decide (t<n))=true)
  (ji:G7 (ops.extract 0 p) j d T p (Array.replicate p false)=true)
  (bq:a.tmps.size=n) (dZ:a.defers=[]) (hS:∀t,t<n->(S t).aG=S t/\RV pr cj w (S t) (a.tmps.getD t undef)) {K:av->aD->Prop}
  (h:dc P GI l K (eY l S) (dQ l (λ_=>none)))
  (hk:∀g S' H' a' w',g.old=Old.plain pr w->Rel P w n cm g S' H' a' w'->K S' H'->eL W a a'->N a'->wpOpsIn (FR ro) m P ops Q (List.range' p (ops.size-p)) a' w'):
  (Code.region id ops true).wpIn (FR ro) m P Q a w:=by
 refine Wt hm Ga ?_;have key:=su (ro:=ro) (m:=m) (a:=a) (w:=w) hG fU hm (old:=Old.plain pr w) (ops:=ops.extract 0 p) (Q:=aM K) fk cP (λ_ _ _ _ h=>h) rfl (Rel.aav pr bq dZ hS) (by subst hl;exact h);rw[jB]at key
 have acW:=ue hj WK ach N WN dv hWn p _ a _ ji (λhh=>by
  have:(Array.replicate p false).getD j false=false:=by
   rw[ad9]
   by_cases hjp:j<p
   .simp[hjp]
   .simp[hjp]
  rw[this]at hh;cases hh) (by simpa using jB.symm) bq (mu hW _ _ _ _ key)
 refine ki ?_ _ _ _ _ acW;intro e a' w' hq
 cases e with
 |normal=>
  obtain⟨⟨⟨g',S',H',h1,h2,h3⟩,h4⟩,h5⟩:=hq;exact hk g' S' H' a' w' h1 h2 h3 h4 h5
 |exit id=>obtain⟨_,_,_,_,_,h⟩:=hq;exact h.elim
 |ret=>obtain⟨_,_,_,_,_,h⟩:=hq;exact h.elim
 |panic ch=>obtain⟨_,_,_,_,_,_,_,_,_,_,h⟩:=hq;exact h.elim
 |goto l=>exact hq.elim
 |outgrown=>exact hq.elim
end
section
variable{P:Program}{n:Nat}{a:Act}{w:World}{m:Nat}{Q:Exit->Act->World->Prop}
theorem kN {o:Oper} {t:TypeId} {x:Operand} {b off:Nat} {v:Value} {d:TypeDesc} (ho:o.op = .load t x) (hx:a.eval x = .pointer (some ⟨b,off,none⟩)) (hu:P.underlying t=some d) (hd:eS d=false) (hc:w.cell? ⟨b,off,none⟩=some v) :
  (execOp a.eval o).run P w=.ok (.value v) w:=by
 have oU:(isAgg t).run P w=.ok false w:=by
  unfold isAgg;rw[ads,adH hu w]
  cases d<;>simp_all[eS]
 unfold execOp;simp[ho,hx,Instr.loadAt,Instr.sureAddr,loadVar,ads,oU,hc]
theorem gr {o:Oper} {t:TypeId} {x y:Operand} {b:Nat} {v u:Value} {ty:TypeId} {i:TypeInfo} (ho:o.op = .store t x y) (hx:a.eval x = .pointer (some ⟨b,0,none⟩)) (hi:P.info? t=some i) (hs:i.size=1) (hb:w.heap[b]? = some (.cells #[u] ty (0,0)))
  (hv:(a.eval y)=v) (h1:v.oneCell'=true):(execOp a.eval o).run P w=.ok .skip (w.setRow b #[v]):=by
 have nw:v.cells=#[v]:=by cases v<;>first|rfl|cases h1
 have dv:=agD P b 0 ty [v] 0 #[u] w hb (by simp) (λx hx=>by simp at hx;subst hx;exact h1);unfold execOp;simp only[ho,hx,hv,Instr.storeAt,Instr.sureAddr,storeVar,sizeOf,typeInfo,ads,Sem.run_pure,Result.andThen_ok,run_program,hi,hs,nw,ne_eq,ae5,adz];simp only[Nat.add_zero,List.take_zero,List.nil_append,List.length_singleton,af9,ad3]at dv
 have e:(w.setRow b ([v]++List.drop 1 #[u].toList).toArray)=w.setRow b #[v]:=by simp
 rw[e]at dv;have bq:(#[v]:Array Value).size=1:=rfl;simp only[bq,ae5,adz];rw[show storeCells ⟨b,0,none⟩ (#[v]:Array Value).toList=storeCells ⟨b,0,none⟩ [v] 0 from rfl,dv]
 rfl
theorem NZ {o:Oper} {cl:Call} {t:TypeId} {x:Operand} {ad:Option Addr} {k cap:Nat} {el:TypeId} (ho:o.op = .call cl) (ni:cl.callee = .builtin .len) (ha:cl.args = #[x]) (ht:cl.argTypes = #[t]) (hu:P.underlying t=some (.slice el)) (hx:a.eval x = .slice ad k cap) :
  (execOp a.eval o).run P w=.ok (.value (.int .i64 k)) w:=by
 unfold execOp
 have hm:(Builtin.len_ #[t] o.type #[.slice ad k cap]).run P w=.ok (.int .i64 k) w:=by simp[Builtin.len_,adH hu,goInt]
 simp[ho,ni,ha,ht,resolve,invoke,builtin,hx,hm]
theorem QM {o:Oper} {t:TypeId} {x y:Operand} {g k cap:Nat} {el:TypeId} {i:TypeInfo} (ho:o.op = .slice t x none (some y) none) (hu:P.underlying t=some (.slice el)) (hi:P.info? el=some i) (hx:a.eval x = .slice (some ⟨g,0,none⟩) (k+1) cap) (hy:a.eval y = .int .i64 k) (hk:k≤cap) :
  (execOp a.eval o).run P w=.ok (.value (.slice (some ⟨g,0,none⟩) k cap)) w:=by
 have hb:=run_sliceBound (P:=P) (w:=w) (x:=.int .i64 k) (i:=k) (y:=cap) (code:=.sliceAcap) rfl (by omega) (by omega)
 have hbs:(Instr.sliceBounds true (k+1) cap none (some (.int .i64 k)) none).run P w=.ok (0,k,cap) w:=by
  unfold Instr.sliceBounds;simp[ads,hb]
 unfold execOp;simp[ho,hx,hy,Instr.sliceAt,adH hu,Instr.slice,hbs,sizeOf,typeInfo,hi,aev]
theorem NJ {o:Oper} {t t':TypeId} {x y:Operand} {p q:Int} (ho:o.op = .binOp .sub t x y t') (hx:a.eval x = .int .i64 p) (hy:a.eval y = .int .i64 q) :
  (execOp a.eval o).run P w=.ok (.value (.int .i64 (IntKind.i64.wrap (p-q)))) w:=by
 have h0:(eqGuard .sub t x y (.int .i64 p) (.int .i64 q)).run P w=.ok () w:=jR _ _ _ _ _ _ rfl
 have h1:(binOp .sub t (.int .i64 p) (.int .i64 q)).run P w=.ok (.int .i64 (IntKind.i64.wrap (p-q))) w:=by
  simp[binOp,Op.intArith]
 simp[execOp,ho,hx,hy,h0,h1]
theorem GB {ops:Array Oper} {T el ti ti':TypeId} {p t1 t2 t3 t4 t5 bN:Nat} {o0 o1 o2 o3 o4 o5:Oper} {cl:Call} {i iT:TypeInfo} {v:Value} {ty:TypeId} {k:Nat} {xs last:List Value}
  (h0:ops[0]?=some o0) (h1:ops[1]?=some o1) (h2:ops[2]?=some o2) (h3:ops[3]?=some o3) (h4:ops[4]?=some o4) (h5:ops[5]?=some o5)
  (q0:o0.op=.load T (.tmp p)/\o0.dst=some t1/\o0.guard=none) (q1:o1.op=.load T (.tmp p)/\o1.dst=some t2/\o1.guard=none) (q2:o2.op=.call cl/\o2.dst=some t3/\o2.guard=none) (q3:o3.op=.binOp .sub ti (.tmp t3) (.const (.int .i64 1)) ti'/\o3.dst=some t4/\o3.guard=none)
  (q4:o4.op=.slice T (.tmp t1) none (some (.tmp t4)) none/\o4.dst=some t5/\o4.guard=none) (q5:o5.op=.store T (.tmp p) (.tmp t5)/\o5.dst=none/\o5.guard=none)
  (ni:cl.callee=.builtin .len) (Jj:cl.args=#[.tmp t2]) (vH:cl.argTypes=#[T]) (hu:P.underlying T=some (.slice el)) (P5:P.info? T=some iT) (PS:iT.size=1) (hi:P.info? el=some i)
  (hd:p≠t1/\p≠t2/\p≠t3/\p≠t4/\p≠t5/\t1≠t2/\t1≠t3/\t1≠t4/\t2≠t3/\t3≠t4/\t4≠t5) (bq:a.tmps.size=n) (hn:t1<n/\t2<n/\t3<n/\t4<n/\t5<n)
  (hp:a.tmps.getD p undef=.pointer (some ⟨bN,0,none⟩)) (hN:w.heap[bN]?=some (.cells #[v] ty (0,0))) (dO:w.ownsRow (bN+1) el i.size v (k+1) (xs++last)) (o_:xs.length=k*i.size) (hk:k<1000000)
  (hq:∀a' v',a'.tmps.size=n->a'.defers=a.defers->(∀t,t≠t1->t≠t2->t≠t3->t≠t4->t≠t5->a'.tmps.getD t undef=a.tmps.getD t undef)->v'.ownBlock=v.ownBlock->v.ownBlock.isSome=true->w.ownsRow (bN+1) el i.size v' k xs->Q .normal a' (w.setRow bN #[v'])):
  wpOpsIn (FR none) m P ops Q [0,1,2,3,4,5] a w:=by
 obtain⟨d1,d2,d3,d4,d5,d6,d7,d8,d9,d10,d11⟩:=hd;obtain⟨n1,n2,n3,n4,n5⟩:=hn
 have hc:w.cell? ⟨bN,0,none⟩=some v:=by simp[World.cell?,hN]
 obtain⟨g,cap,rfl⟩:∃g cap,v=.slice (some ⟨g,0,none⟩) (k+1) cap:=by
  rcases dO.2 with⟨_,h⟩|⟨g,cap,cur,h,_⟩
  .omega
  .exact⟨g,cap,h⟩
 have fF:k<=cap:=by
  rcases dO.2 with⟨h,_⟩|⟨g',Rq,cur,h,_,_,Qs,_⟩
  .cases h
  .cases h;omega
 have acF:w.ownsRow (bN+1) el i.size (.slice (some ⟨g,0,none⟩) k cap) k xs:=by
  obtain⟨_,h2⟩:=dO
  rcases h2 with⟨h0,_⟩|⟨g',Rq,cur,hv,hg,hh,hn,fF,bq,IG⟩
  .cases h0
  .cases hv;refine⟨o_,.inr ⟨g,cap,cur,rfl,hg,hh,by omega,fF,bq,?_⟩⟩
   have h3:(cur.toList.take ((k+1)*i.size)).take (k*i.size)=(xs++last).take (k*i.size):=by rw[IG]
   rw[List.take_take,Nat.min_eq_left (aeK _ (by omega))]at h3;rw[h3,<-o_,agN]
 have eB:∀(a:Act)(d t:Nat)(c:Value),t≠d->(a.put (some d) c).tmps.getD t undef=a.tmps.getD t undef:=λa d t c h=>by
  simp[Act.put,adg (ad2 h)]
 have ir:∀(a:Act)(d:Nat)(c:Value),a.tmps.size=n->d<n->(a.put (some d) c).tmps.getD d undef=c:=λa d c h hd=>by
  simp[Act.put,h,hd]
 have jm:∀(a:Act)(d:Option Nat)(c:Value),(a.put d c).tmps.size=a.tmps.size:=λa d c=>by cases d<;>simp[Act.put]
 have pW:∀(a:Act)(d:Option Nat)(c:Value),(a.put d c).defers=a.defers:=λa d c=>by cases d<;>rfl
 refine aV h0 q0.2.2 (by rw[q0.1];rfl) (kN q0.1 hp hu rfl hc) ?_;rw[q0.2.1]
 obtain⟨a1,oX⟩:∃a1,a.put (some t1) (.slice (some ⟨g,0,none⟩) (k+1) cap)=a1:=⟨_,rfl⟩
 have z1:a1.tmps.size=n:=by rw[<-oX,jm];exact bq
 have v1:a1.tmps.getD t1 undef=.slice (some ⟨g,0,none⟩) (k+1) cap:=by rw[<-oX];exact ir a t1 _ bq n1
 have p1:a1.tmps.getD p undef=.pointer (some ⟨bN,0,none⟩):=by rw[<-oX,eB _ _ _ _ d1];exact hp
 rw[oX];refine aV h1 q1.2.2 (by rw[q1.1];rfl) (kN q1.1 p1 hu rfl hc) ?_;rw[q1.2.1]
 obtain⟨a2,im⟩:∃a2,a1.put (some t2) (.slice (some ⟨g,0,none⟩) (k+1) cap)=a2:=⟨_,rfl⟩
 have z2:a2.tmps.size=n:=by rw[<-im,jm];exact z1
 have v2:a2.tmps.getD t2 undef=.slice (some ⟨g,0,none⟩) (k+1) cap:=by rw[<-im];exact ir a1 t2 _ z1 n2
 have v1:a2.tmps.getD t1 undef=.slice (some ⟨g,0,none⟩) (k+1) cap:=by rw[<-im,eB _ _ _ _ d6];exact v1
 have p2:a2.tmps.getD p undef=.pointer (some ⟨bN,0,none⟩):=by rw[<-im,eB _ _ _ _ d2];exact p1
 rw[im];refine aV h2 q2.2.2 (by rw[q2.1];rfl) (NZ q2.1 ni Jj vH hu v2) ?_;rw[q2.2.1]
 obtain⟨a3,qM⟩:∃a3,a2.put (some t3) (.int .i64 ((k+1:Nat):Int))=a3:=⟨_,rfl⟩
 have z3:a3.tmps.size=n:=by rw[<-qM,jm];exact z2
 have v3:a3.tmps.getD t3 undef=.int .i64 ((k+1:Nat):Int):=by rw[<-qM];exact ir a2 t3 _ z2 n3
 have v1:a3.tmps.getD t1 undef=.slice (some ⟨g,0,none⟩) (k+1) cap:=by rw[<-qM,eB _ _ _ _ d7];exact v1
 have p3:a3.tmps.getD p undef=.pointer (some ⟨bN,0,none⟩):=by rw[<-qM,eB _ _ _ _ d3];exact p2
 rw[qM];refine aV h3 q3.2.2 (by rw[q3.1];rfl) (NJ q3.1 v3 rfl) ?_;rw[q3.2.1]
 have hw:IntKind.i64.wrap (((k+1:Nat):Int)-1)=(k:Int):=by
  have key:∀m:Int,m=(((k+1:Nat):Int)-1) % 18446744073709551616->(if decide (m>=9223372036854775808)=true then m-18446744073709551616 else m)=(k:Int):=by
   intro m hm;split
   .rename_i hd;have:=aeQ hd;omega
   .omega
  exact key _ rfl
 rw[hw]
 obtain⟨a4,ku⟩:∃a4,a3.put (some t4) (.int .i64 (k:Int))=a4:=⟨_,rfl⟩
 have z4:a4.tmps.size=n:=by rw[<-ku,jm];exact z3
 have v4:a4.tmps.getD t4 undef=.int .i64 (k:Int):=by rw[<-ku];exact ir a3 t4 _ z3 n4
 have v1:a4.tmps.getD t1 undef=.slice (some ⟨g,0,none⟩) (k+1) cap:=by rw[<-ku,eB _ _ _ _ d8];exact v1
 have p4:a4.tmps.getD p undef=.pointer (some ⟨bN,0,none⟩):=by rw[<-ku,eB _ _ _ _ d4];exact p3
 rw[ku];refine aV h4 q4.2.2 (by rw[q4.1];rfl) (QM q4.1 hu hi v1 v4 fF) ?_;rw[q4.2.1]
 obtain⟨a5,o9⟩:∃a5,a4.put (some t5) (.slice (some ⟨g,0,none⟩) k cap)=a5:=⟨_,rfl⟩
 have z5:a5.tmps.size=n:=by rw[<-o9,jm];exact z4
 have v5:a5.tmps.getD t5 undef=.slice (some ⟨g,0,none⟩) k cap:=by rw[<-o9];exact ir a4 t5 _ z4 n5
 have p5:a5.tmps.getD p undef=.pointer (some ⟨bN,0,none⟩):=by rw[<-o9,eB _ _ _ _ d5];exact p4
 rw[o9];refine dM h5 q5.2.2 (by rw[q5.1];rfl) (gr q5.1 p5 P5 PS hN v5 rfl) ?_;rw[q5.2.1];refine hq a5 _ z5 ?_ (λt e1 e2 e3 e4 e5=>?_) rfl rfl acF
 .rw[<-o9,pW,<-ku,pW,<-qM,pW,<-im,pW,<-oX,pW]
 .rw[<-o9,eB _ _ _ _ e5,<-ku,eB _ _ _ _ e4,<-qM,eB _ _ _ _ e3,<-im,eB _ _ _ _ e2,<-oX,eB _ _ _ _ e1]
theorem lz {F:Fence} {ops:Array Oper} {Q1:Exit→Act→World→Prop} {l2:List Nat} (hQ:∀ e a w,e ≠ .normal→Q1 e a w→Q e a w) (hn:∀ a w,Q1 .normal a w→wpOpsIn F m P ops Q l2 a w) :
  ∀(l1:List Nat)(a:Act)(w:World),wpOpsIn F m P ops Q1 l1 a w->wpOpsIn F m P ops Q (l1++l2) a w
 |[],a,w,h=>hn a w h
 |i::l,a,w,h=>by
  simp only[List.cons_append,wpOpsIn]at h⊢
  cases ho:ops[i]? with
  |none=>simp only[ho]at h⊢;exact lz hQ hn l a w h
  |some o=>
   simp only[ho]at h⊢;split
   .rename_i hw;rw[if_pos hw]at h;exact sO (λa w hh=>lz hQ hn l a w hh) hQ h
   .rename_i hw;rw[if_neg hw]at h;exact⟨h.1,lz hQ hn l _ w h.2⟩
theorem jz {GI:World→Prop} {ro:Option Nat} (hG:aw GI) {ops:Array Oper} {p:Nat} {l2:List Nat} (hr:List.range ops.size=List.range p++l2) (fk:ops.all (fun o=>il o.op)=true) (cP:((cN P n false ops).take p).all (·.ok n)=true)
  {l:List cC} (hl:(cN P n false ops).take p=l) (hpn:p<=ops.size) {W:Nat->Bool} (hW:lY ops W=true) (fU:GI w) (pr:Nat->Nat->Prop) (S:av)
  (bq:a.tmps.size=n) (dZ:a.defers=[]) (hS:∀t,t<n->(S t).aG=S t/\RV pr cj w (S t) (a.tmps.getD t undef)) {K:av->aD->Prop} (h:bn P GI l K (λ_=>False) S (λ_=>none))
  (hk:∀g S' H' a' w',g.old=Old.plain pr w->Rel P w n cm g S' H' a' w'->K S' H'->eL W a a'->wpOpsIn (FR ro) m P ops Q l2 a' w') {id:Nat}:(Code.region id ops false).wpIn (FR ro) m P Q a w:=by
 refine adB ?_;rw[hr];subst hl;have R:=Rel.aav (P:=P) pr bq dZ hS
 have key:=y5 hG fU (old:=Old.plain pr w) (ops:=ops) (Q:=aM K) (S0:=S) (H0:=fun _=>none) (List.range p) (ops.toList.take p) _ S _ a w (by
   apply aeX;intro i;simp only[adI,agv]
   by_cases hi:i<p
   .have:i<ops.size:=by omega
    simp[hi,this]
   .simp[hi]) (λo qf=>by
    simp only[cN,<-afK,afA,adu,Function.comp]at cP
    exact cP o qf) (λ_ _ _ _ h=>h) rfl R (by
    simp only[cN,<-afK]at h
    exact h)
 refine lz (Q1:=Ii W a (QQ P w n (Old.plain pr w) (aM K))) (λe a w cI hq=>?_) (λa' w' hq=>?_) _ _ _ (mh hW _ _ _ (vU fk zm _ _ _ key))
 .cases e with
  |normal=>exact absurd rfl cI
  |exit id=>obtain⟨_,_,_,_,_,h⟩:=hq;exact h.elim
  |ret=>obtain⟨_,_,_,_,_,h⟩:=hq;exact h.elim
  |panic ch=>obtain⟨_,_,_,_,_,_,_,_,_,_,h⟩:=hq;exact h.elim
  |goto l=>exact hq.elim
  |outgrown=>exact hq.elim
 .obtain⟨⟨g',S',H',h1,h2,h3⟩,h4⟩:=hq;exact hk g' S' H' a' w' h1 h2 h3 h4
end
section
variable{P:Program}{GI:World->Prop}{n:Nat}{old:Old}{S:av}{H:aD}{Q:jM}
theorem Ao (hG:aw GI) {w0:World} (cT:GI w0) {ro:Option Nat} {m:Nat} {ops:Array Oper} (fk:ops.all (fun o=>il o.op)=true) {g:Gh} {a:Act} {w:World} (ho:g.old=old) (R:Rel P w0 n cm g S H a w) (l:List Nat) (os:List Oper) (hl:l.map (ops[·]?)=os.map some)
  (cP:∀o∈os,(dh P n false ops o).ok n=true) (dH:∀d,¬old.bx d) {K:av->aD->Prop} (h:bn P GI (os.map (dh P n false ops)) K (λ_=>False) S H):
  wpOpsIn (FR ro) m P ops (QQ P w0 n old (aM K)) l a w:=
 vU fk zm _ _ _ (y5 hG cT (old:=old) (ops:=ops) (Q:=aM K) (S0:=S) (H0:=H) l os g S H a w hl cP (λ_ _ _ _=>dH _) ho R h)
theorem SW.mid (hG:aw GI) {ro:Option Nat} {id p:Nat} {ops:Array Oper} {oh:Oper} {l2:List Nat} {kd lI:List Oper} (VO:ops.toList=kd++oh::lI) (hp:kd.length=p) (hr:List.range ops.size=List.range p++(p::l2)) (qN:l2.map (ops[·]?)=lI.map some)
  (fk:ops.all (λo=>il o.op)=true) (hgh:oh.guard=none) (dH:∀d,¬old.bx d)
  {lU kZ:List cC} (GH:kd.map (dh P n false ops)=lU) (RW:lI.map (dh P n false ops)=kZ) (dT:lU.all (·.ok n)=true) (Gs:kZ.all (·.ok n)=true)
  {K1:av->aD->Prop} {K2 K3:Old->av->aD->Prop} (h1:bn P GI lU K1 (λ_=>False) S H)
  (hand:∀w0 g S1 H1 a w,g.old=old->Rel P w0 n cm g S1 H1 a w->K1 S1 H1->∃v w' g2 S2 H2,((execOp a.eval oh).run P w=.ok (.value v) w'\/((execOp a.eval oh).run P w=.ok .skip w'/\v=undef))/\Rel P w0 n cm g2 S2 H2 (a.put oh.dst v) w'/\K2 g2.old S2 H2)
  (h2:∀o S H,K2 o S H->(∀d,¬o.bx d)/\bn P GI kZ (K3 o) (λ_=>False) S H) (hQ:∀o S H,K3 o S H->Q .normal o S H):SW P GI n ro (.region id ops false) Q old S H:=by
 intro w0 g a w m cT ho R;refine adB ?_;rw[hr]
 have O5:(List.range p).map (ops[·]?)=kd.map some:=by
  apply aeX;intro i;simp only[adI]
  by_cases hi:i<p
  .have h3:ops[i]? = kd[i]? := by
    rw[<-aeH,VO,aem (by omega)]
   have h4:kd[i]?=some (kd[i]'(by omega)):=ac_ (by omega);simp[hi,h3,h4]
  .have:kd[i]?=none:=adv (by omega);simp[hi,this]
 have hoh:ops[p]?=some oh:=by
  rw[<-aeH,VO,aeA (by omega)];simp[hp]
 refine lz (Q1:=QQ P w0 n old (aM K1)) (fun e a w cI hq => ?_) (fun a1 w1 hq => ?_) _ _ _ (Ao hG cT fk ho R (List.range p) kd O5 (fun o qf=>by
   subst GH;simp only[afA,adu,Function.comp]at dT
   exact dT o qf) dH (by rw[GH];exact h1))
 .cases e with
  |normal=>exact absurd rfl cI
  |exit id=>obtain⟨_,_,_,_,_,h⟩:=hq;exact h.elim
  |ret=>obtain⟨_,_,_,_,_,h⟩:=hq;exact h.elim
  |panic ch=>obtain⟨_,_,_,_,_,_,_,_,_,_,h⟩:=hq;exact h.elim
  |goto l=>exact hq.elim
  |outgrown=>exact hq.elim
 .obtain⟨g1,S1,H1,DC,R1,Uh⟩:=hq;obtain⟨v,w2,g2,S2,H2,dv,R2,ju⟩:=hand w0 g1 S1 H1 a1 w1 DC R1 Uh;obtain⟨iU,im⟩:=h2 _ _ _ ju
  have aba:il oh.op=true:=by
   have:=afv.1 fk oh (aeM hoh);exact this
  have rest:wpOpsIn (FR ro) m P ops (QS P w0 n Q) l2 (a1.put oh.dst v) w2:=by
   have:=Ao (ro:=ro) (m:=m) hG cT fk (old:=g2.old) rfl R2 l2 lI qN (λo qf=>by
    subst RW;simp only[afA,adu,Function.comp]at Gs
    exact Gs o qf) iU (by rw[RW];exact im)
   refine kj (λe a w hq=>?_) _ _ _ this
   cases e with
   |normal=>
    obtain⟨g3,S3,H3,HU,R3,Hz⟩:=hq;exact⟨g3,S3,H3,R3,by rw[HU];exact hQ _ _ _ Hz⟩
   |exit id=>obtain⟨_,_,_,_,_,h⟩:=hq;exact h.elim
   |ret=>obtain⟨_,_,_,_,_,h⟩:=hq;exact h.elim
   |panic ch=>obtain⟨_,_,_,_,_,_,_,_,_,_,h⟩:=hq;exact h.elim
   |goto l=>exact hq.elim
   |outgrown=>exact hq.elim
  rcases dv with dv|⟨dv,rfl⟩
  .exact aV hoh hgh aba dv rest
  .exact dM hoh hgh aba dv rest
variable{w0:World}{g:Gh}{a:Act}{w:World}
theorem Rel.lO(R:Rel P w0 n cm g S H a w)(o:Obj):Rel P w0 n cm { g with old:={ g.old with bf:=ar g.old.bf w.heap.size (some o) } } S H a (w.alloc o):=by
 have hb:Below w.heap.size w (w.alloc o):=(aeb _ _).alloc (adh _) _;have R':=Rel.kS R hb
 have hle:g.base<=w.heap.size:=by rw[R.base];exact R.below.size
 refine{ size:=R'.size,defers:=R'.defers,facts:=R'.facts,slot:=R'.slot,own:=λt ht hu=>(R'.own t ht hu).bf rfl λb hb=>⟨rfl,rfl,hb⟩,box:=?_,mB:=R'.mB,mr:=R'.mr,inj:=R'.inj,base:=R'.base,below:=R'.below,fresh:=R'.fresh,still:=R'.still,grown:=R'.grown,kept:=?_ }
 .intro i b hi;obtain⟨cs,vs,ty,h1,h2,h3,h4,h5,h6,h7,h8,h9⟩:=R'.box i b hi;exact⟨cs,vs,ty,h1,h2,h3,h4,h5,h6,h7,λj hj dY=>(h8 j hj dY).bf rfl λb hb=>⟨rfl,rfl,hb⟩,h9⟩
 .intro b ob h
  by_cases kW:b=w.heap.size
  .subst kW
   have:ob=o:=by simpa[ar]using h.symm
   subst this;refine⟨hle,ad4 w _,(R.fresh _ (adh _)).1,(R.fresh _ (adh _)).2,λi hi=>?_⟩;obtain⟨_,_,_,_,_,h3,_⟩:=R.box i _ hi;have:=(ade.1 h3).1;omega
  .have h:g.old.bf b=some ob:=by simpa[ar,kW]using h
   exact R'.kept b ob h
def t_(b:Nat)(ks vs:List AV):AV->AV
 |.val (.map (some b'))=>if b'=b then .map ks vs else .val (.map (some b'))
 |v=>v
theorem VB(b:Nat)(ks vs:List AV)(v:AV)(h:v.one=true):(t_ b ks vs v).one=true:=by
 unfold t_;split
 .split<;>rfl
 .exact h
theorem Rel.Q8 (R:Rel P w0 n cm g S H a w) {b:Nat} {es:Array MapEntry} {clock:Nat} (hk:g.old.bf b=some (.map es clock)) (ks vs:List AV) (iQ:ks.length=es.size) (hvl:vs.length=es.size)
  (hks:∀i (h:i<ks.length)(h':i<es.size),RD (λ_ _=>False) w ks[i] (es[i]).key) (vb:∀i (h:i<vs.length)(h':i<es.size),RD (λ_ _=>False) w vs[i] (es[i]).val)
  (hf:g.old.facts=[]):∃g',g'.old={ g.old with bf:=ar g.old.bf b none }/\Rel P w0 n cm g' (λt=>match S t with|.box i o=>.box i o|_=>.br) (λi=>(H i).map λcs=>cs.map (t_ b ks vs)) a w:=by
 obtain⟨k1,k2,k3,k4,k5⟩:=R.kept b _ hk
 let g':Gh:={ g with old:={ g.old with bf:=ar g.old.bf b none },hi:=ar g.hi b 1 }
 have wO:∀c k,g.Pr c k->g'.Pr c k:=by
  intro c k h;rcases h with h|h
  .exact .inl h
  .refine .inr ⟨h.1,?_⟩;show k<ar g.hi b 1 c
   by_cases hc:c=b
   .subst hc;rw[k3]at h;omega
   .rw[bj _ _ hc];exact h.2
 have hK:bl g.Pr g'.Pr w w:=bl.same λc k _ h=>wO c k h
 have Kf:RD g'.Pr w (.map ks vs) (.map (some b)):=by
  refine .map ks vs b es clock (.inr ⟨k1,by show 0<ar g.hi b 1 b;rw[aS];omega⟩) k2 iQ hvl (λi h h'=>(hks i h h').mono (bl.same λ_ _ _ h=>h.elim)) (λi h h'=>(vb i h h').mono (bl.same λ_ _ _ h=>h.elim))
 have abV:∀{v:AV}{c:Value},RD g.Pr w v c->RD g'.Pr w (t_ b ks vs v) c:=by
  intro v c h;unfold t_;split
  .rename_i b';split
   .rename_i hb;subst hb;cases h;exact Kf
   .exact h.mono hK
  .exact h.mono hK
 refine⟨g',rfl,{ size:=R.size,defers:=R.defers,facts:=λp hp=>(by rw[show g'.old.facts=g.old.facts from rfl,hf]at hp;cases hp),slot:=?_,own:=?_,box:=?_,mB:=?_,mr:=R.mr,inj:=R.inj,base:=R.base,below:=R.below,fresh:=?_,still:=R.still.trans hK,grown:=R.grown,kept:=?_ }⟩
 .intro t ht hu;have h:=R.slot t ht hu;show RV g'.Pr g'.al w (match S t with|.box i o=>.box i o|_=>.br) _;split
  .rename_i i o hs;rw[hs]at h;generalize a.tmps.getD t undef=c at h
   cases h with
   |data _ _ h=>cases h
   |box _ _ b h=>exact .box _ _ _ h
  .exact .br _
 .intro t ht hu;show gR P w g' (.slot t) (match S t with|.box i o=>.box i o|_=>.br) _
  split<;>trivial
 .intro i c hi;obtain⟨cs,pJ,ty,h1,h2,h3,h4,h5,h6,h7,h8,h9⟩:=R.box i c hi
  have nv:c≠b:=by rintro rfl;exact k5 i hi
  refine⟨cs.map (t_ b ks vs),pJ,ty,by simp[h1],h2,h3,by show ar g.hi b 1 c=0;rw[bj _ _ nv];exact h4,h5,by simpa using h6,λj hj dY=>?_,λj hj dY=>?_,λj hj=>?_⟩
  .simp only[adi]at hj;simp only[adp];exact abV (h7 j hj dY)
  .simp only[adi]at hj;simp only[adp];have ho:=h8 j hj dY;unfold t_;split
   .split<;>trivial
   .refine ho.bf rfl λb' kg=>⟨rfl,?_,kg⟩
    show ar g.hi b 1 b'=g.hi b';exact bj _ _ (by rintro rfl;rw[k4]at kg;cases kg)
  .simp only[adi]at hj;simp only[adp];exact VB _ _ _ _ (h9 j hj)
 .intro i cs h hu;obtain⟨gM,h1,_⟩:=adr.1 h;exact R.mB i gM h1 hu
 .intro c hc
  have nv:c≠b:=by
   rintro rfl;have:=(ade.1 k2).1;omega
  exact⟨by show ar g.hi b 1 c=0;rw[bj _ _ nv];exact(R.fresh c hc).1,(R.fresh c hc).2⟩
 .intro c ob h
  have nv:c≠b:=by rintro rfl;simp[g',ar]at h
  have h:g.old.bf c=some ob:=by simpa[g',ar,nv]using h
  obtain⟨q1,q2,q3,q4,q5⟩:=R.kept c ob h;exact⟨q1,q2,by show ar g.hi b 1 c=0;rw[bj _ _ nv];exact q3,q4,q5⟩
end
def Cw(i:Nat)(cs:List AV):AV->AV
 |.box j off=>if j=i then .ref ((cs.map AV.aG).drop off)else .box j off
 |v=>bX i v
section
variable{P:Program}{w0:World}{n:Nat}{g:Gh}{S:av}{H:aD}{a:Act}{w:World}
theorem Rel.freeze (R:Rel P w0 n cm g S H a w) {i:Nat} {cs:List AV} (hH:H i=some cs) (hf:g.old.facts=[]) :
  ∃g',g'.old=g.old/\Rel P w0 n cm g' (λt=>Cw i cs (S t)) (ar H i none) a w:=by
 obtain⟨b,hb⟩:=ags.1 (R.mB i cs hH id);obtain⟨gM,vs,ty,e0,b1,b2,b3,b4,b5,b6,b7,b8⟩:=R.box i b hb;rw[hH]at e0;cases e0
 let g':Gh:={ g with al:=ar g.al i none,hi:=ar g.hi b cs.length }
 have wO:∀c k,g.Pr c k->g'.Pr c k:=by
  intro c k h;rcases h with h|h
  .exact .inl h
  .refine .inr ⟨h.1,?_⟩;show k<ar g.hi b cs.length c
   by_cases hc:c=b
   .subst hc;rw[b3]at h;omega
   .rw[bj _ _ hc];exact h.2
 have hK:bl g.Pr g'.Pr w w:=bl.same λc k _ h=>wO c k h
 have kK:∀j c,j≠i->g.al j=some c->g'.al j=some c:=λj c hj h=>by show ar g.al i none j=_;rw[bj _ _ hj];exact h
 have hnb:∀j c,j≠i->g.al j=some c->c≠b:=by
  rintro j c hj h rfl;exact hj (R.inj j i _ h hb)
 refine⟨g',rfl,{ size:=R.size,defers:=R.defers,facts:=λp hp=>(by rw[show g'.old.facts=g.old.facts from rfl,hf]at hp;cases hp),slot:=?_,own:=?_,box:=?_,mB:=?_,mr:=λ_ h=>h.elim,inj:=?_,base:=R.base,below:=R.below,fresh:=?_,still:=R.still.trans hK,grown:=R.grown,kept:=?_ }⟩
 .intro t ht hu;have h:=R.slot t ht hu;generalize a.tmps.getD t undef=c at h;have h2:=(h.bX i kK).mono hK (λ_ _ h=>h);show RV g'.Pr g'.al w (Cw i cs (S t)) c;generalize S t=v at h h2
  cases v<;>try exact h2
  rename_i j off;simp only[Cw];simp only[bX]at h2;split
  .rename_i hj;subst hj
   have qG:∃c',c=.pointer (some ⟨c',off,none⟩)/\g.al j=some c':=by
    cases h with
    |data _ _ h=>cases h
    |box _ _ c' h=>exact⟨c',rfl,h⟩
   obtain⟨c',rfl,qi⟩:=qG;rw[hb]at qi;cases qi;refine .data _ _ (.ref _ b off (λk=>vs.getD (off+k) undef) (λk hk=>?_) (λk hk=>?_) (λk hk=>?_))
   .simp only[aeW,adp];simp only[ad8,adi]at hk;exact(AV.uV _).trans (b8 _ (by omega))
   .simp only[ad8,adi]at hk;refine⟨.inr ⟨b1,by show off+k<ar g.hi b cs.length b;rw[aS];omega⟩,?_⟩
    have:off+k<vs.size:=by omega
    simp[World.cell?,b2,this]
   .simp only[ad8,adi]at hk;simp only[aeW,adp];have hh:=b6 (off+k) (by omega) (by omega)
    have:off+k<vs.size:=by omega
    have:=hh.aG.mono hK;simpa[‹off+k<vs.size›]using this
  .rename_i hj;rw[if_neg hj]at h2;exact h2
 .intro t ht hu;have h:=R.own t ht hu;have h2:=Mr P w g (.slot t) i (S t) _ h
  have h3:gR P w g' (.slot t) (bX i (S t)) (a.tmps.getD t undef):=h2.bf rfl λc hc=>⟨rfl,by show ar g.hi b cs.length c=g.hi c;exact bj _ _ (by rintro rfl;rw[b4]at hc;cases hc),hc⟩
  show gR P w g' (.slot t) (Cw i cs (S t)) _;generalize S t=v at h3
  cases v<;>try exact h3
  simp only[Cw]
  split<;>trivial
 .intro j c hj
  have gw:j≠i:=by rintro rfl;simp[g',ar]at hj
  have dY:g.al j=some c:=by simpa[g',ar,gw]using hj
  have nv:=hnb j c gw dY;obtain⟨cs2,vs2,ty2,h1,h2,h3,h4,h5,h6,h7,h8,h9⟩:=R.box j c dY;refine⟨cs2,vs2,ty2,by rw[bj _ _ gw];exact h1,h2,h3,by show ar g.hi b cs.length c=0;rw[bj _ _ nv];exact h4,h5,h6,λk hk dP=>(h7 k hk dP).mono hK,λk hk dP=>?_,h9⟩
  refine(h8 k hk dP).bf rfl λb' kg=>⟨rfl,?_,kg⟩
  show ar g.hi b cs.length b'=g.hi b';exact bj _ _ (by rintro rfl;rw[b4]at kg;cases kg)
 .intro j cs2 h hu
  have gw:j≠i:=by rintro rfl;simp[ar]at h
  have h':H j=some cs2:=by simpa[ar,gw]using h
  show(ar g.al i none j).isSome;rw[bj _ _ gw];exact R.mB j cs2 h' hu
 .intro j k c h1 h2
  have hj:j≠i:=by rintro rfl;simp[g',ar]at h1
  have hk:k≠i:=by rintro rfl;simp[g',ar]at h2
  exact R.inj j k c (by simpa[g',ar,hj]using h1) (by simpa[g',ar,hk]using h2)
 .intro c hc
  have nv:c≠b:=by
   rintro rfl;have:=(ade.1 b2).1;omega
  exact⟨by show ar g.hi b cs.length c=0;rw[bj _ _ nv];exact(R.fresh c hc).1,(R.fresh c hc).2⟩
 .intro c ob h;obtain⟨q1,q2,q3,q4,q5⟩:=R.kept c ob h
  have nv:c≠b:=by rintro rfl;exact q5 i hb
  refine⟨q1,q2,by show ar g.hi b cs.length c=0;rw[bj _ _ nv];exact q3,q4,λj=>?_⟩;show ar g.al i none j≠some c
  by_cases hj:j=i
  .subst hj;simp[ar]
  .rw[bj _ _ hj];exact q5 j
end
section
variable{P:Program}{GI:World->Prop}{n:Nat}{old:Old}{S:av}{H:aD}{Q:jM}{ro:Option Nat}
theorem SW.ghost{c:Code}{K:Old->av->aD->Prop}(h:∀w0 g a w,g.old=old->Rel P w0 n cm g S H a w->∃g2 S2 H2,Rel P w0 n cm g2 S2 H2 a w/\K g2.old S2 H2)(hc:∀o S H,K o S H->SW P GI n ro c Q o S H):SW P GI n ro c Q old S H:=by
 intro w0 g a w m hG ho R;obtain⟨g2,S2,H2,R2,hK⟩:=h w0 g a w ho R;exact hc _ _ _ hK w0 g2 a w m hG rfl R2
theorem SW.freeze{c:Code}{i:Nat}{cs:List AV}(hH:H i=some cs)(hf:old.facts=[])(hc:SW P GI n ro c Q old (λt=>Cw i cs (S t)) (ar H i none)):SW P GI n ro c Q old S H:=by
 intro w0 g a w m hG ho R;obtain⟨g',h1,R'⟩:=R.freeze hH (by rw[ho];exact hf);exact hc w0 g' a w m hG (h1.trans ho) R'
def HQ(P:Program)(w0:World)(n:Nat)(K:Old->av->aD->Prop):Exit->Act->World->Prop
 |.normal,a,w=>∃g S H,Rel P w0 n cm g S H a w/\K g.old S H
 |_,_,_=>False
theorem SW.hand (hG:aw GI) {id p:Nat} {ops:Array Oper} {lm l2:List Nat} {kd oh lI:List Oper} (VO:ops.toList=kd++(oh++lI)) (hp:kd.length=p) (hr:List.range ops.size=List.range p++(lm++l2)) (qN:l2.map (ops[·]?)=lI.map some)
  (fk:ops.all (λo=>il o.op)=true) (dH:∀d,¬old.bx d)
  {lU kZ:List cC} (GH:kd.map (dh P n false ops)=lU) (RW:lI.map (dh P n false ops)=kZ) (dT:lU.all (·.ok n)=true) (Gs:kZ.all (·.ok n)=true)
  {K1:av->aD->Prop} {K2 K3:Old->av->aD->Prop} (h1:bn P GI lU K1 (λ_=>False) S H)
  (hand:∀w0 g S1 H1 a w m,GI w0->g.old=old->Rel P w0 n cm g S1 H1 a w->K1 S1 H1->wpOpsIn (FR ro) m P ops (HQ P w0 n K2) lm a w)
  (h2:∀o S H,K2 o S H->(∀d,¬o.bx d)/\bn P GI kZ (K3 o) (λ_=>False) S H) (hQ:∀o S H,K3 o S H->Q .normal o S H):SW P GI n ro (.region id ops false) Q old S H:=by
 intro w0 g a w m cT ho R;refine adB ?_;rw[hr]
 have O5:(List.range p).map (ops[·]?)=kd.map some:=by
  apply aeX;intro i;simp only[adI]
  by_cases hi:i<p
  .have h3:ops[i]? = kd[i]? := by
    rw[<-aeH,VO,aem (by omega)]
   have h4:kd[i]?=some (kd[i]'(by omega)):=ac_ (by omega);simp[hi,h3,h4]
  .have:kd[i]?=none:=adv (by omega);simp[hi,this]
 refine lz (Q1:=QQ P w0 n old (aM K1)) (fun e a w cI hq => ?_) (fun a1 w1 hq => ?_) _ _ _ (Ao hG cT fk ho R (List.range p) kd O5 (fun o qf=>by
   subst GH;simp only[afA,adu,Function.comp]at dT
   exact dT o qf) dH (by rw[GH];exact h1))
 .cases e with
  |normal=>exact absurd rfl cI
  |exit id=>obtain⟨_,_,_,_,_,h⟩:=hq;exact h.elim
  |ret=>obtain⟨_,_,_,_,_,h⟩:=hq;exact h.elim
  |panic ch=>obtain⟨_,_,_,_,_,_,_,_,_,_,h⟩:=hq;exact h.elim
  |goto l=>exact hq.elim
  |outgrown=>exact hq.elim
 .obtain⟨g1,S1,H1,DC,R1,Uh⟩:=hq;refine lz (Q1:=HQ P w0 n K2) (λe a w cI hq=>?_) (λa2 w2 hq=>?_) _ _ _ (hand w0 g1 S1 H1 a1 w1 m cT DC R1 Uh)
  .cases e with
   |normal=>exact absurd rfl cI
   |_=>exact hq.elim
  .obtain⟨g2,S2,H2,R2,ju⟩:=hq;obtain⟨iU,im⟩:=h2 _ _ _ ju
   have:=Ao (ro:=ro) (m:=m) hG cT fk (old:=g2.old) rfl R2 l2 lI qN (λo qf=>by
    subst RW;simp only[afA,adu,Function.comp]at Gs
    exact Gs o qf) iU (by rw[RW];exact im)
   refine kj (λe a w hq=>?_) _ _ _ this
   cases e with
   |normal=>
    obtain⟨g3,S3,H3,HU,R3,Hz⟩:=hq;exact⟨g3,S3,H3,R3,by rw[HU];exact hQ _ _ _ Hz⟩
   |exit id=>obtain⟨_,_,_,_,_,h⟩:=hq;exact h.elim
   |ret=>obtain⟨_,_,_,_,_,h⟩:=hq;exact h.elim
   |panic ch=>obtain⟨_,_,_,_,_,_,_,_,_,_,h⟩:=hq;exact h.elim
   |goto l=>exact hq.elim
   |outgrown=>exact hq.elim
end
section
variable{P:Program}{a:Act}{w:World}
theorem xG {o:Oper} {t:TypeId} {x:Operand} {s:ByteArray} (ho:o.op = .range t x) (hu:P.underlying t=some .string) (hx:a.eval x = .string s) :
  (execOp a.eval o).run P w=.ok (.value (.pointer (some ⟨w.heap.size,0,none⟩))) (w.alloc (.stringIter s 0)):=by
 unfold execOp;simp only[ho,hx,ads,run_range_string w t s hu]
 rfl
theorem Lp {o:Oper} {x:Operand} {b:Nat} {s:ByteArray} {pos:Nat} (ho:o.op = .next x true) (hx:a.eval x = .pointer (some ⟨b,0,none⟩)) (hb:w.heap[b]? = some (.stringIter s pos)) (h:pos < s.size) (ha:(s[pos]'h).toNat < 128) :
  (execOp a.eval o).run P w=.ok (.value (.tuple #[.bool true,.int .i64 pos,.int .i32 (s[pos]'h).toNat])) (w.putObj b (.stringIter s (pos+1))):=by
 unfold execOp;simp only[ho,hx,Instr.next,getObj,setObj,ads,Sem.run,hb,Result.andThen,h,adJ,decode_ascii s pos h ha];simp[goInt,Sem.run,World.putObj]
theorem so {o:Oper} {x:Operand} {b:Nat} {s:ByteArray} {pos:Nat} (ho:o.op = .next x true) (hx:a.eval x = .pointer (some ⟨b,0,none⟩)) (hb:w.heap[b]? = some (.stringIter s pos)) (h:¬ pos < s.size) :
  (execOp a.eval o).run P w=.ok (.value (.tuple #[.bool false])) w:=by
 unfold execOp;simp[ho,hx,Instr.next,getObj,Sem.run,hb,h]
end
section
variable{P:Program}{GI:World->Prop}{n:Nat}{old:Old}{S:av}{H:aD}{Q:jM}{ro:Option Nat}
theorem SW.Qe{c:Code}(I:Old->av->aD->Prop)(μ:Old->av->aD->Nat)(h0:I old S H)(hr:∀o S H,I o S H->SW P GI n ro c (thenS (λo' S' H'=>I o' S' H'/\μ o' S' H'<μ o S H) Q) o S H):SW P GI n ro (.loop c) Q old S H:=by
 intro w0 g a w m hG ho R;subst ho
 have key:∀ (k:Nat) (g:Gh) (S:av) (H:aD) (a:Act) (w:World),Rel P w0 n cm g S H a w→I g.old S H→μ g.old S H=k→∀ (b:Frame) (kk:List Item) (cs:List Frame),b.roundOf=ro→(FR ro).room (cs.length+1+m) →
   ∃e a' w',QS P w0 n Q e a' w'/\ArrivesIn (Machine.fenced P (FR ro)) P (lone (b.atR a (.code c::.inLoop c::kk)) cs w) b kk cs e a' w':=by
  intro k
  induction k using Nat.strongRecOn with
  |_ k ih=>
   intro g S H a w R hI hk b kk cs DW l5;obtain⟨e,mH,p9,hq,ld⟩:=hr g.old S H hI w0 g a w m hG rfl R b (.inLoop c::kk) cs DW trivial l5
   cases e with
   |normal=>
    obtain⟨g',S',H',h2,h3,h4⟩:=hq;obtain⟨Ly,LD,Lh,Fa,wm⟩:=ih _ (by rw[<-hk];exact h4) g' S' H' mH p9 h2 h3 rfl b kk cs DW l5;exact⟨Ly,LD,Lh,Fa,.of_steps (agR ld (.one (af6 (F:=FR ro) (fr:=b.atR mH (.inLoop c::kk)) trivial l5 rfl) ahb)) wm⟩
   |exit id=>exact⟨.exit id,mH,p9,hq,.pass (x:=.inLoop c) rfl (λ_ _=>.inl (by simp)) ld⟩
   |goto l=>exact hq.elim
   |ret=>exact⟨.ret,mH,p9,hq,.pass (x:=.inLoop c) rfl (λ_ _=>.inl (by simp)) ld⟩
   |panic ch=>exact⟨.panic ch,mH,p9,hq,.pass (x:=.inLoop c) rfl (λ_ _=>.inl (by simp)) ld⟩
   |outgrown=>exact hq.elim
 intro b kk cs DW hF l5;obtain⟨e,a',w',hq,ld⟩:=key _ g S H a w R h0 rfl b kk cs DW l5;exact⟨e,a',w',hq,.of_steps (.one (af6 (F:=FR ro) (fr:=b.atR a (.code (.loop c)::kk)) trivial l5 rfl) stepR_loop) ld⟩
end
noncomputable def VV(i:Nat)(cs:List AV)(s:TS):TS:=s.M (Cw i cs) 4
theorem W0(i:Nat)(cs:List AV)(s:TS):gT (VV i cs s)=λt=>Cw i cs (gT s t):=by
 funext t
 unfold gT VV
 cases Nat.ble 256 t with
 |true=>rfl
 |false=>exact TT.G_M b_ (Cw i cs) rfl 4 s t
noncomputable def Xi(P:Program)(call:iB)(m i:Nat)(k:Nat):af->CL:=
 Nat.rec (motive:=λ_=>af->CL)
  (λac s h=>match gU h i with
   |some cs=>match pN h i none with
    |some h'=>codeF P call m ac (VV i cs s) h'
    |none=>none
   |none=>none)
  (λ_ ih ac s h=>match ac with
   |.seq x y=>match codeF P call m x s h with
    |some (.normal,s',h')=>ih y s' h'
    |r=>r
   |_=>none) k
section
variable{P:Program}{GI:World->Prop}{call:iB}{n:Nat}{ro:Option Nat}{Q:jM}{old:Old}
theorem Uf(fg:∀f args out,call f args=some out->AC P GI f args out){m:Nat}{c:af}{s s':TS}{h h':TH}{e:dp}(hr:codeF P call m c s h=some (e,s',h')){Q:dp->av->aD->Prop}(hq:Q e (gT s') (gU h')):bC P GI c Q (gT s) (gU h):=by
 rw[codeF_eq]at hr;exact kz fg hr hq
def Rs:dp->Bool
 |.panic _=>false
 |_=>true
theorem SW.HN(hG:aw GI)(hm:P.follows .mixedOrders=true)(fg:∀f args out,call f args=some out->AC P GI f args out){m:Nat}{c:Code}(hc:kY c=true)(dH:∀d,¬old.bx d){s s':TS}{h h':TH}{e:dp}(hr:codeF P call m (d_ P n c) s h=some (e,s',h'))(hp:Rs e=true)(hq:Q e old (gT s') (gU h')):SW P GI n ro c Q old (gT s) (gU h):=by
 refine SW.og hG hm hc (λd _=>dH d) rfl (Uf fg hr ?_)
 cases e with
 |panic v=>cases hp
 |_=>exact hq
theorem J1{c:Code}{x y:af}(h:d_ P n c=.seq x y):∃x' y',c=.seq x' y'/\d_ P n x'=x/\d_ P n y'=y:=by
 cases c with
 |seq x' y'=>simp only[d_,af.seq.injEq]at h;exact⟨x',y',rfl,h.1,h.2⟩
 |region id ops draw=>
  simp only[d_]at h;split at h
  .split at h<;>cases h
  .split at h<;>cases h
 |cond c x y=>simp only[d_]at h;split at h<;>cases h
 |_=>cases h
theorem I9 (hG:aw GI) (hm:P.follows .mixedOrders=true) (fg:∀ f args out,call f args=some out→AC P GI f args out) {m i:Nat} (dH:∀ d,¬ old.bx d) (hf:old.facts=[]) :
  ∀(k:Nat){c:Code}(_:kY c=true){s s':TS}{h h':TH}{e:dp}(_:Xi P call m i k (d_ P n c) s h=some (e,s',h'))(_:Rs e=true)(_:Q e old (gT s') (gU h')),SW P GI n ro c Q old (gT s) (gU h)
 |0,c,hc,s,s',h,h',e,hr,hp,hq=>by
  have hr:(match gU h i with
   |some cs=>match pN h i none with
    |some h1=>codeF P call m (d_ P n c) (VV i cs s) h1
    |none=>none
   |none=>none)=some (e,s',h'):=hr
  split at hr
  case h_2=>cases hr
  rename_i cs vi;split at hr
  case h_2=>cases hr
  rename_i h1 hh;refine SW.freeze vi hf ?_;rw[<-W0,<-zg hh];exact SW.HN hG hm fg hc dH hr hp hq
 |k+1,c,hc,s,s',h,h',e,hr,hp,hq=>by
  have hr:(match d_ P n c with
   |.seq x y=>match codeF P call m x s h with
    |some (.normal,s1,h1)=>Xi P call m i k y s1 h1
    |r=>r
   |_=>none)=some (e,s',h'):=hr
  cases pU:d_ P n c<;>rw[pU]at hr<;>try (cases hr;done)
  rename_i xa ya;obtain⟨x,y,rfl,rfl,rfl⟩:=J1 pU;simp only[kY,adb]at hc;simp only at hr;split at hr
  .rename_i s1 h1 hx;refine SW.seq (SW.HN hG hm fg hc.1 dH hx rfl ?_);exact I9 hG hm fg dH hf k hc.2 hr hp hq
  .rename_i cI;refine SW.seq (SW.HN hG hm fg hc.1 dH hr hp ?_)
   cases e with
   |normal=>exact absurd hr (cI _ _)
   |panic v=>cases hp
   |_=>exact hq
end
noncomputable def Oj(P:Program)(call:iB)(m i k:Nat)(fn:xw)(args:List AV):Option eP:=
 bif Nat.ble args.length fn.n&&Nat.ble args.length 256 then match Xi P call m i k fn.code (DN args) (.lf none)with
  |some (.normal,_,_)=>none
  |some (.ret,s,h)=>(cy P fn.n fn.res (gT s) (gU h)).map .ret
  |_=>none
 else none
theorem Gt {P:Program} {GI:World→Prop} (hG:aw GI) (hm:P.follows .mixedOrders=true) {call:iB} (fg:∀ f args out,call f args=some out→AC P GI f args out) {m i k f:Nat} {fn:xw} (CH:∃ (F:Func) (c:Code),P.funcs[f]? = some F∧F.body=some c∧F.ntmps=fn.n∧F.results.toList=fn.res∧d_ P fn.n c=fn.code∧kY c=true)
  {args:List AV} {out:eP} (h:Oj P call m i k fn args=some out):AC P GI f args out:=by
 obtain⟨F,c,h1,h2,h3,h4,h5,h6⟩:=CH;unfold Oj at h
 cases hb:(Nat.ble args.length fn.n&&Nat.ble args.length 256)with
 |false=>rw[hb]at h;cases h
 |true=>
 rw[hb]at h;simp only[cond_true]at h;rw[adb]at hb;have hl:=afw hb.1;have qN:=afw hb.2;split at h
 .cases h
 .rename_i s hh hc;simp only[adr]at h;obtain⟨v,hv,rfl⟩:=h
  refine AC.iF h1 h2 h3 hl λcc w=>?_
  rw[<-I0 args qN,<-Su];refine I9 hG hm fg (λ_ h=>h) rfl k h6 (by rw[h5];exact hc) rfl ?_;rw[h4];exact⟨eD.plain rfl,rfl,v,hv,rfl⟩
 .cases h
section
variable{P:Program}{GI:World->Prop}{n:Nat}{w0:World}
def D4(P:Program)(GI:World->Prop)(i:Nat):Nat->af->(dp->av->aD->Prop)->av->aD->Prop
 |0,ac,Q,S,H=>∃cs,H i=some cs/\bC P GI ac Q (λt=>Cw i cs (S t)) (ar H i none)
 |k+1,.seq x y,Q,S,H=>bC P GI x (λe S' H'=>match e with
  |.normal=>D4 P GI i k y Q S' H'
  |e=>Q e S' H') S H
 |_+1,_,_,_,_=>False
theorem Q_(hG:aw GI)(cT:GI w0)(hm:P.follows .mixedOrders=true){old:Old}{i:Nat}(hf:old.facts=[])(dH:∀d,¬old.bx d):∀(k:Nat)(c:Code)(Q:dp->av->aD->Prop)(g:Gh)(S:av)(H:aD)(a:Act)(w:World),g.old=old->Rel P w0 n cm g S H a w->D4 P GI i k (d_ P n c) Q S H->c.wp P (QQ P w0 n old Q) a w
 |0,c,Q,g,S,H,a,w,ho,R,h=>by
  obtain⟨cs,hH,h⟩:=h;obtain⟨g',h1,R'⟩:=R.freeze hH (by rw[ho];exact hf);exact q' hG cT hm c _ g' _ _ a w (λd _=>dH d) (h1.trans ho) R' h
 |k+1,c,Q,g,S,H,a,w,ho,R,h=>by
  cases pU:d_ P n c<;>rw[pU]at h<;>try (exact h.elim)
  rename_i xa ya;obtain⟨x,y,rfl,rfl,rfl⟩:=J1 pU;refine wp_seq (agT (q' hG cT hm x _ g S H a w (λd _=>dH d) ho R h) ?_);intro e a' w' he
  cases e with
  |normal=>
   obtain⟨g',S',H',e1,R',h'⟩:=he;exact Q_ hG cT hm hf dH k y Q g' S' H' a' w' e1 R' h'
  |_=>exact he
theorem AC.N3 (hG:aw GI) (hm:P.follows .mixedOrders=true) {f:Nat} {fn:Func} {c:Code} {args:List AV} {out:eP} (i k:Nat) (hf:P.funcs[f]? = some fn) (hb:fn.body=some c) (hn:fn.ntmps=n) (hl:args.length≤n) {ac:af} (hc:d_ P n c=ac)
  (h:D4 P GI i k ac (post P n fn.results.toList out) (start args) (λ_=>none)):AC P GI f args out:=by
 intro w old ck fU hlen hr;refine afy hf hb ?_;subst hc;have R:Rel P w n cm _ (start args) (λ_=>none) { tmps:=ck++Array.replicate (fn.ntmps-ck.size) undef,defers:=[] } w:=Rel.begin hn hl hlen hr;refine agT (Q_ hG fU hm (old:=Old.plain old w) rfl (λ_ h=>h) k c _ _ _ _ _ w rfl R h) ?_;intro e a' w' he
 have fin:(∃ g' S H,g'.old=Old.plain old w∧Rel P w n cm g' S H a' w'∧∃ v,cy P n fn.results.toList S H=some v∧out = .ret v) →
   a'.defers=[]/\∃v,(results fn a'.tmps).run P w'=.ok v w'/\Ends P old w out (.returned v) w':=by
  rintro⟨g',S,H,e1,R',v,hv,rfl⟩;obtain⟨c,r1,r2,r3⟩:=CE R' hv;refine⟨by rw[R'.defers,e1];rfl,c,r1,?_,g'.hi,λb hb=>(R'.fresh b hb).1,c,rfl,?_,?_⟩
  .have:=R'.below;rwa [R'.base]at this
  .have:g'.Pr=vv w.heap.size old g'.hi:=by
    funext b k
    simp only[Gh.Pr,vv,R'.base,e1,Old.plain]
   rw[this]at r2;exact .data _ _ r2
  .rwa [R'.base]at r3
 cases e with
 |normal=>exact fin he
 |ret=>exact fin he
 |exit id=>obtain⟨_,_,_,_,_,h⟩:=he;exact h.elim
 |panic chain=>
  obtain⟨hd,v,c,hi,S,H,h1,h2,h3,h4,h5⟩:=he;subst h1;cases(show out=.panic v from h5);exact⟨hd,h2,hi,h3,c,rfl,h4⟩
 |goto l=>exact he.elim
 |outgrown=>exact he.elim
theorem NF{i k:Nat}{x y:af}{Q:dp->av->aD->Prop}{S:av}{H:aD}(K:av->aD->Prop)(hx:bC P GI x (λe S H=>e=.normal/\K S H) S H)(FI:∀{Q Q':dp->av->aD->Prop},(∀e S H,Q e S H->Q' e S H)->bC P GI x Q S H->bC P GI x Q' S H)(hy:∀S' H',K S' H'->D4 P GI i k y Q S' H'):D4 P GI i (k+1) (.seq x y) Q S H:=
 FI (λe S' H' h=>by obtain⟨rfl,h⟩:=h;exact hy S' H' h) hx
theorem Mx{i:Nat}{ac:af}{Q:dp->av->aD->Prop}{S:av}{H:aD}(cs:List AV)(K:av->aD->Prop)(hH:H i=some cs)(hK:K (λt=>Cw i cs (S t)) (ar H i none))(hc:∀S' H',K S' H'->bC P GI ac Q S' H'):D4 P GI i 0 ac Q S H:=⟨cs,hH,hc _ _ hK⟩
end
section
variable{P:Program}{GI:World->Prop}{w0:World}{n:Nat}{g:Gh}{S:av}{H:aD}{a:Act}{w:World}
theorem Rel.VP (R:Rel P w0 n cm g S H a w) {w':World} (hb:Below w.heap.size w w') {b:Nat} (hle:w.heap.size≤b) {o:Obj} (ho:w'.heap[b]? = some o) :
  Rel P w0 n cm { g with old:={ g.old with bf:=ar g.old.bf b (some o) } } S H a w':=by
 have R':=Rel.kS R hb
 have jq:g.base<=w.heap.size:=by rw[R.base];exact R.below.size
 refine{ size:=R'.size,defers:=R'.defers,facts:=R'.facts,slot:=R'.slot,own:=λt ht hu=>(R'.own t ht hu).bf rfl λb hb=>⟨rfl,rfl,hb⟩,box:=?_,mB:=R'.mB,mr:=R'.mr,inj:=R'.inj,base:=R'.base,below:=R'.below,fresh:=R'.fresh,still:=R'.still,grown:=R'.grown,kept:=?_ }
 .intro i c hi;obtain⟨cs,vs,ty,h1,h2,h3,h4,h5,h6,h7,h8,h9⟩:=R'.box i c hi;exact⟨cs,vs,ty,h1,h2,h3,h4,h5,h6,h7,λj hj dY=>(h8 j hj dY).bf rfl λb hb=>⟨rfl,rfl,hb⟩,h9⟩
 .intro c ob h
  by_cases kW:c=b
  .subst kW
   have:ob=o:=by simpa[ar]using h.symm
   subst this;refine⟨ael jq hle,ho,(R.fresh _ hle).1,(R.fresh _ hle).2,λi hi=>?_⟩;obtain⟨_,_,_,_,_,h3,_⟩:=R.box i _ hi;have:=(ade.1 h3).1;omega
  .have h:g.old.bf c=some ob:=by simpa[ar,kW]using h
   exact R'.kept c ob h
theorem RD.flat{Pr:Nat->Nat->Prop}{v:AV}{c:Value}(h:RD Pr w v c):Go.AL.flat v=true/\∀d,bX d v=v:=by
 have:=h.bT
 cases v<;>first|exact⟨rfl,λ_=>rfl⟩|cases this
theorem Rel.hand (R:Rel P w0 n cm g S H a w) {b:Nat} {o:Obj} (hk:g.old.bf b=some o) (m:Nat) :
  ∃g',g'.old={ g.old with bf:=ar g.old.bf b none }/\g'.base=g.base/\Rel P w0 n cm g' S H a w/\(∀c k,g.Pr c k->g'.Pr c k)/\∀k,k<m->g'.Pr b k:=by
 obtain⟨k1,k2,k3,k4,k5⟩:=R.kept b o hk
 have R1:Rel P w0 n cm { g with old:={ g.old with bf:=ar g.old.bf b none } } S H a w:=by
  refine{ size:=R.size,defers:=R.defers,facts:=R.facts,slot:=R.slot,own:=λt ht hu=>(R.own t ht hu).bf rfl λb hb=>⟨rfl,rfl,hb⟩,box:=?_,mB:=R.mB,mr:=R.mr,inj:=R.inj,base:=R.base,below:=R.below,fresh:=R.fresh,still:=R.still,grown:=R.grown,kept:=?_ }
  .intro i c hi;obtain⟨cs,vs,ty,h1,h2,h3,h4,h5,h6,h7,h8,h9⟩:=R.box i c hi;exact⟨cs,vs,ty,h1,h2,h3,h4,h5,h6,h7,λj hj dY=>(h8 j hj dY).bf rfl λb hb=>⟨rfl,rfl,hb⟩,h9⟩
  .intro c ob h
   have hc:c≠b:=by rintro rfl;simp[ar]at h
   exact R.kept c ob (by simpa[ar,hc]using h)
 have au:=(ade.1 k2).1;have R2:=R1.nJ (G:=λc=>c=b) (λ_=>m) (λc hc=>by subst hc;exact⟨⟨k1,k3,k4,k5⟩,au,aS _ _ _⟩);refine⟨Gh.nJ { g with old:={ g.old with bf:=ar g.old.bf b none } } (λc=>c=b) (λ_=>m),rfl,rfl,R2,λc k hp=>?_,λk hkm=>.inr ⟨k1,?_⟩⟩
 .rcases hp with hp|hp
  .exact .inl hp
  .refine .inr ⟨hp.1,?_⟩;simp only[Gh.nJ]
   by_cases hc:c=b
   .subst hc;rw[k3]at hp;omega
   .rw[if_neg hc];exact hp.2
 .simp only[Gh.nJ];rw[if_pos trivial];exact hkm
end
section
variable{P:Program}{GI:World->Prop}{md:Region.Mode}{ops:Array Oper}{n:Nat}
variable{w0:World}{g:Gh}{S:av}{H:aD}{a:Act}{w:World}
def Z'(l:List cC):Bool:=l.all λo=>match o.op with|.alloc ..=>false|_=>true
theorem Gu{op:fw}{dst:Option Nat}{K K':av->aD->Prop}(hK:∀S H,K S H->K' S H){S:av}{H:aD}(h:i_ P GI op dst K S H):i_ P GI op dst K' S H:=by
 cases op<;>simp only[i_,bg]at h⊢<;>(try exact h)
 case alloc=>cases dst<;>first|exact h|exact hK _ _ h
 case call f args=>
  obtain⟨hb,out,h1,h2,h3,h4⟩:=h;refine⟨hb,out,h1,h2,h3,?_⟩
  cases out with
  |ret v=>exact hK _ _ h4
  |panic v=>exact h4
 case ik f args=>
  refine⟨h.1,?_⟩;have h:=h.2;split at h
  .obtain⟨out,h1,h2,h3,h4⟩:=h;refine⟨out,h1,h2,h3,?_⟩
   cases out with
   |ret v=>exact hK _ _ h4
   |panic v=>exact h4
  .exact h.elim
 all_goals
  split at h
  .exact hK _ _ h
  .exact h.elim
end
section
variable{P:Program}{GI:World->Prop}{n:Nat}{a:Act}{w:World}{S:av}{H:aD}
theorem lH {o:Oper} {s el:TypeId} {i:TypeInfo} {x1 x2:Operand} {b m cap k:Nat} (ho:o.op = .indexAddr s x1 x2) (hs:P.underlying s=some (.slice el)) (hi:P.info? el=some i)
  (h1:a.eval x1=.slice (some ⟨b,0,none⟩) m cap) (h2:a.eval x2=.int .i64 k) (hk:k<m):(execOp a.eval o).run P w=.ok (.value (.pointer (some ⟨b,k*i.size,none⟩))) w:=by
 have Ez:(0:Int)<=k:=by omega
 have iQ:(k:Int)<m:=by omega
 simp[execOp,ho,h1,h2,Instr.indexAt,asIntOf,adH hs,Ez,iQ,sizeOf,typeInfo,hi,aev,hk]
theorem Jk {o:Oper} {s:TypeId} {fs:Array Field} {f:Field} {i:TypeInfo} {j:Nat} {x:Operand} {b off:Nat} (ho:o.op = .fieldAddr s x j) (hs:P.underlying s=some (.struct fs)) (hf:fs[j]? = some f) (hi:P.info? f.type=some i) (hz:i.size≠0)
  (hx:a.eval x=.pointer (some ⟨b,off,none⟩)):(execOp a.eval o).run P w=.ok (.value (.pointer (some ⟨b,off+f.offset,none⟩))) w:=by
 simp[execOp,ho,hx,Instr.fieldAt,adH hs,hf,Instr.sureAddr,fieldPlace,sizeOf,typeInfo,hi,hz,aev]
theorem pT(w:World){b:Nat}{cs gM:Array Value}{ty:TypeId}(h:w.heap[b]?=some (.cells cs ty (0,0))):w.setRow b gM=w.putObj b (.cells gM ty (0,0)):=by
 unfold World.setRow World.putObj
 congr 1
 apply Array.ext_getElem?;intro k;rw[Array.getElem?_modify,agP];have au:=(ade.1 h).1
 by_cases hk:b=k
 .subst hk;have e:=(ade.1 h).2;simp[au,e]
 .simp[hk]
theorem xS {o:Oper} {t:TypeId} {x y:Operand} {b off:Nat} {v:Value} {ty:TypeId} {i:TypeInfo} {arr:Array Value} (ho:o.op = .store t x y) (hx:a.eval x = .pointer (some ⟨b,off,none⟩)) (hi:P.info? t=some i) (hs:i.size=1) (hb:w.heap[b]? = some (.cells arr ty (0,0)))
  (Yg:off<arr.size) (hv:(a.eval y)=v) (h1:v.oneCell'=true):∃aaG:Array Value,(execOp a.eval o).run P w=.ok .skip (w.putObj b (.cells aaG ty (0,0)))/\aaG.size=arr.size/\∀k,aaG.getD k undef=if k=off then v else arr.getD k undef:=by
 have nw:v.cells=#[v]:=by cases v<;>first|rfl|cases h1
 have dv:=agD P b off ty [v] 0 arr w hb (by simp;omega) (λx hx=>by simp at hx;subst hx;exact h1)
 have he:(arr.toList.take off++[v]++arr.toList.drop (off+1)).toArray=arr.setIfInBounds off v:=by
  apply Array.toList_inj.1;rw[Array.toList_setIfInBounds,List.set_eq_take_append_cons_drop,if_pos (by simpa using Yg)];simp
 refine⟨arr.setIfInBounds off v,?_,by simp,λk=>?_⟩
 .rw[<-pT w hb,<-he];unfold execOp;simp only[ho,hx,hv,Instr.storeAt,Instr.sureAddr,storeVar,sizeOf,typeInfo,ads,Sem.run_pure,Result.andThen_ok,run_program,hi,hs,nw,ne_eq,ae5,adz];have bq:(#[v]:Array Value).size=1:=rfl;simp only[bq,ae5,adz];rw[show storeCells ⟨b,off,none⟩ (#[v]:Array Value).toList=storeCells ⟨b,off,none⟩ [v] 0 from rfl];simp only[Nat.add_zero,List.length_singleton]at dv;rw[dv]
  rfl
 .simp only[ad9,agP]
  by_cases hk:off=k
  .subst hk;simp[Yg]
  .rw[if_neg hk,if_neg (ad2 hk)]
end
def F7{κ:Type}(enc:κ->Value)(es:Array MapEntry)(l:List (κ×Value)):Prop:=es.size=l.length/\∀i (h:i<es.size)(h':i<l.length),(es[i]).key=enc l[i].1/\(es[i]).val=l[i].2
def pt{κ:Type}[BEq κ](k:κ):List (κ×Value)->Nat->Option (Nat×Value)
 |[],_=>none
 |(k',v)::l,i=>if(k==k')=true then some (i,v)else pt k l (i+1)
theorem F7.push{κ:Type}{enc:κ->Value}{es:Array MapEntry}{l:List (κ×Value)}(h:F7 enc es l)(k:κ)(v:Value)(born:Nat):F7 enc (es.push { key:=enc k,val:=v,born:=born }) (l++[(k,v)]):=by
 refine⟨by simp[h.1],λi hi eb=>?_⟩;rw[Array.getElem_push,List.getElem_append];have hs:=h.1
 by_cases au:i<es.size
 .rw[dif_pos au,dif_pos (by omega)];exact h.2 i au (by omega)
 .rw[dif_neg au,dif_neg (by omega)];simp
theorem F7.list{κ:Type}{enc:κ->Value}{es:Array MapEntry}{l:List (κ×Value)}(h:F7 enc es l):∀i (h:i<es.toList.length)(h':i<l.length),(es.toList[i]).key=enc l[i].1/\(es.toList[i]).val=l[i].2:=λi hi eb=>by
 have:=h.2 i (by simpa using hi) eb;simpa using this
theorem zX(k:Int):∀(es:List MapEntry)(l:List (Int×Value))(i:Nat),es.length=l.length->(∀j (h:j<es.length)(h':j<l.length),(es[j]).key=.int .i64 l[j].1/\(es[j]).val=l[j].2)->Instr.findNow (.int .i64) (.int .i64 k) es i=some (pt k l i)
 |[],[],_,_,_=>rfl
 |[],_::_,_,h,_=>by simp at h
 |_::_,[],_,h,_=>by simp at h
 |e::es,(k',v)::l,i,hl,h=>by
  obtain⟨h1,h2⟩:=h 0 (by simp) (by simp);simp only[List.getElem_cons_zero]at h1 h2;unfold Instr.findNow pt;rw[h1];simp only[Instr.sameNow,adJ]
  by_cases hk:k=k'
  .subst hk;simp[h2]
  .have:(k==k')=false:=by simpa using hk
   rw[this];simp only[adl,adz]
   exact zX k es l (i+1) (by simpa using hl) λj hj dY=>h (j+1) (afX hj) (afX dY)
section
variable{P:Program}{a:Act}{w:World}
theorem GM {o:Oper} {t kt el:TypeId} {x1 x2 x3:Operand} {b clock:Nat} {es:Array MapEntry} {k:Int} {l:List (Int×Value)} (ho:o.op = .mapUpdate t x1 x2 x3) (gE:P.underlying t=some (.map kt el)) (hu:P.underlying kt=some (.int .i64)) (h1:a.eval x1 = .map (some b)) (h2:a.eval x2 = .int .i64 k)
  (hb:w.heap[b]?=some (.map es clock)) (he:F7 (.int .i64) es l) (ji:pt k l 0=none):(execOp a.eval o).run P w=.ok .skip (w.putObj b (.map (es.push { key:=.int .i64 k,val:=a.eval x3,born:=clock }) (clock+1))):=by
 have hf:=zX k es.toList l 0 (by simpa using he.1) he.list;rw[ji]at hf;have qH:=MapKept.run_findKey (P:=P) (w:=w) hu hf
 have G1:(Instr.checkKey false 10000 kt (.int .i64 k)).run P w=.ok () w:=by
  unfold Instr.checkKey;simp[ads,adH hu]
 unfold execOp;simp only[ho,h1,h2,Instr.mapUpdate,ads,adH gE,Result.andThen_ok,af5 hb,G1,qH,ag0 _ hb]
 rfl
theorem GV {o:Oper} {t kt el:TypeId} {ie:TypeInfo} {z:Value} {x1 x2:Operand} {b clock:Nat} {es:Array MapEntry} {k:Int} {l:List (Int×Value)} (ho:o.op = .lookup t x1 x2 false) (gE:P.underlying t=some (.map kt el)) (hu:P.underlying kt=some (.int .i64)) (hi:P.info? el=some ie) (hz:ie.zero=some z)
  (h1:a.eval x1=.map (some b)) (h2:a.eval x2=.int .i64 k) (hb:w.heap[b]?=some (.map es clock)) (he:F7 (.int .i64) es l):(execOp a.eval o).run P w=.ok (.value (((pt k l 0).map (·.2)).getD z)) w:=by
 have hf:=zX k es.toList l 0 (by simpa using he.1) he.list;have qH:=MapKept.run_findKey (P:=P) (w:=w) hu hf
 have G1:∀e,(Instr.checkKey e 10000 kt (.int .i64 k)).run P w=.ok () w:=λe=>by
  unfold Instr.checkKey;simp[ads,adH hu]
 unfold execOp;simp only[ho,h1,h2,Instr.lookup,ads,adH gE,Result.andThen_ok,af5 hb,Sem.run_pure,G1,qH]
 cases pt k l 0 with
 |none=>simp[zeroValue,typeInfo,hi,hz]
 |some q=>simp
end
def NI(x y:cC):Bool:=match x.dst,x.guard,x.op,y.dst,y.guard,y.op with
 |some d,none,.loadT _ a,some d',none,.loadT _ a'=>d !=d'&&!a'.tmps.contains d&&!a.tmps.contains d'
 |_,_,_,_,_,_=>false
def xX(S:av)(x y:cC):Prop:=match x.op,y.op with
 |.loadT _ a,.loadT _ a'=>∃i o i' o',ev S a=.box i o/\ev S a'=.box i' o'/\(i≠i'\/o≠o')
 |_,_=>False
section
variable{P:Program}{GI:World->Prop}{md:Region.Mode}{ops:Array Oper}{n:Nat}
theorem WL {x y:cC} {S:av} {H:aD} {ex ey:aQ} (hs:NI x y=true) (hA:xX S x y) (hx:jg P GI x S H ex) (hy:jg P GI y (ex.S S x.dst) (ex.H H) ey) :
  ∃OJ wW,jg P GI y S H OJ/\jg P GI x (OJ.S S y.dst) (OJ.H H) wW/\wW.S (OJ.S S y.dst) x.dst=ey.S (ex.S S x.dst) y.dst/\wW.H (OJ.H H)=ey.H (ex.H H)/\OJ.dm=none:=by
 obtain⟨xd,xg,xo⟩:=x;obtain⟨yd,yg,yo⟩:=y;unfold NI at hs;split at hs
 case h_2=>cases hs
 rename_i d h a d' h' a' q1 q2 q3 q4 q5 q6;simp only at q1 q2 q3 q4 q5 q6;subst q1 q2 q3 q4 q5 q6;simp only[adb,af2,ne_eq,adP,afD,aew]at hs;obtain⟨⟨hd,Ap⟩,zi⟩:=hs;obtain⟨i,o,i',o',e1,e2,cI⟩:=hA;simp only[jg,aF,qm,aH,e1]at hx;split at hx
 case isFalse=>cases hx
 rename_i cP;split at hx
 case h_2=>cases hx
 rename_i cs vi;split at hx
 case h_2=>cases hx
 rename_i v hv;cases hx;simp only[aQ.S,aT,aQ.H]at hy
 have Pb:ev (ar S d v) a'=.box i' o':=by
  rw[<-e2];exact dj λt ht=>bj _ _ (by rintro rfl;exact Ap ht)
 simp only[jg,aF,qm,aH,Pb]at hy;split at hy
 case isFalse=>cases hy
 rename_i Dg;split at hy
 case h_2=>cases hy
 rename_i gM V4;split at hy
 case h_2=>cases hy
 rename_i v' si;cases hy
 have BG:ev (ar S d' v') a=.box i o:=by
  rw[<-e1];exact dj λt ht=>bj _ _ (by rintro rfl;exact zi ht)
 have hSc:ar (ar S d' v') d v=ar (ar S d v) d' v':=by
  funext t
  simp only[ar]
  by_cases h1:t=d
  .subst h1;simp[hd]
  .simp[h1]
 by_cases hi:i=i'
 .subst hi
  have ho:o≠o':=by rcases cI with h|h;exact absurd rfl h;exact h
  rw[aS]at V4;cases V4;rw[ag5 ho]at si;refine⟨{ v:=v',hw:=some (i,cs.set o' v'.aG) },{ v:=v,hw:=some (i,(cs.set o' v'.aG).set o v.aG) },?_,?_,hSc,?_,rfl⟩
  .simp[jg,aF,qm,aH,e2,Dg,vi,si]
  .have:(cs.set o' v'.aG)[o]?=some v:=by rw[ag5 (ad2 ho)];exact hv
   simp[jg,aF,qm,aH,aQ.S,aQ.H,aT,BG,cP,aS,this]
  .simp only[aQ.H];rw[List.set_comm _ _ (ad2 ho)]
   funext t
   simp only[ar]
   split<;>rfl
 .rw[bj _ _ (ad2 hi)]at V4;refine⟨{ v:=v',hw:=some (i',gM.set o' v'.aG) },{ v:=v,hw:=some (i,cs.set o v.aG) },?_,?_,hSc,?_,rfl⟩
  .simp[jg,aF,qm,aH,e2,Dg,V4,si]
  .simp[jg,aF,qm,aH,aQ.S,aQ.H,aT,BG,cP,bj _ _ hi,vi,hv]
  .simp only[aQ.H]
   funext t
   simp only[ar]
   by_cases h1:t=i
   .subst h1;simp[hi]
   .simp[h1]
theorem xX.bf{S S':av}{x y:cC}(h:xX S x y)(hS:∀t∈x.op.rd++y.op.rd,S' t=S t):xX S' x y:=by
 obtain⟨xd,xg,xo⟩:=x;obtain⟨yd,yg,yo⟩:=y;unfold xX at h⊢;simp only at h hS⊢;split at h
 case h_2=>exact h.elim
 obtain⟨i,o,i',o',e1,e2,cI⟩:=h;refine⟨i,o,i',o',?_,?_,cI⟩
 .rw[<-e1];exact dj λt ht=>hS t (aeu _ ht)
 .rw[<-e2];exact dj λt ht=>hS t (af_ _ ht)
def stay(P:Program)(n:Nat)(ops:Array Oper)(listed:Array Bool)(ts:List Nat):Prop:=∀k ak,ox P n ops k=some ak->listed.getD k true=false->∀t∈ts,t∉ak.writes
theorem Om {QA:av→aD→Prop} {i:Nat} {oi:cC} (hi:ox P n ops i=some oi) :
  ∀(fuel:Nat)(listed:Array Bool)(S:av)(H:aD)(e:aQ),
   (∀j o aj,ops[j]?=some o->ox P n ops j=some aj->j≠i->listed.getD j true=false->(∀ed∈o.after,Region.binds md ed=true->ed.on≠i)->oi.apart aj=true\/(NI oi aj=true/\xX S oi aj/\stay P n ops listed (oi.op.rd++aj.op.rd)))->
   i∈Region.ready md ops listed->jg P GI oi S H e->
   Gx P GI n md ops QA fuel (listed.setIfInBounds i true) (e.S S oi.dst) (e.H H)->Gx P GI n md ops QA (fuel+1) listed S H:=by
 intro fuel
 induction fuel with
 |zero=>
  intro listed S H e _ hr hy hK;refine⟨λh=>(by rw[h]at hr;cases hr),λj hj=>?_⟩
  by_cases gw:j=i
  .subst gw;unfold Rn;rw[hi];exact⟨e,hy,hK⟩
  .have:=agB hj gw;rw[hK.1]at this;cases this
 |succ fuel ih=>
  intro listed S H e vj hr hy hK;refine⟨λh=>(by rw[h]at hr;cases hr),λj hj=>?_⟩
  by_cases gw:j=i
  .subst gw;unfold Rn;rw[hi];exact⟨e,hy,hK⟩
  .have h1:=hK.2 j (agB hj gw);obtain⟨NX,o,ho,fQ⟩:=agc.1 hj
   have Ce:ox P n ops j=some (dh P n true ops o):=by simp[ox,ho]
   have YP:∀ed∈o.after,Region.binds md ed=true->ed.on≠i:=λed hed hb heq=>by
    have h1:=fQ ed hed hb;have h0:=(agc.1 hr).1;rw[heq]at h1;rcases ae1 i listed.size with h'|h'
    .simp[h']at h0 h1;rw[h0]at h1;cases h1
    .simp[agF h']at h1
   have ke:=vj j o _ ho Ce gw NX YP;unfold Rn at h1⊢;rw[Ce]at h1⊢;obtain⟨ej,TM,hKj⟩:=h1
   have abc:∀k,(listed.setIfInBounds j true).getD k true=false->listed.getD k true=false:=λk hk=>by
    by_cases ye:j=k
    .subst ye;exact NX
    .rwa [agn true ye]at hk
   have JF:∀ ej':aQ,(∀ t,ej'.dm=some t→t∈(dh P n true ops o).op.wr)→∀ k o' ak,ops[k]? = some o'→ox P n ops k=some ak→k≠i→(listed.setIfInBounds j true).getD k true=false→(∀ ed∈o'.after,Region.binds md ed=true→ed.on≠i) →
     oi.apart ak=true\/(NI oi ak=true/\xX (ej'.S S (dh P n true ops o).dst) oi ak/\stay P n ops (listed.setIfInBounds j true) (oi.op.rd++ak.op.rd)):=by
    intro ej' Df k o' ak hk XN Nh gE ji
    rcases vj k o' ak hk XN Nh (abc k gE) ji with h|⟨h1,h2,h3⟩
    .exact .inl h
    .refine .inr ⟨h1,h2.bf λt ht=>?_,λm am hm hu=>h3 m am hm (abc m hu)⟩;have:=h3 j _ Ce NX t ht;exact aQ.G_ (λh=>this (j5 (.inl h))) (λh=>this (j5 (.inr (Df t h))))
   rcases ke with ke|⟨hs,hA,_⟩
   .have Mk:=Gp ke hy TM;refine⟨ej,Mk,?_⟩;refine ih (listed.setIfInBounds j true) _ _ e (JF ej (lC TM).1) (agB hr (ad2 gw)) (GC ke Mk hy) ?_;rw[agt _ _ gw];rw[<-Lg ke (lC hy).1 (lC TM).1,<-Kn ke (lC hy).2 (lC Mk).2];exact hKj
   .obtain⟨OJ,wW,q1,q2,q3,q4,q5⟩:=WL hs hA hy TM;refine⟨OJ,q1,?_⟩;refine ih (listed.setIfInBounds j true) _ _ wW (JF OJ (λt h=>by rw[q5]at h;cases h)) (agB hr (ad2 gw)) q2 ?_;rw[agt _ _ gw,q3,q4];exact hKj
def OV(md:Region.Mode)(ops:Array Oper)(al:List cC)(p q:Nat)(listed:Array Bool)(i:Nat):Bool:=
 match al[i]? with
 |none=>false
 |some oi=>(List.range ops.size).all fun j=>j==i || listed.getD j true || match ops[j]?,al[j]? with
   |some oj,some aj=>oj.after.any (fun e=>Region.binds md e && e.on==i) || oi.apart aj ||
     (i==p&&j==q&&NI oi aj&&(List.range ops.size).all λk=>listed.getD k true||match al[k]? with
      |some ak=>(oi.op.rd++aj.op.rd).all λt=>!ak.writes.contains t
      |none=>true)
   |_,_=>true
def LS(md:Region.Mode)(ops:Array Oper)(al:List cC)(p q:Nat):List Nat->Array Bool->Bool
 |[],listed=>(Region.ready md ops listed).isEmpty
 |k::r,listed=>(Region.ready md ops listed).contains k&&OV md ops al p q listed k&&LS md ops al p q r (listed.setIfInBounds k true)
theorem OK {p q i:Nat} {oi:cC} {listed:Array Bool} {S:av} (hi:ox P n ops i=some oi) (h:OV md ops (cN P n true ops) p q listed i=true) (hS:i=p→∀ aj,ox P n ops q=some aj→xX S oi aj) (j:Nat) (o:Oper) (aj:cC)
  (hj:ops[j]?=some o) (Ce:ox P n ops j=some aj) (cI:j≠i) (gE:listed.getD j true=false) (ji:∀e∈o.after,Region.binds md e=true->e.on≠i):oi.apart aj=true\/(NI oi aj=true/\xX S oi aj/\stay P n ops listed (oi.op.rd++aj.op.rd)):=by
 simp only[OV,jK,hi,adu,adF]at h;have h1:=h j (ade.1 hj).1;simp only[hj,Ce,aei,adX,cI,agW,gE,adl,adb]at h1
 rcases h1 with(h1|h1)|⟨⟨⟨h1,h2⟩,h3⟩,h4⟩
 .obtain⟨e,he,hb⟩:=af3.1 h1;simp only[adb,adX]at hb;exact absurd hb.2 (ji e he hb.1)
 .exact .inl h1
 .subst h1 h2;refine .inr ⟨h3,hS rfl aj Ce,λk ak hk hu t ht hw=>?_⟩
  have iQ:k<ops.size:=by
   unfold ox at hk
   cases ho:ops[k]? with
   |none=>rw[ho]at hk;cases hk
   |some x=>exact(ade.1 ho).1
  have h5:=adu.1 h4 k (adF.2 iQ);simp only[hu,Bool.false_or,hk]at h5;have:=adu.1 h5 t ht;simp[hw]at this
theorem Cp{K K':av->aD->Prop}(hK:∀S H,K S H->K' S H):∀(l:List cC)(S:av)(H:aD),dc P GI l K S H->dc P GI l K' S H
 |[],_,_,h=>hK _ _ h
 |o::rest,S,H,h=>by
  simp only[dc]at h⊢;split
  .rename_i hw;simp only[hw]at h;exact Gu (λS H=>Cp hK rest S H) h
  .rename_i hw;simp only[hw]at h;exact Cp hK rest _ _ h
  .rename_i hw;simp only[hw]at h
def Ht(P:Program)(GI:World->Prop)(al:List cC)(p q:Nat)(K:av->aD->Prop):List Nat->av->aD->Prop
 |[],S,H=>K S H
 |k::r,S,H=>∃o,al[k]?=some o/\(k=p->∀aj,al[q]?=some aj->xX S o aj)/\dc P GI [o] (Ht P GI al p q K r) S H
theorem KJ {QA:av→aD→Prop} {p q:Nat}:∀ (ord:List Nat) (listed:Array Bool) (S:av) (H:aD),
  LS md ops (cN P n true ops) p q ord listed=true->Ht P GI (cN P n true ops) p q QA ord S H->Gx P GI n md ops QA ord.length listed S H
 |[],_,_,_,hB,h=>⟨by simpa[LS]using hB,h⟩
 |k::r,listed,S,H,hB,h=>by
  obtain⟨o,ha,hS,h⟩:=h;rw[jK]at ha;simp only[LS,adb]at hB;obtain⟨⟨hr,hf⟩,TQ⟩:=hB;obtain⟨e,hy,hK⟩:=BB h
  exact Om ha r.length listed S H e (OK ha hf (λhk aj Ce=>hS hk aj (by rw[jK];exact Ce))) (by simpa using hr) hy
   (KJ r _ _ _ TQ hK)
def abk(P:Program)(n:Nat)(ops:Array Oper)(p q:Nat)(ord:List Nat):Bool:=
 (cN P n true ops).all (·.ok n)&&tW .any ops (cN P n true ops)&&Z' (cN P n true ops)&&decide (ord.length=ops.size)&&LS .any ops (cN P n true ops) p q ord (Array.replicate ops.size false)
theorem LO{al:List cC}{p q:Nat}{K:av->aD->Prop}{r:List Nat}:∀(ks:List Nat)(l:List cC){S:av}{H:aD},ks.map (al[·]?)=l.map some->(∀k∈ks,k≠p)->dc P GI l (Ht P GI al p q K r) S H->Ht P GI al p q K (ks++r) S H
 |[],[],_,_,_,_,h=>h
 |[],_::_,_,_,h,_,_=>by simp at h
 |_::_,[],_,_,h,_,_=>by simp at h
 |k::ks,o::l,S,H,he,hp,h=>by
  simp only[adC,afe]at he;refine⟨o,he.1,λhk=>absurd hk (hp k (by simp)),?_⟩
  have hm:∀S H,dc P GI l (Ht P GI al p q K r) S H->Ht P GI al p q K (ks++r) S H:=λS H h=>LO ks l he.2 (λk hk=>hp k (ado _ hk)) h
  simp only[dc]at h⊢;split
  .rename_i hw;simp only[hw]at h;exact Gu hm h
  .rename_i hw;simp only[hw]at h;exact hm _ _ h
  .rename_i hw;simp only[hw]at h
end
section
variable{P:Program}{GI:World->Prop}{n:Nat}{ops:Array Oper}{S:av}{H:aD}
end
section
variable{P:Program}{GI:World->Prop}{n m:Nat}{Q:Exit->Act->World->Prop}
section
variable{ops:Array Oper}{p:Nat}{la l:Array Bool}(hp:p<=ops.size)
 (hw:∀i o,ops[i]?=some o->if i<p then∀e∈o.after,Region.binds .any e=true->e.on<i else∀j,j<p->∃e∈o.after,Region.binds .any e=true/\e.on=j)
include hp hw
end
end
section
variable{P:Program}{Q:Exit->Act->World->Prop}{ro:Option Nat}{m n:Nat}{ops:Array Oper}
structure AI(ops:Array Oper)(n:Nat)(a0:Act)(val:Nat->Value)(l:Array Bool)(a:Act):Prop where
 size:a.tmps.size=n
 defers:a.defers=a0.defers
 old:∀t:Nat,(∀(i:Nat)(o:Oper),ops[i]?=some o->o.dst≠some t)->a.tmps.getD t undef=a0.tmps.getD t undef
 got:∀(i:Nat)(o:Oper)(t:Nat),ops[i]?=some o->o.dst=some t->l.getD i false=true->a.tmps.getD t undef=val t
section
variable{a:Act}{w:World}
theorem L9 {i:Nat} {rest:List Nat} {o:Oper} (ho:ops[i]? = some o) (hw:Region.wanted o (yielded ops a.tmps)=true) (fk:il o.op=true) {v:Value} {w':World}
  (hr:(execOp a.eval o).run P w=.ok (.value v) w') (hk:wpOpsIn (FR ro) m P ops Q rest (a.put o.dst v) w'):wpOpsIn (FR ro) m P ops Q (i::rest) a w:=by
 simp only[wpOpsIn,ho];rw[if_pos hw];refine⟨λ_ _=>trivial,?_⟩;rw[ae6 _ _ _ (λc hc=>by rw[hc]at fk;cases fk),hr];exact hk
end
end
section
variable{P:Program}{GI:World->Prop}{w0:World}{n:Nat}{g:Gh}{S:av}{H:aD}{a:Act}{w:World}
theorem Rel.V8 (R:Rel P w0 n cm g S H a w) (d:Nat) (hd:d < n) (dH:¬ g.old.bx d) (cs:List AV) (vs:Array Value) (ty:TypeId) (hr:vh g.Pr w cs vs)
  (ho:∀(g':Gh) j (h:j<cs.length)(h':j<vs.size),(cs[j]).qQ/\gR P w g' (.cell d j) cs[j] vs[j]):
  ∃g',g'.base=g.base/\g'.old=g.old/\g'.hi=g.hi/\g'.owner=g.owner/\g'.al d=some w.heap.size/\Rel P w0 n cm g' (ar (λt=>bX d (S t)) d (.box d 0)) (ar H d (some cs)) (a.put (some d) (.pointer (some ⟨w.heap.size,0,none⟩))) (w.alloc (.cells vs ty)):=by
 have R1:=R.suspend d dH (.box d 0) cs;have R2:=R1.Oz d (.inr rfl) hd cs vs ty (aS _ _ _) (aS _ _ _) hr.1 hr.2.1 (λj h h'=>ho _ j h h') hr.2.2;rw[Nx]at R2;exact⟨{ g with al:=ar (ar g.al d none) d (some w.heap.size) },rfl,rfl,rfl,rfl,aS _ _ _,R2⟩
theorem IN{o:Oper}{t:TypeId}{it:TypeInfo}{z:Value}(ho:o.op=.alloc t)(hi:P.info? t=some it)(hz:it.zero=some z):(execOp a.eval o).run P w=.ok (.value (.pointer (some ⟨w.heap.size,0,none⟩))) (w.alloc (.cells z.cells t)):=by
 unfold execOp;simp[ho,Instr.alloc,zeroValue,typeInfo,hi,hz,newVar,newRow]
theorem D_ {o:Oper} {t:TypeId} {x y:Operand} {b:Nat} {c:Value} {vs:Array Value} {ty:TypeId} {i:TypeInfo} (ho:o.op = .store t x y) (hx:a.eval x = .pointer (some ⟨b,0,none⟩)) (hi:P.info? t=some i) (hb:w.heap[b]? = some (.cells vs ty (0,0))) (hy:a.eval y=c)
  (bq:c.cells.size=i.size) (vb:vs.size=i.size) (nu:∀u∈c.cells.toList,u.oneCell'=true):(execOp a.eval o).run P w=.ok .skip (w.setRow b c.cells):=by
 have dv:=agD P b 0 ty c.cells.toList 0 vs w hb (by simp;omega) nu
 have e:(vs.toList.take 0++c.cells.toList++vs.toList.drop (0+c.cells.toList.length)).toArray=c.cells:=by
  simp[aes,bq,vb]
 simp only[Nat.add_zero]at dv;rw[e]at dv;unfold execOp;simp only[ho,hx,hy,Instr.storeAt,Instr.sureAddr,storeVar,sizeOf,typeInfo,ads,Sem.run_pure,Result.andThen_ok,run_program,hi,bq,ne_eq,ae5,adz];rw[show storeCells ⟨b,0,none⟩ c.cells.toList=storeCells ⟨b,0,none⟩ c.cells.toList 0 from rfl,dv]
 rfl
end
end Go.AL
namespace Go.Proofs.Tryz
open Go.AL
noncomputable def codeOf(f:Go.Func):Go.Code:=match f.body with|some c=>c|none=>f.body.get!
abbrev Ev(n:Nat)(f:Go.Func):={c:af//d_ prog n (codeOf f)=c}
def _root_.Go.Code.cA:Go.Code->Go.Code
 |.seq x _=>x
 |.cond _ x _=>x
 |c=>c
def _root_.Go.Code.cB:Go.Code->Go.Code
 |.seq _ y=>y
 |.cond _ _ y=>y
 |.block _ c=>c
 |.loop c=>c
 |c=>c
noncomputable def _root_.Go.Func.cO(f:Go.Func):Go.Code:=match f.body with|some c=>c|none=>f.body.get!
@[simp] noncomputable def bu(n:Nat)(c:Go.Code){a:af}(_h:d_ prog n c=a:=by conv=>lhs;cbv):af:=a
end Go.Proofs.Tryz
namespace Go.AL
theorem aN{n:Int}(h: -9223372036854775808<=n/\n<9223372036854775808):IntKind.i64.wrap n=n:=by
 have key:∀m:Int,m=n % 18446744073709551616->(if decide (m>=9223372036854775808)=true then m-18446744073709551616 else m)=n:=by
  intro m hm;split
  .rename_i hd;have:=aeQ hd;omega
  .rename_i hd
   have hd':¬m>=9223372036854775808:=λhh=>hd (aeN hh)
   omega
 exact key _ rfl
def ints(l:List Int):List AV:=l.map (.int .i64)
theorem cb(l:List Int):(ints l).length=l.length:=by simp[ints]
theorem dk(l:List Int)(i:Nat)(h:i<(ints l).length):(ints l)[i]=.int .i64 (l[i]'(by simpa[ints]using h)):=by simp[ints]
def vI(l:List Int):AV:=.slice .view (ints l)
def int(n:Int):AV:=.int .i64 n
theorem bl.of_eq{Pr eR:Nat->Nat->Prop}{w w':World}(h:∀b k,Pr b k->eR b k/\w'.heap[b]?=w.heap[b]?):bl Pr eR w w':={
 cell b k hp u hu:=⟨(h b k hp).1,by rw[afi (w:=w) (h b k hp).2];exact hu⟩
 map b hp es c hm:=⟨(h b 0 hp).1,by rw[(h b 0 hp).2];exact hm⟩ }
theorem RV.eE{Pr:Nat->Nat->Prop}{al:Nat->Option Nat}{w:World}{b:Bool}{c:Value}(h:RV Pr al w (.bool b) c):c=.bool b:=by
 cases h;rename_i h;cases h;rfl
theorem RV.int_eq{Pr:Nat->Nat->Prop}{al:Nat->Option Nat}{w:World}{k:IntKind}{n:Int}{c:Value}(h:RV Pr al w (.int k n) c):c=.int k n:=by
 cases h;rename_i h;cases h;rfl
theorem RV.fG{Pr:Nat->Nat->Prop}{al:Nat->Option Nat}{w:World}{v c:Value}(h:RV Pr al w (.val v) c):c=v:=by
 cases h;rename_i h;cases h;rfl
theorem fM{P:Program}{ro:Option Nat}{m:Nat}{c:Code}{Q:Exit->Act->World->Prop}{a:Act}{w:World}(A:Act->Prop)(ha:A a)(h:∀a,A a->c.wpIn (FR ro) m P Q a w):c.wpIn (FR ro) m P Q a w:=h a ha
theorem sc {P:Program} {a:Act} {w:World} {ro:Option Nat} {m:Nat} {Q:Exit→Act→World→Prop} {ops:Array Oper} {i:Nat} {rest:List Nat} {o:Oper} (ho:ops[i]? = some o) (hg:o.guard=none) (fk:il o.op=true) {f:Nat} {args:Array Value} {w':World}
    (hr:(execOp a.eval o).run P w=.ok (.enter f args) w') {R:Ending->World->Prop} (hc:Calls P f args w' R)
    (hk:∀e lu,R e lu->match e with|.returned v=>wpOpsIn (FR ro) m P ops Q rest (a.put o.dst v) lu|.panicked ch=>Q (.panic ch) a lu|.outgrown=>False):wpOpsIn (FR ro) m P ops Q (i::rest) a w:=by
  simp only[wpOpsIn,ho]
  have:Region.wanted o (yielded ops a.tmps)=true:=by simp[Region.wanted,hg]
  rw[if_pos this];refine⟨λ_ _=>trivial,?_⟩;rw[ae6 _ _ _ (λc hc=>by rw[hc]at fk;cases fk),hr];refine⟨λh=>by simp[FR,Fence.wide]at h,jw.2 (hc.mono λe lu hh=>?_)⟩;have:=hk e lu hh
  cases e with
  |returned v=>exact this
  |panicked ch=>exact this
  |outgrown=>exact this.elim
theorem xJ {P:Program} {a:Act} {w:World} {m:Nat} {Q:Exit→Act→World→Prop} {ops:Array Oper} {i:Nat} {rest:List Nat} {o:Oper} (ho:ops[i]? = some o) (hg:o.guard=none) {d:Deferred} {w':World}
    (hr:(execOp a.eval o).run P w=.ok (.defer d) w') (hk:wpOpsIn (FR none) m P ops Q rest ({ a with defers:=d::a.defers }.put o.dst undef) w'):wpOpsIn (FR none) m P ops Q (i::rest) a w:=by
  simp only[wpOpsIn,ho]
  have:Region.wanted o (yielded ops a.tmps)=true:=by simp[Region.wanted,hg]
  rw[if_pos this];refine⟨λ_ _=>trivial,?_⟩;show Oper.uponIn _ _ _ _ _ _ _ ((Oper.semAt none a.eval o).run P w);rw[Oper.semAt_none,hr];exact hk
section
variable{P:Program}{GI:World->Prop}{n:Nat}{ro:Option Nat}{old:Old}{S:av}{H:aD}{Q:jM}
theorem SW.cut (hG:aw GI) (hm:P.follows .mixedOrders=true) {x y:Code} (hc:kY x=true) {ac:af} (pU:d_ P n x=ac) (dH:∀ d∈ac.names,¬ old.bx d) (K:av→aD→Prop) (h:bC P GI ac (aM K) S H)
  (hy:∀S' H',K S' H'->SW P GI n ro y Q old S' H'):SW P GI n ro (.seq x y) Q old S H:=by
 subst pU;intro w0 g a w m cT ho R;refine adk (afl (ma hG cT hm x (aM K) g S H a w hc dH ho R h) ?_);intro e a' w' hq
 cases e with
 |normal=>
  obtain⟨g',S',H',h1,h2,h3⟩:=hq;exact hy S' H' h3 w0 g' a' w' m cT h1 h2
 |exit id=>obtain⟨_,_,_,_,_,h⟩:=hq;exact h.elim
 |ret=>obtain⟨_,_,_,_,_,h⟩:=hq;exact h.elim
 |panic ch=>obtain⟨_,_,_,_,_,_,_,_,_,_,h⟩:=hq;exact h.elim
 |goto l=>exact hq.elim
 |outgrown=>exact hq.elim
end
section
variable{P:Program}{GI:World->Prop}{n:Nat}{ro:Option Nat}{old:Old}{S:av}{H:aD}{Q:jM}{b:Frame}{a:Act}{k:List Item}{cs:List Frame}{w:World}
theorem OG{c:Code}:step P (lone (b.atR a (.code (.scope c)::k)) cs w)=.next (lone (b.atR a (.code c::.inScope c::k)) cs w):=
 step_lone_go (by simp[stepG,stepG.exec,Frame.atR])
theorem J5{c:Code}:step P (lone (b.atR a (.inScope c::k)) cs w)=.next (lone (b.atR a k) cs w):=
 step_lone_go (by simp[stepG,stepG.exec,Frame.atR])
theorem SW.scope{c:Code}(h:SW P GI n ro c Q old S H):SW P GI n ro (.scope c) Q old S H:=by
 intro w0 g a w m hG ho R b k cs DW hF hr;obtain⟨e,mH,p9,hq,ld⟩:=h w0 g a w m hG ho R b (.inScope c::k) cs DW hF hr
 have s1:StepsIn (Machine.fenced P (FR ro)) P (lone (b.atR a (.code (.scope c)::k)) cs w) (lone (b.atR a (.code c::.inScope c::k)) cs w):=
  .one (af6 (F:=FR ro) (fr:=b.atR a (.code (.scope c)::k)) trivial hr rfl) OG
 have ex:∀id,exitTo id (.inScope c::k)=exitTo id k:=λid=>by simp[exitTo]
 refine⟨e,mH,p9,hq,.of_steps s1 ?_⟩
 cases e with
 |normal=>exact agR ld (.one (af6 (F:=FR ro) (fr:=b.atR mH (.inScope c::k)) trivial hr rfl) J5)
 |exit id=>exact⟨λk' hk=>ld.1 k' (by rw[ex];exact hk),λhh hk=>ld.2 hh (by rw[ex];exact hk)⟩
 |goto l=>exact hq.elim
 |ret=>exact ld
 |panic ch=>exact ld
 |outgrown=>exact hq.elim
theorem SW.label{l:Nat}(h:Q .normal old S H):SW P GI n ro (.label l) Q old S H:=
 λ_ g _ _ _ _ ho R=>wpIn_label ⟨g,S,H,R,by rw[ho];exact h⟩
end
section
theorem gK {P:Program} {a:Act} {o:Oper} {cl:Call} {k:Nat} {args:Array Value} (w:World) (ho:o.op = .call cl) (hc:cl.callee = .value (.func k)) (ha:cl.args.map a.eval=args) (hk:dX P k=true) :
  (execOp a.eval o).run P w=.ok (.enter k args) w:=by
 unfold execOp;simp only[ho,eU hc,show a.eval (.func k)=.func (.func k) #[] #[]from rfl,Deferred.ofValue,ads,Sem.run_pure,Result.andThen_ok,invoke,ag_,aha,ha];rw[gy hk]
theorem bB(a:Act)(d t:Nat)(c:Value)(hd:d<a.tmps.size):(a.put (some d) c).eval (.tmp t)=if t=d then c else a.eval (.tmp t):=iH a d t c hd
theorem jD(a:Act)(d:Option Nat)(c:Value):(a.put d c).tmps.size=a.tmps.size:=by cases d<;>simp[Act.put]
end
end Go.AL
namespace Go.AL
open Go.RowKit
section
variable{P:Program}{GI:World->Prop}{n:Nat}{a:Act}{w w0:World}{m:Nat}{Q:Exit->Act->World->Prop}{g:Gh}{S:av}{H:aD}{ro:Option Nat}
theorem gG (R:Rel P w0 n cm g S H a w) (hG:aw GI) (cT:GI w0) (hm:P.follows .mixedOrders=true) {id:Nat} {ops:Array Oper} {draw:Bool} (hc:kY (.region id ops draw)=true) {ac:af} (pU:d_ P n (.region id ops draw)=ac) {W:Nat→Bool} (hW:lY ops W=true)
  (dH:∀d,¬g.old.bx d) {K:av->aD->Prop} (h:bC P GI ac (aM K) S H)
  (hk:∀g' S' H' a' w',g'.old=g.old->Rel P w0 n cm g' S' H' a' w'->K S' H'->eL W a a'->Q .normal a' w'):(Code.region id ops draw).wpIn (FR ro) m P Q a w:=by
 subst pU
 have fin:∀e a' w',Ii W a (QQ P w0 n g.old (aM K)) e a' w'->Q e a' w':=by
  intro e a' w' hq
  cases e with
  |normal=>
   obtain⟨⟨g',S',H',h1,h2,h3⟩,h4⟩:=hq;exact hk g' S' H' a' w' h1 h2 h3 h4
  |exit id=>obtain⟨_,_,_,_,_,h⟩:=hq;exact h.elim
  |ret=>obtain⟨_,_,_,_,_,h⟩:=hq;exact h.elim
  |panic ch=>obtain⟨_,_,_,_,_,_,_,_,_,_,h⟩:=hq;exact h.elim
  |goto l=>exact hq.elim
  |outgrown=>exact hq.elim
 simp only[d_]at h
 cases draw with
 |true=>
  simp only[adJ]at h;split at h
  case isFalse=>exact h.elim
  rename_i cP;exact afC hm (ki fin _ _ _ _ (mu hW _ _ _ _ (su hG cT hm hc cP (λ_ _ _ _=>dH _) rfl R h)))
 |false=>
  simp only[adl,adz]at h;split at h
  case isFalse=>exact h.elim
  rename_i cP;exact adB (kj fin _ _ _ (mh hW _ _ _ (xH hG cT hc cP (λ_ _ _ _=>dH _) rfl R h)))
theorem jy{o:Oper}{t:TypeId}{z:Value}(ho:o.op=.alloc t)(hz:(P.info? t).bind (·.zero)=some z):(execOp a.eval o).run P w=.ok (.value (.pointer (some ⟨w.heap.size,0,none⟩))) (w.alloc (.cells z.cells t)):=by
 obtain⟨it,h1,h2⟩:=aep.1 hz;unfold execOp;simp[ho,Instr.alloc,zeroValue,typeInfo,h1,h2,newVar,newRow]
theorem lP{o:Oper}{fn:Fn}{c:Array Operand}(ho:o.op=.makeFunc fn #[] c):(execOp a.eval o).run P w=.ok (.value (.func fn #[] (c.map a.eval))) w:=by
 simp[execOp,ho,Instr.makeFunc]
end
section
variable{P:Program}{GI:World->Prop}{n:Nat}{ro:Option Nat}{old:Old}{S:av}{H:aD}{Q:jM}{a:Act}{w:World}
theorem run_makeMap{o:Oper}{t:TypeId}(ho:o.op=.makeMap t none):(execOp a.eval o).run P w=.ok (.value (.map (some w.heap.size))) (w.alloc (.map #[] 0)):=by
 unfold execOp;simp[ho,Instr.makeMap,run_newObj_alloc]
theorem Jh {o:Oper} {t kt el:TypeId} {fs:Array Field} {k:Nat} {x1 x2 x3:Operand} {b clock:Nat} {es:Array MapEntry} {key:List Int} {val:Value} {ks vs:List AV} {Pr:Nat→Nat→Prop} (ho:o.op = .mapUpdate t x1 x2 x3)
  (gE:P.underlying t=some (.map kt el)) (hu:P.underlying kt=some (.struct fs)) (hk:rC P 10000 kt=some k) (h1:a.eval x1=.map (some b)) (h2:a.eval x2=.agg (kv key)) (h3:a.eval x3=val)
  (hb:w.heap[b]?=some (.map es clock)) (hl:key.length=k) (iQ:ks.length=es.size) (hvl:vs.length=es.size) (hks:∀i (h:i<ks.length)(h':i<es.size),RD Pr w ks[i] (es[i]).key) (vb:∀i (h:i<vs.length)(h':i<es.size),RD Pr w vs[i] (es[i]).val)
  (ji:oF key ks vs=some none):(execOp a.eval o).run P w=.ok .skip (w.putObj b (.map (es.push { key:=.agg (kv key),val:=val,born:=clock }) (clock+1))):=by
 have xB:(match P.underlying kt with|some (.array _ _)|some (.struct _)=>true|_=>false)=true:=by rw[hu]
 have G1:=CX (P:=P) (w:=w) false 10000 kt k hk key hl;simp only[vq,hu]at G1;obtain⟨q,q1,q2⟩:=qk (w:=w) (Pr:=Pr) hu hk key hl ks vs es.toList 0 none (by simpa using iQ) (by simpa using hvl) (λj h h'=>by simpa using hks j h (by simpa using h')) (λj h h'=>by simpa using vb j h (by simpa using h')) ji
 have hq:q=none:=by cases q with|none=>rfl|some p=>exact q2.elim
 subst hq;have qH:=(run_findKey_eq (P:=P) (w:=w) xB (.agg (kv key)) es.toList).trans q1;unfold execOp;simp only[ho,h1,h2,h3,Instr.mapUpdate,ads,adH gE,Result.andThen_ok,af5 hb,G1,qH,ag0 _ hb]
 rfl
end
section
variable{P:Program}{GI:World->Prop}{n m:Nat}{a:Act}{w w0:World}{Q:Exit->Act->World->Prop}{g:Gh}{S:av}{H:aD}{ro:Option Nat}
theorem BC {o:Oper} {s el:TypeId} {len:Nat} {i:TypeInfo} {x1 x2:Operand} {b off k:Nat} (ho:o.op = .indexAddr s x1 x2) (hs:P.underlying s=some (.array len el)) (hi:P.info? el=some i)
  (h1:a.eval x1=.pointer (some ⟨b,off,none⟩)) (h2:a.eval x2=.int .i64 k) (hk:k<len):(execOp a.eval o).run P w=.ok (.value (.pointer (some ⟨b,off+k*i.size,none⟩))) w:=by
 have Ez:(0:Int)<=k:=by omega
 have iQ:(k:Int)<len:=by omega
 simp[execOp,ho,h1,h2,Instr.indexAt,asIntOf,adH hs,Ez,iQ,sizeOf,typeInfo,hi,aev,hk,Instr.sureAddr]
theorem uC {o:Oper} {t:TypeId} {d:TypeDesc} {x:Operand} {b off:Nat} {v:Value} {vs:Array Value} {ty:TypeId} (ho:o.op = .load t x) (hx:a.eval x = .pointer (some ⟨b,off,none⟩)) (hd:P.underlying t=some d) (hd':eS d=false) (hb:w.heap[b]? = some (.cells vs ty (0,0))) (hv:vs[off]? = some v) :
  (execOp a.eval o).run P w=.ok (.value v) w:=by
 refine kN ho hx hd hd' ?_;simp[World.cell?,hb,hv]
theorem AI.bf{ops:Array Oper}{a0:Act}{val:Nat->Value}{l:Array Bool}(h:AI ops n a0 val l a){t:Nat}(ht:ops.all (λo=>o.dst !=some t)=true):a.tmps.getD t undef=a0.tmps.getD t undef:=
 h.old t λi o ho hd=>by
  have:=afv.1 ht o (aeM ho);simp[hd]at this
theorem AI.at{ops:Array Oper}{a0:Act}{val:Nat->Value}{l:Array Bool}(h:AI ops n a0 val l a)(i t:Nat)(ho:∃o,ops[i]?=some o/\o.dst=some t)(hl:l.getD i false=true):a.tmps.getD t undef=val t:=by
 obtain⟨o,h1,h2⟩:=ho;exact h.got i o t h1 h2 hl
end
section
variable{P:Program}{GI:World->Prop}{n m:Nat}{a:Act}{w w0:World}{Q:Exit->Act->World->Prop}{g:Gh}{S:av}{H:aD}{ro:Option Nat}
theorem C4{κ:Type}[BEq κ][LawfulBEq κ]{k:κ}:∀{l:List (κ×Value)}{i:Nat},(∀x∈l,x.1≠k)->pt k l i=none
 |[],_,_=>rfl
 |(k',v)::l,i,h=>by
  have h1:k'≠k:=h (k',v) (by simp);unfold pt;rw[if_neg (by simpa using ad2 h1)]
  exact C4 λx hx=>h x (ado _ hx)
end
section
variable{P:Program}{GI:World->Prop}{n m:Nat}{a:Act}{w:World}{Q:Exit->Act->World->Prop}{S:av}{ro:Option Nat}
end
section
variable{P:Program}{n m:Nat}{a:Act}{w:World}{Q:Exit->Act->World->Prop}{ro:Option Nat}
def DG(P:Program)(t j:Nat):Option (Nat×Nat):=match P.underlying t with
 |some (.struct fs)=>match fs[j]? with
  |some f=>match P.info? f.type with
   |some i=>some (f.offset,i.size)
   |none=>none
  |none=>none
 |_=>none
theorem oV{o:Oper}{s j aaO sz:Nat}{x:Operand}{b off:Nat}(h:DG P s j=some (aaO,sz))(hz:sz≠0)(ho:o.op=.fieldAddr s x j)(hx:a.eval x=.pointer (some ⟨b,off,none⟩)):(execOp a.eval o).run P w=.ok (.value (.pointer (some ⟨b,off+aaO,none⟩))) w:=by
 unfold DG at h;split at h
 .rename_i fs fE;split at h
  .rename_i f hf;split at h
   .rename_i i hi;simp only[adS,agj]at h;obtain⟨rfl,rfl⟩:=h;exact Jk ho fE hf hi hz hx
   .cases h
  .cases h
 .cases h
end
section
variable{P:Program}{GI:World->Prop}{n m:Nat}{a:Act}{w:World}{Q:Exit->Act->World->Prop}{ro:Option Nat}
def Sa(o:Oper):List Nat:=(o.after.toList.filter (Region.binds .any ·)).map (·.on)
def ZA(ops:Array Oper):Nat->List Nat->List Nat
 |0,s=>s
 |k+1,s=>ZA ops k (if s.contains k then s++((ops[k]?).map Sa).getD []else s)
section
variable{ops:Array Oper}{p:Nat}{la l:Array Bool}(hp:p<=ops.size)
 (hw:∀i o,ops[i]?=some o->if i<p then∀e∈o.after,Region.binds .any e=true->e.on<i else∀j,j<p->j∈ZA ops i (Sa o))
include hp hw
end
end
def RO{α:Type}(P:Program)(x:Sem α):Prop:=∀w r w',x.run P w=.ok r w'->w'=w
def NK{α:Type}(P:Program)(x:Sem α):Prop:=∀w r w',x.run P w≠.ok r w'
section
variable{P:Program}{α β:Type}
theorem RO.pure(a:α):RO P (Pure.pure a:Sem α):=λw r w' h=>by
 have:(Pure.pure a:Sem α).run P w=.ok a w:=rfl;rw[this]at h;cases h;rfl
theorem RO.bind{x:Sem α}{f:α->Sem β}(hx:RO P x)(hf:∀a,RO P (f a)):RO P (x >>= f):=λw r w' h=>by
 rw[ads]at h
 cases hr:x.run P w with
 |ok a w1=>
  rw[hr]at h;have h1:=hf a w1 r w' h;rw[h1,hx w a w1 hr]
 |halt e w1=>rw[hr]at h;cases h
theorem NK.ro{x:Sem α}(h:NK P x):RO P x:=λw r w' hh=>absurd hh (h w r w')
theorem NK.bind{x:Sem α}{f:α->Sem β}(hf:∀a,NK P (f a)):NK P (x >>= f):=λw r w' h=>by
 rw[ads]at h
 cases hr:x.run P w with
 |ok a w1=>rw[hr]at h;exact hf a w1 r w' h
 |halt e w1=>rw[hr]at h;cases h
theorem NK.abn{x:Sem α}{f:α->Sem β}(hx:NK P x):NK P (x >>= f):=λw r w' h=>by
 rw[ads]at h
 cases hr:x.run P w with
 |ok a w1=>exact hx w a w1 hr
 |halt e w1=>rw[hr]at h;cases h
theorem NK.halt(e:Halt):NK P (.halt e:Sem α):=λw r w' h=>by cases h
theorem RO.load(m:Mode)(a:Addr):RO P (.load m a .pure):=λw r w' h=>by
 simp only[Sem.run]at h;split at h
 .cases h;rfl
 .split at h
  .cases h;rfl
  .cases h
theorem RO.underlying(t:TypeId):RO P (Go.underlying t):=λw r w' h=>by
 simp only[Go.underlying,program]at h;rw[ads]at h;simp only[Sem.run,Result.andThen]at h;split at h
 .cases h;rfl
 .cases h
theorem RO.typeInfo(t:TypeId):RO P (Go.typeInfo t):=λw r w' h=>by
 simp only[Go.typeInfo,program]at h;rw[ads]at h;simp only[Sem.run,Result.andThen]at h;split at h
 .cases h;rfl
 .cases h
theorem RO.sizeOf(t:TypeId):RO P (Go.sizeOf t):=(RO.typeInfo t).bind λ_=>RO.pure _
theorem RO.isAgg(t:TypeId):RO P (Go.isAgg t):=(RO.underlying t).bind λd=>by split<;>exact RO.pure _
theorem RO.loadCellsFrom(a:Addr):∀(n i:Nat)(acc:Array Value),RO P (Go.loadCellsFrom a i n acc)
 |0,_,_=>RO.pure _
 |n+1,i,acc=>(RO.load _ _).bind λ_=>RO.loadCellsFrom a n _ _
theorem RO.loadVar(t:TypeId)(a:Addr):RO P (Go.loadVar t a):=by
 unfold Go.loadVar
 refine(RO.isAgg t).bind λb=>?_
 cases b
 .exact RO.load _ _
 .exact(RO.sizeOf t).bind λn=>(RO.loadCellsFrom a n 0 #[]).bind λ_=>RO.pure _
theorem RO.sureAddr(v:Value):RO P (Instr.sureAddr v):=by
 unfold Instr.sureAddr;split
 .exact RO.pure _
 .exact(NK.halt _).ro
theorem RO.loadAt(t:TypeId)(v:Value):RO P (Instr.loadAt t v):=(RO.sureAddr v).bind λa=>RO.loadVar t a
theorem RO.asIntOf(v:Value):RO P (Go.asIntOf v):=by
 unfold Go.asIntOf;split
 .exact RO.pure _
 .exact(NK.halt _).ro
 .exact(NK.halt _).ro
theorem NK.bounds(k:IntKind)(x y:Int)(c:BoundsCode):NK P (boundsPanic k x y c:Sem α):=by
 have h:∀s:Bool,NK P (runtimePanic (.bounds (IntKind.i64.wrap x) y s c):Sem α):=λs=>NK.bind λp=>NK.halt _
 unfold boundsPanic;dsimp only;split
 .exact NK.bind h
 .exact NK.bind h
theorem RO.indexAt(t:TypeId)(x ix:Value):RO P (Instr.indexAt t x ix):=by
 have key:∀ (k:IntKind) (i:Int) (b:Option Addr) (len:Nat) (elem:TypeId),RO P (do
   let d<-Go.underlying t
   let acp:Bool:=decide (len<=1)&&(match d with|.array ..=>true|_=>false)
   match b with
   |some a=>
    if 0<=i/\i<(len:Int)then do
     let sz<-Go.sizeOf elem
     Pure.pure (Value.pointer (some (a.add (i.toNat*sz))))
    else if acp=true then unsupported (Unsupported.noEntry "op/indexAddr.an index out of range at an array of length 0 or 1 (ledger 616)")
    else boundsPanic k i len BoundsCode.index
   |none=>boundsPanic k i 0 BoundsCode.index):=by
  intro k i b len elem
  refine(RO.underlying t).bind λd=>?_
  cases b with
  |some a=>
   simp only;split
   .exact(RO.sizeOf _).bind λ_=>RO.pure _
   .generalize(decide (len<=1)&&_)=tn;cases tn
    .exact(NK.bounds _ _ _ _).ro
    .exact(NK.halt _).ro
  |none=>exact(NK.bounds _ _ _ _).ro
 unfold Instr.indexAt
 refine(RO.asIntOf ix).bind λ⟨k,i⟩=>?_
 refine(RO.underlying t).bind λd=>?_
 dsimp only;split
 .exact(RO.sureAddr _).bind λ_=>(RO.pure _).bind λ⟨base,len,elem⟩=>key k i base len elem
 .exact(RO.pure _).bind λ⟨base,len,elem⟩=>key k i base len elem
 .exact(NK.abn (NK.halt _)).ro
theorem abB{ρ:Operand->Value}{o:Oper}(h:match o.op with|.move _|.assign _|.load ..|.indexAddr ..=>true|_=>false):RO P (execOp ρ o):=by
 unfold execOp
 split at h<;>try cases h
 .rename_i x e;simp only[e];exact RO.pure _
 .rename_i x e;simp only[e];exact RO.pure _
 .rename_i t x e;simp only[e];exact(RO.loadAt _ _).bind λ_=>RO.pure _
 .rename_i t x ix e;simp only[e];exact(RO.indexAt _ _ _).bind λ_=>RO.pure _
theorem nz{ρ:Operand->Value}{o:Oper}(h:match o.op with|.move _|.assign _|.load ..|.indexAddr ..=>true|_=>false){w w':World}{x:Next}(hr:(execOp ρ o).run P w=.ok x w'):w'=w/\∃v,x=.value v:=by
 refine⟨abB h w x w' hr,?_⟩
 have key:∀(s:Sem Value),(do let v<-s;pure (Next.value v):Sem Next).run P w=.ok x w'->∃v,x=.value v:=λs hs=>by
  rw[ads]at hs
  cases hq:s.run P w with
  |ok a w1=>rw[hq]at hs;cases hs;exact⟨_,rfl⟩
  |halt e w1=>rw[hq]at hs;cases hs
 unfold execOp at hr
 split at h<;>try cases h
 .rename_i x e;simp only[e]at hr;cases hr;exact⟨_,rfl⟩
 .rename_i x e;simp only[e]at hr;cases hr;exact⟨_,rfl⟩
 .rename_i t x e;simp only[e]at hr;exact key _ hr
 .rename_i t x ix e;simp only[e]at hr;exact key _ hr
end
section
variable{P:Program}{ops ops':Array Oper}{Q:Exit->Act->World->Prop}{m:Nat}
structure MG(ops ops':Array Oper):Prop where
 size:ops'.size=ops.size
 each:∀(i:Nat)(o:Oper),ops[i]?=some o->∃o',ops'[i]?=some o'/\o'.dst=o.dst/\o'.after=o.after/\o'.guard=none/\o.guard=none
theorem MG.ready(h:MG ops ops')(l:Array Bool):Region.ready .any ops' l=Region.ready .any ops l:=by
 unfold Region.ready;rw[h.size]
 refine List.filter_congr λi hi=>?_
 have hi:=adF.1 hi;obtain⟨o',ru,_,ha,_⟩:=h.each i _ (aej hi);rw[ru,aej hi];simp only[Option.map_some,Option.getD_some,ha]
theorem Nk (bb:MG ops ops') (I:Array Bool→Act→World→Prop)
  (jP:∀(i:Nat)(o o':Oper)(l:Array Bool)(a:Act)(w:World),ops[i]?=some o->ops'[i]?=some o'->l.size=ops.size->l.getD i true=false->I l a w->(∀e∈o.after,Region.binds .any e=true->l.getD e.on false=true)->
   (o.semAt none a.eval).run P w=(o'.semAt none a.eval).run P w/\((∀a' w',I (l.setIfInBounds i true) a' w')\/
    ∀x w',(o.semAt none a.eval).run P w=.ok x w'->∃v,x=.value v/\I (l.setIfInBounds i true) (a.put o.dst v) w')):
  ∀(fuel:Nat)(l:Array Bool)(a:Act)(w:World),l.size=ops.size->I l a w->wpAnyIn (FR none) m P .any ops' Q fuel l a w->wpAnyIn (FR none) m P .any ops Q fuel l a w:=by
 intro fuel
 induction fuel with
 |zero=>
  intro l a w _ _ h;exact⟨(bb.ready l)▸h.1,h.2⟩
 |succ fuel ih=>
  intro l a w hl hI h;refine⟨λhr=>h.1 (by rw[bb.ready];exact hr),λi hi=>?_⟩;have h1:=h.2 i (by rw[bb.ready];exact hi);obtain⟨gE,o,ho,fQ⟩:=agc.1 hi;obtain⟨o',ru,hd,ha,z7,hg⟩:=bb.each i o ho;obtain⟨he,hx⟩:=jP i o o' l a w ho ru hl gE hI fQ
  have pz:(l.setIfInBounds i true).size=ops.size:=by simpa using hl
  have hw:Region.wanted o (yielded ops a.tmps)=true:=by simp[Region.wanted,hg]
  have LW:Region.wanted o' (yielded ops' a.tmps)=true:=by simp[Region.wanted,z7]
  simp only[wpOpIn,ru,LW,adJ]at h1;simp only[wpOpIn,ho,hw,adJ]
  have hu:∀K r,o'.uponIn (FR none) m P a K Q r=o.uponIn (FR none) m P a K Q r:=λK r=>by unfold Oper.uponIn;rw[hd]
  have h2:o.wpIn (FR none) m P a w (wpAnyIn (FR none) m P .any ops' Q fuel (l.setIfInBounds i true)) Q:=by
   refine⟨λ_ _=>trivial,?_⟩;have h3:=h1.2;rw[hu]at h3
   change o.uponIn (FR none) m P a _ Q ((o'.semAt none a.eval).run P w)at h3
   change o.uponIn (FR none) m P a _ Q ((o.semAt none a.eval).run P w)
   rw[he];exact h3
  rcases hx with hx|hx
  .exact agO (λa' w' hh=>ih _ _ _ pz (hx a' w') hh) h2
  .refine⟨h2.1,?_⟩;have h3:=h2.2
   change o.uponIn (FR none) m P a _ Q ((o.semAt none a.eval).run P w)at h3
   change o.uponIn (FR none) m P a _ Q ((o.semAt none a.eval).run P w)
   cases hr:(o.semAt none a.eval).run P w with
   |ok x w'=>
    rw[hr]at h3;obtain⟨v,rfl,hv⟩:=hx x w' hr;simp only[Oper.uponIn_value]at h3⊢;exact ih _ _ _ pz hv h3
   |halt x w'=>
    rw[hr]at h3
    cases x<;>exact h3
def DQ(h:Nat->Op->Op)(ops:Array Oper):Array Oper:=ops.mapIdx λi o=>{ o with op:=h i o.op }
theorem BS(h:Nat->Op->Op)(i:Nat):(DQ h ops)[i]?=(ops[i]?).map λo=>{ o with op:=h i o.op }:=by
 simp[DQ]
theorem GP(h:Nat->Op->Op)(hg:ops.all (λo=>o.guard.isNone)=true):MG ops (DQ h ops):=by
 refine⟨by simp[DQ],λi o ho=>⟨{ o with op:=h i o.op },by rw[BS,ho];rfl,rfl,rfl,?_,?_⟩⟩
 all_goals
  have:=afv.1 hg o (aeM ho);simpa using this
end
section
variable{P:Program}{GI:World->Prop}{n:Nat}{ops ops':Array Oper}{S:av}{H:aD}
theorem SW.Yh (hG:aw GI) (hm:P.follows .mixedOrders=true) {old:Old} {Q:jM} {id:Nat} (bb:MG ops ops') (fk:ops'.all (fun o=>il o.op)=true) (cP:abk P n ops' ops'.size ops'.size (List.range ops'.size)=true)
  {l:List cC} (hl:cN P n true ops'=l)
  (hI:∀(w0:World)(g:Gh)(a:Act)(w:World),g.old=old->Rel P w0 n cm g S H a w->∃I:Array Bool->Act->World->Prop,I (Array.replicate ops.size false) a { w with drawn:=w.drawn+1 }/\
   ∀(i:Nat)(o o':Oper)(l:Array Bool)(a:Act)(w:World),ops[i]?=some o->ops'[i]?=some o'->l.size=ops.size->l.getD i true=false->I l a w->(∀e∈o.after,Region.binds .any e=true->l.getD e.on false=true)->
    (o.semAt none a.eval).run P w=(o'.semAt none a.eval).run P w/\((∀a' w',I (l.setIfInBounds i true) a' w')\/
     ∀x w',(o.semAt none a.eval).run P w=.ok x w'->∃v,x=.value v/\I (l.setIfInBounds i true) (a.put o.dst v) w'))
  (h:dc P GI l (λS H=>Q .normal old S H) S H):SW P GI n none (.region id ops true) Q old S H:=by
 subst hl;intro w0 g a w m cT ho R;simp only[abk,adb,adf]at cP;obtain⟨⟨⟨⟨q1,q2⟩,q3⟩,q4⟩,q5⟩:=cP
 have ji:∀j o d z,ox P n ops' j=some o->bQ o=some (d,z)->False:=λj o d z hj hz=>by
  rw[<-jK]at hj;have:=adu.1 q3 o (aet hj);unfold bQ at hz;split at hz
  .rename_i h _;rw[h]at this;cases this
  .cases hz
 have R0:Rel P w0 n cm g S H a { w with drawn:=w.drawn+1 }:=R.kS ((aeb _ w).drew)
 have hU:UU P n ops' (Array.replicate ops'.size false)=cm:=by
  funext t
  simp only[UU,cm,agA,iff_false];rintro⟨j,o,z,k1,k2,_⟩;exact ji j o t z k1 k2
 obtain⟨I,i0,jP⟩:=hI w0 g a w ho R;refine afC hm (Nk bb I jP ops.size _ a _ (by simp) i0 ?_);rw[<-bb.size];refine ki (Q:=QQ P w0 n old (Q.bC old)) (λ_ _ _ hq=>NB hq) _ _ _ _ (Is fk zm _ _ _ _ (P3 (Q:=Q.bC old) (old:=old) hG cT q2 (λo qf=>?_) ops'.size (Array.replicate ops'.size false) g S H a _ (by simp) ho (by rw[hU];exact R0) (λj o d z k1 k2 k3=>(ji j o d z k1 k2).elim) ?_))
 .simp only[cN,afA,adu,Function.comp]at q1;exact q1 o (by simpa using qf)
 .have:=KJ (P:=P) (GI:=GI) (n:=n) (md:=.any) (ops:=ops') (QA:=Q.bC old .normal) (p:=ops'.size) (q:=ops'.size) (List.range ops'.size) (Array.replicate ops'.size false) S H q5 ?_
  .rw[q4]at this;exact this
  .have:=LO (P:=P) (GI:=GI) (al:=cN P n true ops') (p:=ops'.size) (q:=ops'.size) (K:=Q.bC old .normal) (r:=[]) (List.range ops'.size) (cN P n true ops') (by
    apply aeX;intro k
    by_cases hk:k<ops'.size
    .simp[hk,cN]
    .simp[hk,cN]) (λk hk=>by have:=adF.1 hk;omega) (S:=S) (H:=H) (Cp (λS H h=>h) _ _ _ h)
   simpa using this
end
def KB:AV->Value
 |.bool b=>.bool b
 |.int k n=>.int k n
 |_=>undef
def V1:AV->Bool
 |.bool _|.int _ _=>true
 |_=>false
theorem RD.Wa{Pr:Nat->Nat->Prop}{w:World}{v:AV}{c:Value}(h:RD Pr w v c)(hv:V1 v=true):c=KB v:=by
 cases h<;>first|rfl|cases hv
theorem RD.aca{Pr:Nat->Nat->Prop}{w:World}{v:AV}(hv:V1 v=true):RD Pr w v (KB v):=by
 cases v<;>first|exact .bool _|exact .int _ _|cases hv
theorem N7{v:AV}(hv:V1 v=true):v.one=true:=by cases v<;>first|rfl|cases hv
def th(es:List AV):List Value:=(es.flatMap AV.cells).map KB
def mP(size:Nat)(es:List AV):Prop:=∀x∈es,x.storable=true/\x.cells.length=size/\∀c∈x.cells,V1 c=true
theorem mP.elems{size:Nat}{es:List AV}(h:mP size es):aJ size es=true:=sM.2 λv hv=>⟨(h v hv).1,(h v hv).2.1⟩
theorem tK{size:Nat}:∀{es:List AV},mP size es->(es.flatMap AV.cells).length=es.length*size
 |[],_=>by simp
 |x::es,h=>by
  rw[aex,adq,tK λy hy=>h y (ado _ hy),(h x adt).2.1,List.length_cons,ae9];omega
theorem zk{size:Nat}{es:List AV}(h:mP size es):(th es).length=es.length*size:=by
 rw[th,adi,tK h]
theorem Wm(es fs:List AV):th (es++fs)=th es++th fs:=by simp[th]
theorem flat_get{size:Nat}:∀{es:List AV},mP size es->∀j (h:j<es.length) k (hk:k<(es[j]).cells.length),(es.flatMap AV.cells)[j*size+k]?=some (es[j]).cells[k]
 |[],_,_,h,_,_=>by simp at h
 |x::es,ho,0,h,k,hk=>by
  rw[aex,agX,ad3];exact(aem hk).trans (ac_ hk)
 |x::es,ho,j+1,h,k,hk=>by
  have hx:=(ho x adt).2.1;rw[aex,aeA (by rw[hx,ae9];omega),hx,show(j+1)*size+k-size=j*size+k by rw[ae9];omega];exact flat_get (λy hy=>ho y (ado _ hy)) j (by simpa using h) k hk
theorem vT{size:Nat}{es:List AV}(ho:mP size es){j:Nat}(h:j<es.length){k:Nat}(hk:k<(es[j]).cells.length):(th es)[j*size+k]?=some (KB (es[j]).cells[k]):=by
 rw[th,adI,flat_get ho j h k hk];rfl
theorem mP.flat{size:Nat}{es:List AV}(ho:mP size es)(Pr:Nat->Nat->Prop)(w:World):kH Pr w size es (th es):=
 ⟨λx hx=>⟨(ho x hx).2.1,(ho x hx).1,λc hc=>N7 ((ho x hx).2.2 c hc)⟩,λj h k hk=>⟨_,vT ho h hk,RD.aca ((ho _ (ada h)).2.2 _ (ada hk))⟩⟩
theorem mP.app{size:Nat}{es fs:List AV}(h:mP size es)(h':mP size fs):mP size (es++fs):=λx hx=>by
 rcases adm.1 hx with hx|hx
 .exact h x hx
 .exact h' x hx
structure KO(cc:Nat->Nat->Prop)(e:TypeId)(size:Nat)(es:List AV)(o:Old)(v:Value):Prop where
 c:o.c=cc
 ds:o.ds=[]
 bx:∀d,¬o.bx d
 ok:mP size es
 row:((∃a0,v=.slice a0 0 0)/\es=[])\/∃b cap cur,v=.slice (some ⟨b,0,none⟩) es.length cap/\o.bf b=some (.cells cur e (0,0))/\es.length<=cap/\cap<=maxLen/\cur.size=cap*size/\cur.toList.take (es.length*size)=th es
section
variable{P:Program}{GI:World->Prop}{w0:World}{n:Nat}{g:Gh}{S:av}{H:aD}{a:Act}{w:World}{cc:Nat->Nat->Prop}{e:TypeId}{size:Nat}{es:List AV}{v:Value}
theorem Rel.aaV (R:Rel P w0 n cm g S H a w) {b:Nat} (hf:Eb g b) {o:Obj} (ho:w.heap[b]? = some o) :
  Rel P w0 n cm { g with old:={ g.old with bf:=ar g.old.bf b (some o) } } S H a w:=by
 refine{ size:=R.size,defers:=R.defers,facts:=R.facts,slot:=R.slot,own:=λt ht hu=>(R.own t ht hu).bf rfl λb hb=>⟨rfl,rfl,hb⟩,box:=?_,mB:=R.mB,mr:=R.mr,inj:=R.inj,base:=R.base,below:=R.below,fresh:=R.fresh,still:=R.still,grown:=R.grown,kept:=?_ }
 .intro i c hi;obtain⟨cs,vs,ty,h1,h2,h3,h4,h5,h6,h7,h8,h9⟩:=R.box i c hi;exact⟨cs,vs,ty,h1,h2,h3,h4,h5,h6,h7,λj hj dY=>(h8 j hj dY).bf rfl λb hb=>⟨rfl,rfl,hb⟩,h9⟩
 .intro c ob h
  by_cases kW:c=b
  .subst kW
   have:ob=o:=by simpa[ar]using h.symm
   subst this;exact⟨hf.1,ho,hf.2.1,hf.2.2.1,hf.2.2.2⟩
  .exact R.kept c ob (by simpa[ar,kW]using h)
theorem Rel.WA (R:Rel P w0 n cm g S H a w) {b:Nat} {o:Obj} (hk:g.old.bf b=some o) :
  Rel P w0 n cm { g with old:={ g.old with bf:=ar g.old.bf b none } } S H a w/\Eb { g with old:={ g.old with bf:=ar g.old.bf b none } } b/\w.heap[b]?=some o:=by
 obtain⟨k1,k2,k3,k4,k5⟩:=R.kept b o hk;refine⟨?_,⟨k1,k3,k4,k5⟩,k2⟩;refine{ size:=R.size,defers:=R.defers,facts:=R.facts,slot:=R.slot,own:=λt ht hu=>(R.own t ht hu).bf rfl λb hb=>⟨rfl,rfl,hb⟩,box:=?_,mB:=R.mB,mr:=R.mr,inj:=R.inj,base:=R.base,below:=R.below,fresh:=R.fresh,still:=R.still,grown:=R.grown,kept:=?_ }
 .intro i c hi;obtain⟨cs,vs,ty,h1,h2,h3,h4,h5,h6,h7,h8,h9⟩:=R.box i c hi;exact⟨cs,vs,ty,h1,h2,h3,h4,h5,h6,h7,λj hj dY=>(h8 j hj dY).bf rfl λb hb=>⟨rfl,rfl,hb⟩,h9⟩
 .intro c ob h
  have hc:c≠b:=by rintro rfl;simp[ar]at h
  exact R.kept c ob (by simpa[ar,hc]using h)
theorem Rel.Lb (R:Rel P w0 n cm g S H a w) (hp:g.old.c=cc∧g.old.ds=[]∧∀ d,¬ g.old.bx d) {w':World} (hb:Below w.heap.size w w') (cP:mP size es) (dO:w'.ownsRow w.heap.size e size v es.length (th es)) :
  ∃g',Rel P w0 n cm g' S H a w'/\KO cc e size es g'.old v:=by
 rcases dO.2 with⟨rfl,h0⟩|⟨b,cap,cur,rfl,qG,hg,h1,h2,h3,h4⟩
 .exact⟨g,R.kS hb,hp.1,hp.2.1,hp.2.2,cP,.inl ⟨⟨_,rfl⟩,adQ h0⟩⟩
 .exact⟨_,R.VP hb qG hg,hp.1,hp.2.1,hp.2.2,cP,.inr ⟨b,cap,cur,rfl,aS _ _ _,h1,h2,h3,h4⟩⟩
theorem KO.append (R:Rel P w0 n cm g S H a w) {i:TypeInfo} (hK:KO cc e i.size es g.old v) {o:Oper} {cl:Call} {t:TypeId} {z:Value} {x1 x2:Operand} (ho:o.op = .call cl) (ni:cl.callee = .builtin .append) (Jj:cl.args = #[x1,x2]) (vH:cl.argTypes = #[t,t])
  (gE:P.underlying t=some (.slice e)) (hi:P.info? e=some i) (hz:i.zero=some z) (vS:z.cells.size=i.size) (YV:i.bytes<=65536) (hv:a.eval x1=v) {y2:eA} (pc:eO n x2=some y2) {oo:Ow} {x:AV} (hS:ev S y2=.slice oo [x]) (hx:mP i.size [x]) (hlen:es.length+1<=2097152):
  ∃v' w' g',(execOp a.eval o).run P w=.ok (.value v') w'/\Rel P w0 n cm g' S H a w'/\KO cc e i.size (es++[x]) g'.old v':=by
 have hle:g.base<=w.heap.size:=by rw[R.base];exact R.below.size
 have ic:=R.ev pc (λ_ _=>id);rw[hS]at ic
 have run:∀v' w',(Builtin.append_ #[t,t] o.type #[v,a.eval x2]).run P w=.ok v' w'->(execOp a.eval o).run P w=.ok (.value v') w':=by
  intro v' w' h;rw[<-hv]at h;unfold execOp;simp[ho,ni,Jj,vH,resolve,invoke,builtin,h]
 have bytes:∀m,m<=2097152->m*i.bytes<=140737488355328:=λm hm=>ael (agy hm YV) (by decide)
 rcases(ic.fj rfl).rU i.size hx.elems with⟨h0,_⟩|⟨b,off,cap,news,nF,hl,hn,h1,hr⟩
 .cases h0
 have Aa:news=th [x]:=by
  apply aeX;intro j
  by_cases hj:j<i.size
  .have BK:([x][0]).cells.length=i.size:=(hx x (by simp)).2.1;obtain⟨u,u1,u2⟩:=hr 0 (by simp) j (by rw[BK];exact hj);have e1:=vT hx (j:=0) (by simp) (k:=j) (by rw[BK];exact hj);rw[agX,ad3]at u1 e1;rw[u1,e1,u2.Wa ((hx x (by simp)).2.2 _ (ada _))]
  .rw[adv (by rw[hl];simp;omega),adv (by rw[zk hx];simp;omega)]
 have Dg:mP i.size (es++[x]):=hK.ok.app hx
 have sV:(es++[x]).length=es.length+1:=by simp
 rcases hK.row with⟨⟨a0,rfl⟩,rfl⟩|⟨bk,acM,cur,hvk,hk,q1,q2,q3,q4⟩
 .obtain⟨v',w',r1,r2,r3,r4,r5⟩:=A3 (P:=P) (w:=w) w.heap.size t o.type e i z gE hi hz vS a0 ⟨b,off,none⟩ 1 cap news (by rw[hl];rfl) (λj u hu=>by rw[aev];exact hn j u hu) (by omega) (by omega) (bytes _ (by omega)) (adh _);rw[Aa]at r2;obtain⟨g',R',hK'⟩:=R.Lb (es:=[x]) ⟨hK.c,hK.ds,hK.bx⟩ ⟨r4.os,r4.tape,r4.output,r4.size,λk hk=>r4.block k hk (by simp)⟩ hx r2;exact⟨v',w',g',run _ _ (by rw[nF];exact r1),R',hK'⟩
 .have cI:es≠[]\/es=[]:=(Decidable.em _).symm;obtain⟨k1,k2,k3,k4,k5⟩:=R.kept bk _ hk
  have dO:w.ownsRow g.base e i.size v es.length (th es):=⟨zk hK.ok,.inr ⟨bk,acM,cur,hvk,k1,k2,q1,q2,q3,q4⟩⟩
  obtain⟨v',w',b',r1,r2,r3,r4⟩:=yx (P:=P) (w:=w) g.base t o.type e i z gE hi hz vS v es.length (th es) bk dO (by rw[hvk];rfl) ⟨b,off,none⟩ 1 cap news (by rw[hl];rfl) (λj u hu=>by rw[aev];exact hn j u hu) h1 hlen (bytes _ hlen) hle;rw[Aa,<-Wm]at r2
  have u9:∃K7 NQ,v'=.slice (some ⟨b',0,none⟩) (es++[x]).length K7/\w'.heap[b']?=some (.cells NQ e (0,0))/\(es++[x]).length<=K7/\K7<=maxLen/\NQ.size=K7*i.size/\NQ.toList.take ((es++[x]).length*i.size)=th (es++[x]):=by
   rcases r2.2 with⟨_,h0⟩|⟨gg,cp,cu,rfl,_,m1,m2,m3,m4,m5⟩
   .omega
   .have:gg=b':=by simpa[Value.ownBlock]using r3
    subst this;rw[sV];exact⟨cp,cu,rfl,m1,m2,m3,m4,m5⟩
  obtain⟨K7,NQ,si,kg,m2,m3,m4,m5⟩:=u9
  rcases r4 with⟨rfl,kL⟩|⟨rfl,kL,bq⟩
  .obtain⟨R1,hf,_⟩:=R.WA hk;have R2:=R1.dE (M:=λc=>c=b') (w':=w') ⟨kL.os,kL.tape,kL.output,kL.size,λk hk hm=>kL.block k hk (by simpa using hm)⟩ (λc hc=>by subst hc;exact hf) (λc hc=>by subst hc;exact aS _ _ _);have R3:=R2.aaV hf kg;exact⟨v',w',_,run _ _ (by rw[nF];exact r1),R3,hK.c,hK.ds,hK.bx,Dg,.inr ⟨b',K7,NQ,si,aS _ _ _,m2,m3,m4,m5⟩⟩
  .have R2:=R.VP (w':=w') ⟨kL.os,kL.tape,kL.output,kL.size,λk hk=>kL.block k hk (by simp)⟩ (adh _) kg;exact⟨v',w',_,run _ _ (by rw[nF];exact r1),R2,hK.c,hK.ds,hK.bx,Dg,.inr ⟨w.heap.size,K7,NQ,si,aS _ _ _,m2,m3,m4,m5⟩⟩
theorem KO.cell (hK:KO cc e size es g.old v) (R:Rel P w0 n cm g S H a w) {j:Nat} (hj:j < es.length) :
  ∃b cap cur,v=.slice (some ⟨b,0,none⟩) es.length cap/\g.old.bf b=some (.cells cur e (0,0))/\w.heap[b]?=some (.cells cur e (0,0))/\∀k (hk:k<(es[j]).cells.length),j*size+k<cur.size/\cur[j*size+k]?=some (KB (es[j]).cells[k]):=by
 rcases hK.row with⟨_,rfl⟩|⟨b,cap,cur,hv,hk,h1,h2,h3,h4⟩
 .simp at hj
 refine⟨b,cap,cur,hv,hk,(R.kept b _ hk).2.1,λk Ew=>?_⟩;have hg:=vT hK.ok hj Ew;rw[<-h4,agv]at hg;split at hg
 .have me:cur[j*size+k]?=some (KB (es[j]).cells[k]):=by rw[<-hg,aeH]
  exact⟨(ade.1 me).1,me⟩
 .cases hg
theorem KO.set (hK:KO cc e size es g.old v) {j k:Nat} (hj:j < es.length) (hk:k < (es[j]).cells.length) {x:AV} (hx:mP size [x]) {u:AV} (hu:x.cells=(es[j]).cells.set k u) {b cap:Nat} {cur y3:Array Value} (hv:v = .slice (some ⟨b,0,none⟩) es.length cap) (vm:g.old.bf b=some (.cells cur e (0,0)))
  (bq:y3.size=cur.size) (hc:∀m,y3.getD m undef=if m=j*size+k then KB u else cur.getD m undef):KO cc e size (es.set j x) { g.old with bf:=ar g.old.bf b (some (.cells y3 e (0,0))) } v:=by
 have cP:mP size (es.set j x):=λy hy=>by
  rcases agr hy with h|h
  .exact hK.ok y h
  .subst h;exact hx y (by simp)
 refine⟨hK.c,hK.ds,hK.bx,cP,.inr ⟨b,cap,y3,by rw[afR];exact hv,aS _ _ _,?_⟩⟩;rw[afR]
 rcases hK.row with⟨_,rfl⟩|⟨b2,ac4,ac3,ic,ju,h1,h2,h3,h4⟩
 .simp at hj
 rw[hv]at ic;cases ic;rw[vm]at ju;cases ju;refine⟨h1,h2,by rw[bq];exact h3,?_⟩
 have hle:es.length*size<=cur.size:=by rw[h3];exact aeK _ h1
 apply aeX;intro m
 by_cases hm:m<es.length*size
 case neg=>rw[adv (by rw[adM];omega),adv (by rw[zk cP,afR];omega)]
 have hs0:0<size:=by
  rcases afs size with h|h
  .rw[h,Nat.mul_zero]at hm;omega
  .exact h
 obtain⟨q,r,hr,rfl⟩:∃q r,r<size/\m=q*size+r:=⟨m/size,m % size,agS _ hs0,by rw[ae7];exact(agq m size).symm⟩
 have hq:q<es.length:=by
  rcases ae1 q es.length with h|h
  .exact h
  .have:=aeK size h;omega
 have Rv:q<(es.set j x).length:=by rw[afR];exact hq
 have hlen:((es.set j x)[q]).cells.length=size:=(cP _ (ada Rv)).2.1;rw[vT cP Rv (by rw[hlen];exact hr),agv,if_pos hm,aeH];have yp:=hc (q*size+r)
 have jJ:q*size+r<y3.size:=by rw[bq];omega
 have aa5:q*size+r<cur.size:=by omega
 rw[ad9,aej jJ,Option.getD_some,ad9,aej aa5,Option.getD_some]at yp;rw[aej jJ,yp]
 have hold:cur[q*size+r]?=some (KB ((es[q]).cells[r]'(by rw[(hK.ok _ (ada hq)).2.1];exact hr))):=by
  have hg:=vT hK.ok hq (k:=r) (by rw[(hK.ok _ (ada hq)).2.1];exact hr);rw[<-h4,agv,if_pos hm,aeH]at hg;exact hg
 rw[aej aa5]at hold;have hold:=adw hold
 by_cases hqj:q=j
 .subst hqj
  have Nr:(es.set q x)[q]=x:=by simp
  by_cases hrk:r=k
  .subst hrk;rw[if_pos rfl];simp only[Nr,hu,ag2]
  .rw[if_neg (by omega)];simp only[Nr,hu];rw[ag8 (by omega),hold]
 .have Nr:(es.set j x)[q]=es[q]:=ag8 (by omega) _;rw[if_neg,hold]
  .simp only[Nr]
  .intro h
   have dP:k<size:=by rw[<-(hK.ok _ (ada hj)).2.1];exact hk
   apply hqj;have:=congrArg (·/size) h;simp only[ae7 _ size,Nat.mul_add_div hs0,agU hr,agU dP]at this;simpa using this
theorem NS{a:Act}{t:Nat}{c:Value}(ht:t<a.tmps.size)(h:a.tmps.getD t undef=c):a.put (some t) c=a:=by
 cases a;simp only[Act.put,Act.mk.injEq,agu]at h ht⊢;apply aeI
 .simp
 .intro i h1 h2;rw[Array.getElem_setIfInBounds];split
  .rename_i hi;subst hi;rw[<-h];simp[ad9,h2]
  .rfl
theorem KO.done (hK:KO cc e size es g.old v) (R:Rel P w0 n cm g S H a w) {t:Nat} (ht:t < n) (hS:S t = .val v) :
  ∃g',Rel P w0 n cm g' (ar S t (.slice .view es)) H a w/\g'.old.c=cc/\g'.old.ds=[]/\∀d,¬g'.old.bx d:=by
 have hv:a.tmps.getD t undef=v:=by
  have:=R.slot t ht id;rw[hS]at this;exact this.fG
 have ME:∀{c},a.tmps.getD t undef=c->a.put (some t) c=a:=λh=>NS (by rw[R.size];exact ht) h
 rcases hK.row with⟨⟨a0,rfl⟩,rfl⟩|⟨b,cap,cur,ic,hk,h1,h2,h3,h4⟩
 .have ez:RD g.Pr w (.slice .view []) (.slice a0 0 0):=by
   cases a0 with
   |none=>exact .jU _
   |some b=>exact .kV _ _
  have R2:=R.put t (.slice .view []) _ ht (.data _ _ ez) trivial;rw[ME hv]at R2;exact⟨g,R2,hK.c,hK.ds,hK.bx⟩
 .obtain⟨k1,k2,_⟩:=R.kept b _ hk;obtain⟨g',q1,q2,R1,q3,q4⟩:=R.hand hk (es.length*size)
  have ez:RD g'.Pr w (.slice .view es) v:=by
   refine RD.ofRow (base:=g.base) ⟨zk hK.ok,.inr ⟨b,cap,cur,ic,k1,k2,h1,h2,h3,h4⟩⟩ (hK.ok.flat _ _) λb' kg k Ew=>?_
   have:b=b':=by rw[ic]at kg;simpa[Value.ownBlock]using kg
   subst this;exact q4 k Ew
  have R2:=R1.put t (.slice .view es) v ht (.data _ _ ez) trivial;rw[ME hv]at R2;exact⟨g',R2,by rw[q1];exact hK.c,by rw[q1];exact hK.ds,by rw[q1];exact hK.bx⟩
theorem KO.start(R:Rel P w0 n cm g S H a w)(hp:g.old.c=cc/\g.old.ds=[]/\∀d,¬g.old.bx d){t:Nat}(ht:t<n)(hS:S t=.slice .nil []):∃v,Rel P w0 n cm g (ar S t (.val v)) H a w/\KO cc e size [] g.old v:=by
 obtain⟨ad,hc⟩:∃ad,a.tmps.getD t undef=.slice ad 0 0:=by
  have hq:=R.slot t ht id;rw[hS]at hq;have hq:=hq.fj rfl;generalize a.tmps.getD t undef=c at hq
  cases hq with
  |jU=>exact⟨_,rfl⟩
  |kV=>exact⟨_,rfl⟩
  |slice _ _ b off cap size cs fF tC=>rw[tC rfl];exact⟨_,rfl⟩
 have R2:=R.put t (.val (.slice ad 0 0)) (.slice ad 0 0) ht (.data _ _ (.val _ rfl)) trivial;rw[NS (by rw[R.size];exact ht) hc]at R2;exact⟨_,R2,hp.1,hp.2.1,hp.2.2,(λx hx=>by cases hx),.inl ⟨⟨_,rfl⟩,rfl⟩⟩
end
section
variable{P:Program}{GI:World->Prop}{w0:World}{n:Nat}{g:Gh}{S:av}{H:aD}{a:Act}{w:World}{cc:Nat->Nat->Prop}{e:TypeId}{size:Nat}{es:List AV}{v:Value}
theorem Rel.JE (R:Rel P w0 n cm g S H a w) {t u:Nat} (ht:t < n) (hu:u < n) (cI:t≠u) (hS:S t = .slice (.own e) es) (hv:a.tmps.getD u undef=a.tmps.getD t undef) :
  ∃g',g'.old=g.old/\Rel P w0 n cm g' (ar (ar S t (.slice .view es)) u (.slice (.own e) es)) H a w:=by
 let g':Gh:={ g with owner:=λb=>if g.owner b=some (.slot t)then some (.slot u)else if g.owner b=some (.slot u)then none else g.owner b }
 have wO:g'.Pr=g.Pr:=rfl
 have dO:∀b loc,loc≠.slot t->loc≠.slot u->g.owner b=some loc->g'.owner b=some loc:=by
  intro b loc h1 h2 h;show(if g.owner b=some (.slot t)then _ else if g.owner b=some (.slot u)then none else g.owner b)=_;rw[h,if_neg (by simpa using h1),if_neg (by simpa using h2)]
 have Fv:∀b,g.owner b=none->g'.owner b=none:=by
  intro b h;show(if g.owner b=some (.slot t)then _ else if g.owner b=some (.slot u)then none else g.owner b)=_;rw[h];simp
 have Yl:∀{loc:Loc}{v:AV}{c:Value},loc≠.slot t->loc≠.slot u->gR P w g loc v c->gR P w g' loc v c:=λh1 h2 h=>h.bf rfl λb hb=>⟨rfl,rfl,dO b _ h1 h2 hb⟩
 have jC:=R.slot t ht id;have hot:=R.own t ht id;rw[hS]at jC hot;refine⟨g',rfl,{ size:=R.size,defers:=R.defers,facts:=R.facts,slot:=?_,own:=?_,box:=?_,mB:=R.mB,mr:=R.mr,inj:=R.inj,base:=R.base,below:=R.below,fresh:=λb hb=>⟨(R.fresh b hb).1,Fv b (R.fresh b hb).2⟩,still:=R.still,grown:=R.grown,kept:=λb o h=>let⟨k1,k2,k3,k4,k5⟩:=R.kept b o h;⟨k1,k2,k3,Fv b k4,k5⟩ }⟩
 .intro x hx _;show RV g.Pr g.al w _ _
  by_cases WE:x=u
  .subst WE;rw[aS,hv];exact jC
  .rw[bj _ _ WE]
   by_cases Wk:x=t
   .subst Wk;rw[aS];exact .data _ _ (jC.fj rfl).aG
   .rw[bj _ _ Wk];exact R.slot x hx id
 .intro x hx _
  by_cases WE:x=u
  .subst WE;rw[aS,hv];obtain⟨i,xs,b,k1,k2,k3,k4,k5⟩:=hot;refine⟨i,xs,b,k1,k2,k3,?_,k5⟩;show(if g.owner b=some (.slot t)then _ else _)=_;rw[if_pos k4]
  .rw[bj _ _ WE]
   by_cases Wk:x=t
   .subst Wk;rw[aS];trivial
   .rw[bj _ _ Wk];exact Yl (by simpa using Wk) (by simpa using WE) (R.own x hx id)
 .intro i b hi;obtain⟨cs,vs,ty,h1,h2,h3,h4,h5,h6,h7,h8,h9⟩:=R.box i b hi;exact⟨cs,vs,ty,h1,h2,h3,h4,Fv b h5,h6,h7,λj hj dY=>Yl (by simp) (by simp) (h8 j hj dY),h9⟩
theorem D8 (R:Rel P w0 n cm g S H a w) (hp:g.old.c=cc∧g.old.ds=[]∧∀ d,¬ g.old.bx d) {i:TypeInfo} (hi:P.info? e=some i) {old:Nat→Nat→Prop} {en:Ending} {w':World} (cP:mP i.size es) (h:Ends P old w (.ret (.slice (.own e) es)) en w') :
  ∃v g',en=.returned v/\Rel P w0 n cm g' S H a w'/\KO cc e i.size es g'.old v:=by
 obtain⟨hb,eb,_,c,rfl,hv,i',xs,b,k1,k2,k3,_⟩:=h;rw[hi]at k1;cases k1
 have hf:=kH.U9 (hv.fj rfl) k2 (λx hx=>⟨(cP x hx).2.1,(cP x hx).1,λc hc=>N7 ((cP x hx).2.2 c hc)⟩) (λx hx c hc=>by
  have:=(cP x hx).2.2 c hc
  cases c<;>first|rfl|cases this)
 have o_:xs=th es:=by
  apply aeX;intro m
  by_cases hm:m<es.length*i.size
  case neg=>rw[adv (by rw[k2.1];omega),adv (by rw[zk cP];omega)]
  have hs0:0<i.size:=by
   rcases afs i.size with h|h
   .rw[h,Nat.mul_zero]at hm;omega
   .exact h
  obtain⟨q,r,hr,rfl⟩:∃q r,r<i.size/\m=q*i.size+r:=⟨m/i.size,m % i.size,agS _ hs0,by rw[ae7];exact(agq m i.size).symm⟩
  have hq:q<es.length:=by
   rcases ae1 q es.length with h|h
   .exact h
   .have:=aeK i.size h;omega
  have hl:=(cP _ (ada hq)).2.1;obtain⟨u,u1,u2⟩:=hf.2 q hq r (by rw[hl];exact hr);rw[u1,vT cP hq (by rw[hl];exact hr),u2.Wa ((cP _ (ada hq)).2.2 _ (ada _))]
 rw[o_]at k2;obtain⟨g',R',hK⟩:=R.Lb hp hb cP k2;exact⟨c,g',rfl,R',hK⟩
end
section
variable{P:Program}{w0:World}{n:Nat}{g:Gh}{S:av}{H:aD}{a:Act}{w:World}{cc:Nat->Nat->Prop}{e:TypeId}
theorem Nb {o:Oper} {t:TypeId} {i:TypeInfo} {x y:Operand} {m:Nat} (ho:o.op = .makeSlice t x y) (ht:P.underlying t=some (.slice e)) (hi:P.info? e=some i) (hz:i.zero=some (.int .i64 0)) (hs:i.size=1) (hb:i.bytes * m≤281474976710656) (hm:m≤1000)
  (hx:a.eval x=.int .i64 (m:Nat)) (hy:a.eval y=.int .i64 (m:Nat)):(execOp a.eval o).run P w=.ok (.value (.slice (some ⟨w.heap.size,0,none⟩) m m)) (w.alloc (.cells (madeCells #[.int .i64 0] m) e)):=by
 have h:=run_make_row (P:=P) t e i (.int .i64 0) ht hi hz hs rfl .i64 .i64 m hb (by omega) w;unfold execOp;simp[ho,hx,hy,h]
theorem KO.make(R:Rel P w0 n cm g S H a w)(hp:g.old.c=cc/\g.old.ds=[]/\∀d,¬g.old.bx d){m:Nat}(hm:m<=1000):∃g',Rel P w0 n cm g' S H a (w.alloc (.cells (madeCells #[.int .i64 0] m) e))/\KO cc e 1 (List.replicate m (.int .i64 0)) g'.old (.slice (some ⟨w.heap.size,0,none⟩) m m):=by
 refine R.Lb hp (Below.alloc (aeb _ _) (adh _) _) (λx hx=>?_) ⟨?_,.inr ⟨w.heap.size,m,madeCells #[.int .i64 0] m,by simp,adh _,(by show(w.heap.push _)[w.heap.size]?=_;simp),by simp,by simp[maxLen];omega,by simp[size_madeCells],?_⟩⟩
 .rw[List.mem_replicate]at hx;rw[hx.2];exact⟨rfl,rfl,λc hc=>by simp[AV.cells]at hc;subst hc;rfl⟩
 .simp[th,AV.cells]
 .have hc:(madeCells #[Value.int .i64 0] m).toList=List.replicate m (.int .i64 0):=by
   apply afg
   .simp[size_madeCells]
   .intro j h1 h2;simp[madeCells,Nat.mod_one]
  have hr:∀k,th (List.replicate k (AV.int .i64 0))=List.replicate k (.int .i64 0):=by
   intro k
   induction k with
   |zero=>rfl
   |succ k ih=>rw[List.replicate_succ,List.replicate_succ,<-ih];rfl
  rw[hc,hr,List.length_replicate,aeD,adn (by simp)]
end
theorem I3 {P:Program} {w:World} {base:Nat} {t ty e:TypeId} {i:TypeInfo} {z:Value} (ht:P.underlying t=some (.slice e)) (hi:P.info? e=some i) (hz:i.zero=some z) (vS:z.cells.size=i.size) (hs:i.size=1) (YV:i.bytes≤65536)
  {u:Value} {n:Nat} {xs:List Value} (dO:w.ownsRow base e 1 u n xs) (hlen:n+1<=2097152) (jq:base<=w.heap.size) {ad:Addr} {cap:Nat} {c:Value} (hc:w.cell? ad=some c) (h1:c.oneCell'=true):
  ∃u' w' b',(Builtin.append_ #[t,t] ty #[u,.slice (some ad) 1 cap]).run P w=.ok u' w'/\w'.ownsRow base e 1 u' (n+1) (xs++[c])/\u'.ownBlock=some b'/\mV (λb=>u.ownBlock=some b) w w'/\(u.ownBlock=some b'\/w.heap.size<=b'):=by
 have bytes:∀m,m<=2097152->m*i.bytes<=140737488355328:=λm hm=>ael (agy hm YV) (by decide)
 have X6:∀j x,[c][j]?=some x->w.cell? (ad.add j)=some x:=λj x hx=>by
  match j,hx with
  |0,hx=>cases hx;rw[show ad.add 0=ad by simp[Addr.add]];exact hc
 have DC:∀x∈[c],x.oneCell'=true:=λx hx=>by simp at hx;subst hx;exact h1
 rcases dO.2 with⟨hu,hn⟩|⟨g,ac7,cur,hv,qL,hg,rest⟩
 .subst hn;have hx:xs=[]:=adQ (by have:=dO.1;simpa using this);subst hx;obtain⟨v',w',r1,r2,r3,r4,r5⟩:=A3 (P:=P) (w:=w) base t ty e i z ht hi hz vS none ad 1 cap [c] (by rw[hs];rfl) X6 (by omega) (by omega) (bytes _ (by omega)) jq;rw[hs]at r2;rw[hu];exact⟨v',w',_,r1,by simpa using r2,r3,⟨r4.os,r4.tape,r4.output,r4.size,λk hk _=>r4.block k hk (by simp)⟩,.inr (adh _)⟩
 .have Ij:u.ownBlock=some g:=by rw[hv];rfl
  obtain⟨v',w',b',r1,r2,r3,r4⟩:=yx (P:=P) (w:=w) base t ty e i z ht hi hz vS u n xs g (by rw[hs];exact dO) Ij ad 1 cap [c] (by rw[hs];rfl) X6 DC hlen (bytes _ hlen) jq;rw[hs]at r2
  rcases r4 with⟨rfl,kL⟩|⟨rfl,kL,bq⟩
  .exact⟨v',w',_,r1,r2,r3,⟨kL.os,kL.tape,kL.output,kL.size,λk hk hm=>kL.block k hk (λe=>hm (by rw[Ij];exact e.symm))⟩,.inl Ij⟩
  .exact⟨v',w',_,r1,r2,r3,⟨kL.os,kL.tape,kL.output,kL.size,λk hk _=>kL.block k hk (by simp)⟩,.inr (adh _)⟩
end Go.AL
