/- A part of the proof. -/
import Derived.Test.YtajdcjkalbbogaaGreatDoorV1
import Derived.Test.YtajdcjkalbbogaaGreatDoorProg
set_option maxRecDepth 100000
set_option maxHeartbeats 8000000
set_option linter.all false
namespace Go.AL
open Go.RowKit
inductive af where
 |skip
 |ops (l:List bI)
 |cV (l:List bI)
 |seq (x y:af)
 |cond (c:cT) (x y:af)
 |block (id:Nat) (c:af)
 |loop (c:af)
 |exit (id:Nat)
 |ret
 |bad
def dK(P:Program)(n:Nat):Code->af
 |.skip=>.skip
 |.region _ ops draw=>
  if draw then(if LU P n ops then .cV (bh P n true ops)else .bad)
  else(if(bh P n false ops).all (·.ok n)then .ops (bh P n false ops)else .bad)
 |.seq x y=>.seq (dK P n x) (dK P n y)
 |.cond c x y=>match dz n c with
  |some c=>.cond c (dK P n x) (dK P n y)
  |none=>.bad
 |.block id c=>.block id (dK P n c)
 |.loop c=>.loop (dK P n c)
 |.exit id=>.exit id
 |.ret=>.ret
 |_=>.bad
def di(K:an->ao->Prop)(Q:dV->an->ao->Prop):dV->an->ao->Prop
 |.normal,S,H=>K S H
 |.exit id,S,H=>Q (.exit id) S H
 |.ret,S,H=>Q .ret S H
 |.panic v,S,H=>Q (.panic v) S H
def dQ(id:Nat)(Q:dV->an->ao->Prop):dV->an->ao->Prop
 |.normal,S,H=>Q .normal S H
 |.exit j,S,H=>if j=id then Q .normal S H else Q (.exit j) S H
 |.ret,S,H=>Q .ret S H
 |.panic v,S,H=>Q (.panic v) S H
def af.names:af->List Nat
 |.ops l=>l.flatMap bI.jx
 |.cV l=>l.flatMap bI.jx
 |.seq x y=>x.names++y.names
 |.cond _ x y=>x.names++y.names
 |.block _ c=>c.names
 |.loop c=>c.names
 |_=>[]
def bB(P:Program)(GI:World->Prop):af->(dV->an->ao->Prop)->an->ao->Prop
 |.skip,Q,S,H=>Q .normal S H
 |.ops l,Q,S,H=>bq P GI l (Q .normal) (λv=>Q (.panic v) S H) S H
 |.cV l,Q,S,H=>cV P GI l (Q .normal) (eP l S) (dW l H)
 |.seq x y,Q,S,H=>bB P GI x (di (bB P GI y Q) Q) S H
 |.cond c x y,Q,S,H=>match ev S c with
  |.bool true=>bB P GI x Q S H
  |.bool false=>bB P GI y Q S H
  |.l7=>bB P GI x Q S H/\bB P GI y Q S H
  |_=>False
 |.block id c,Q,S,H=>bB P GI c (dQ id Q) S H
 |.loop c,Q,S,H=>∃(I:an->ao->Prop)(μ:an->ao->Nat),I S H/\∀S H,I S H->bB P GI c (di (λS' H'=>I S' H'/\μ S' H'<μ S H) Q) S H
 |.exit id,Q,S,H=>Q (.exit id) S H
 |.ret,Q,S,H=>Q .ret S H
 |.bad,_,_,_=>False
section
variable{P:Program}{GI:World->Prop}{w0:World}{n:Nat}{g:Gh}{S:an}{H:ao}{a:Act}{w:World}
def I9 {c:Code} {Q:Exit→Act→World→Prop} (J:Nat→Act→World→Prop)
  (round:∀m a w,J m a w->c.wp P (Exit.then (λa' w'=>∃m',m'<m/\J m' a' w') Q) a w) {m:Nat} (h0:J m a w):(Code.loop c).wp P Q a w:=by
 intro b k cs
 have key:∀m a w,J m a w->∃e a' w',Q e a' w'/\Arrives P (lone (b.at a (.code c::.inLoop c::k)) cs w) b k cs e a' w':=by
  intro m
  induction m using Nat.strongRecOn with
  |_ m ih=>
   intro a w hJ;obtain⟨e,jy,lR,hq,iq⟩:=round m a w hJ b (.inLoop c::k) cs
   cases e with
   |normal=>
    obtain⟨m',aq,hJ'⟩:=hq;obtain⟨DJ,Dl,Ep,xI,qN⟩:=ih m' aq jy lR hJ';exact⟨DJ,Dl,Ep,xI,.of_steps (Steps.trans iq (.one step_inLoop)) qN⟩
   |exit id=>exact⟨_,jy,lR,hq,.pass (x:=.inLoop c) rfl (λ_ _=>.inl ahB) iq⟩
   |goto l=>exact⟨_,jy,lR,hq,.pass (x:=.inLoop c) rfl (λ_ _=>.inl ahB) iq⟩
   |ret=>exact⟨_,jy,lR,hq,.pass (x:=.inLoop c) rfl (λ_ _=>.inl ahB) iq⟩
   |panic ch=>exact⟨_,jy,lR,hq,.pass (x:=.inLoop c) rfl (λ_ _=>.inl ahB) iq⟩
   |outgrown=>exact⟨_,jy,lR,hq,.pass (x:=.inLoop c) rfl (λ_ _=>.inl ahB) iq⟩
 obtain⟨e,a',w',hq,iq⟩:=key _ _ _ h0;exact⟨e,a',w',hq,.of_steps (.one step_loop) iq⟩
def mP (hG:ar GI) (cm:GI w0) (hm:P.follows .mixedOrders=true) {old:Old} :
  ∀(c:Code)(Q:dV->an->ao->Prop)(g:Gh)(S:an)(H:ao)(a:Act)(w:World),(∀d∈(dK P n c).names,¬old.bx d)->g.old=old->Rel P w0 n bP g S H a w->bB P GI (dK P n c) Q S H->c.wp P (QQ P w0 n old Q) a w
 |.skip,Q,g,S,H,a,w,bK,ho,R,h=>wp_skip ⟨g,S,H,ho,R,h⟩
 |.region id ops draw,Q,g,S,H,a,w,bK,ho,R,h=>by
  simp only[dK]at h bK
  cases draw with
  |true=>
   simp only[aed]at h bK;split at h
   case isFalse=>exact h.elim
   rename_i bV;rw[if_pos bV]at bK;exact Lo hG cm hm bV (λo kE d hd=>bK d (aei.2 ⟨o,kE,hd⟩)) ho R h
  |false=>
   simp only[adM,ad1]at h bK;split at h
   case isFalse=>exact h.elim
   rename_i bV;rw[if_pos bV]at bK;exact MN hG cm bV (λo kE d hd=>bK d (aei.2 ⟨o,kE,hd⟩)) ho R h
 |.seq x y,Q,g,S,H,a,w,bK,ho,R,h=>by
  refine wp_seq (ag8 (mP hG cm hm x _ g S H a w (λd hd=>bK d (by simp[dK,af.names,hd])) ho R h) ?_);intro e a' w' he
  cases e with
  |normal=>
   obtain⟨g',S',H',h1,h2,h3⟩:=he;exact mP hG cm hm y Q g' S' H' a' w' (λd hd=>bK d (by simp[dK,af.names,hd])) h1 h2 h3
  |exit id=>exact he
  |ret=>exact he
  |panic ch=>exact he
  |goto l=>exact he.elim
  |outgrown=>exact he.elim
 |.cond c x y,Q,g,S,H,a,w,bK,ho,R,h=>by
  simp only[dK]at h;split at h
  case h_2=>exact h.elim
  rename_i c' hc;simp only[dK,hc,af.names,adG]at bK;simp only[bB]at h;have hv:=R.ev hc (λ_ _=>id);split at h
  .rename_i hb;rw[hb]at hv
   have:a.eval c=.bool true:=by
    generalize a.eval c=v at hv;cases hv;rename_i hv;cases hv;rfl
   exact wp_cond this (mP hG cm hm x Q g S H a w (λd hd=>bK d (.inl hd)) ho R h)
  .rename_i hb;rw[hb]at hv
   have:a.eval c=.bool false:=by
    generalize a.eval c=v at hv;cases hv;rename_i hv;cases hv;rfl
   exact wp_cond this (mP hG cm hm y Q g S H a w (λd hd=>bK d (.inr hd)) ho R h)
  .rename_i hb;rw[hb]at hv
   have:∃b,a.eval c=.bool b:=by
    generalize a.eval c=v at hv;cases hv;rename_i hv;cases hv;exact⟨_,rfl⟩
   obtain⟨b,hb⟩:=this
   cases b with
   |true=>exact wp_cond hb (mP hG cm hm x Q g S H a w (λd hd=>bK d (.inl hd)) ho R h.1)
   |false=>exact wp_cond hb (mP hG cm hm y Q g S H a w (λd hd=>bK d (.inr hd)) ho R h.2)
  .exact h.elim
 |.block id c,Q,g,S,H,a,w,bK,ho,R,h=>by
  refine wp_block (ag8 (mP hG cm hm c _ g S H a w (λd hd=>bK d (by simpa[dK,af.names]using hd)) ho R h) ?_);intro e a' w' he
  cases e with
  |normal=>exact he
  |exit j=>
   obtain⟨g',S',H',h1,h2,h3⟩:=he;simp only[dQ]at h3;simp only[Exit.inBlock];split
   .rename_i hj;rw[if_pos hj]at h3;exact⟨g',S',H',h1,h2,h3⟩
   .rename_i hj;rw[if_neg hj]at h3;exact⟨g',S',H',h1,h2,h3⟩
  |ret=>exact he
  |panic ch=>exact he
  |goto l=>exact he.elim
  |outgrown=>exact he.elim
 |.loop c,Q,g,S,H,a,w,bK,ho,R,h=>by
  obtain⟨I,μ,h0,hr⟩:=h;refine I9 (λm a w=>∃g S H,g.old=old/\Rel P w0 n bP g S H a w/\I S H/\μ S H=m) ?_ (m:=μ S H) ⟨g,S,H,ho,R,h0,rfl⟩;rintro m a' w' ⟨g',S',H',h1,h2,h3,rfl⟩;refine ag8 (mP hG cm hm c _ g' S' H' a' w' (λd hd=>bK d (by simpa[dK,af.names]using hd)) h1 h2 (hr S' H' h3)) ?_;intro e XQ jv he
  cases e with
  |normal=>
   obtain⟨g2,S2,H2,k1,k2,k3,k4⟩:=he;exact⟨_,k4,g2,S2,H2,k1,k2,k3,rfl⟩
  |exit id=>exact he
  |ret=>exact he
  |panic ch=>exact he
  |goto l=>exact he.elim
  |outgrown=>exact he.elim
 |.exit id,Q,g,S,H,a,w,bK,ho,R,h=>wp_exit ⟨g,S,H,ho,R,h⟩
 |.ret,Q,g,S,H,a,w,bK,ho,R,h=>wp_ret ⟨g,S,H,ho,R,h⟩
 |.rangeFunc ..,_,_,_,_,_,_,_,_,_,h=>h.elim
 |.scope _,_,_,_,_,_,_,_,_,_,h=>h.elim
 |.label _,_,_,_,_,_,_,_,_,_,h=>h.elim
 |.goto _,_,_,_,_,_,_,_,_,_,h=>h.elim
 |.refuse _,_,_,_,_,_,_,_,_,_,h=>h.elim
def AV.out:AV->AV
 |.agg cs=>.agg (cs.map cI)
 |v=>v
def c_(P:Program)(n:Nat)(S:an)(H:ao):ResultVar->Option AV
 |.tmp t=>if t<n/\(S t).b_=true then some (S t)else none
 |.cell a t=>if a < n then
   match S a with
   |.box i off=>match H i,P.info? t,P.underlying t with
    |some cs,some it,some d=>cd (eh d) it.size (cs.drop off)
    |_,_,_=>none
   |_=>none
  else none
def db(P:Program)(n:Nat)(S:an)(H:ao):List ResultVar->Option (List AV)
 |[]=>some []
 |r::rs=>match c_ P n S H r,db P n S H rs with
  |some v,some vs=>some (v::vs)
  |_,_=>none
def cH(P:Program)(n:Nat)(rs:List ResultVar)(S:an)(H:ao):Option AV:=
 match db P n S H rs with
 |some [v]=>some v.out
 |some vs=>some (.dY (vs.map AV.vw))
 |none=>none
def Kn(a:Act):ResultVar->Sem Value
 |.tmp t=>pure (a.tmps.getD t undef)
 |.cell x t=>do loadVar t (<-asAddr (a.tmps.getD x undef))
def Js (R:Rel P w0 n bP g S H a w) {r:ResultVar} {v:AV} (h:c_ P n S H r=some v) :
  ∃c,(Kn a r).run P w=.ok c w/\RD g.Pr w v c/\zM P g.base g.hi w v c:=by
 cases r with
 |tmp t=>
  simp only[c_]at h
  split at h<;>cases h
  rename_i hc;refine⟨a.tmps.getD t undef,rfl,(R.slot t hc.1 id).dX hc.2,?_⟩;have ho:=R.own t hc.1 id;generalize S t=v at ho;generalize a.tmps.getD t undef=c at ho
  cases v<;>try trivial
  rename_i oo es
  cases oo with
  |view=>trivial
  |nil=>trivial
  |own e=>
   obtain⟨i,xs,b,h1,h2,h3,h4,h5⟩:=ho;exact⟨i,xs,b,h1,h2,h3,h5⟩
 |cell x t=>
  simp only[c_]at h;split at h
  case isFalse=>cases h
  rename_i hx;have hs:=R.slot x hx id;generalize S x=q at h hs;generalize lE:a.tmps.getD x undef=cx at hs
  cases hs<;>(try cases h;done)
  case data hh=>cases hh<;>cases h
  rename_i i off b jC;obtain⟨cs,vs,Cj,k1,k2,k3,k4,k5,k6,k7,k8,k9⟩:=R.box i b jC;simp only[k1]at h;split at h
  case h_2=>cases h
  rename_i fX it d qM hit hd;cases qM
  obtain ⟨c,h1,h2,h3⟩:=tE (Pr:=g.Pr) (al:=g.al) (P:=P) (w:=w) (b:=b) (off:=off) hit hd (vs:=fun k=>vs.getD (off+k) undef) (fun k hk=>by
    simp only[ael]at hk
    have:off+k<vs.size:=zo
    simp[World.cell?,k3,this]) (λk hk=>by
    simp only[ael]at hk;simp only[ae3]
    exact k9 (off+k) zo) (λk hk=>by
    simp only[ael]at hk;simp only[ae3];have hh:=k7 (off+k) zo zo
    have:off+k<vs.size:=zo
    simpa[this]using hh) h
  refine⟨c,by simp only[Kn,lE,asAddr,adK,Sem.run_pure,Result.andThen_ok,h1],h2,?_⟩;rw[<-h3]
  cases v<;>try trivial
  rename_i oo es
  cases oo<;>trivial
def sS (R:Rel P w0 n bP g S H a w):∀ {rs:List ResultVar} {vs:List AV},db P n S H rs=some vs →
  ∃cs:List Value,(rs.mapM (Kn a)).run P w=Result.ok cs w/\vs.length=cs.length/\
   ∀i (h:i<vs.length)(h':i<cs.length),RD g.Pr w vs[i] cs[i]/\zM P g.base g.hi w vs[i] cs[i]
 |[],vs,h=>by cases h;exact⟨[],ahB,rfl,λi h=>by simp at h⟩
 |r::rs,vs,h=>by
  simp only[db]at h
  split at h<;>cases h
  rename_i v lu h1 h2;obtain⟨c,r1,r2,r3⟩:=Js R h1;obtain⟨cs,q1,q2,q3⟩:=sS R h2;refine⟨c::cs,?_,by simp[q2],λi hi du=>?_⟩
  .simp[List.mapM_cons,r1,q1]
  .cases i with
   |zero=>exact⟨r2,r3⟩
   |succ i=>exact q3 i (by simpa using hi) (by simpa using du)
def vG (R:Rel P w0 n bP g S H a w) {fn:Func} {v:AV} (h:cH P n fn.results.toList S H=some v) :
  ∃c,(results fn a.tmps).run P w=.ok c w/\RD g.Pr w v c/\zM P g.base g.hi w v c:=by
 unfold cH at h
 have dE:∀ cs:List Value,(fn.results.toList.mapM (Kn a)).run P w=Result.ok cs w →
   (results fn a.tmps).run P w=.ok (if h:cs.toArray.size=1 then cs.toArray[0]else .tuple cs.toArray) w:=by
  intro cs qM;unfold results;rw[Array.mapM_eq_mapM_toList]
  have e:(fn.results.toList.mapM λr=>match r with|.tmp t=>(pure (a.tmps.getD t undef):Sem Value)|.cell x t=>do loadVar t (<-asAddr (a.tmps.getD x undef)))=fn.results.toList.mapM (Kn a):=by
   congr 1
  simp only[adK,Sem.run_map]
  erw[e]
  rw[qM]
  rfl
 split at h
 .rename_i v' hv;cases h;obtain⟨cs,q1,q2,q3⟩:=sS R hv
  match cs,q2 with
  |[c],_=>
   have h1:=(q3 0 ahB ahB).1;have h2:=(q3 0 ahB ahB).2;simp only[List.getElem_cons_zero]at h1 h2;refine⟨c,by rw[dE _ q1];rfl,?_,?_⟩
   .cases v'<;>first|exact h1|exact h1.vw
   .cases v'<;>first|exact h2|trivial
 .rename_i vs cD xT;cases h;obtain⟨cs,q1,q2,q3⟩:=sS R xT;refine⟨.tuple cs.toArray,?_,.dY _ _ (by simp[q2]) (λi h h'=>?_),trivial⟩
  .rw[dE _ q1,dif_neg];intro hl
   have:vs.length=1:=by rw[q2];simpa using hl
   match vs,this with
   |[v],_=>exact cD v rfl
  .simp only[adH]at h;simp only[adR,List.getElem_toArray];exact(q3 i h (by simpa using h')).1.vw
 .cases h
def post(P:Program)(n:Nat)(rs:List ResultVar)(out:iK):dV->an->ao->Prop
 |.normal,S,H|.ret,S,H=>∃v,cH P n rs S H=some v/\out=.ret v
 |.panic v,_,_=>out=.panic v
 |_,_,_=>False
def start(args:List AV):an:=λt=>(args.getD t cy).aI
def AC.Ts (hG:ar GI) (hm:P.follows .mixedOrders=true) {f:Nat} {fn:Func} {c:Code} {args:List AV} {out:iK} (hf:P.funcs[f]? = some fn) (hb:fn.body=some c) (hn:fn.ntmps=n) (hl:args.length≤n) {ac:af} (hc:dK P n c=ac)
  (h:bB P GI ac (post P n fn.results.toList out) (start args) (λ_=>none)):AC P GI f args out:=by
 intro w old bT gD hlen hr;refine afJ hf hb ?_;subst hc
 let g:Gh:={ base:=w.heap.size,old:=Old.plain old w,al:=λ_=>none,hi:=λ_=>0,owner:=λ_=>none }
 have bl:(bT++Array.replicate (fn.ntmps-bT.size) undef).size=n:=by simp;omega
 have R:Rel P w n bP g (start args) (λ_=>none) { tmps:=bT++Array.replicate (fn.ntmps-bT.size) undef,defers:=[] } w:=by
  refine{ size:=bl,defers:=rfl,facts:=λ_ h=>(by cases h),slot:=?_,own:=?_,box:=?_,jU:=?_,jR:=?_,inj:=?_,base:=rfl,below:=aeC _ _,fresh:=λb _=>⟨rfl,rfl⟩,still:=⟨λ_ _ h=>h.elim,λ_ h=>h.elim⟩,grown:=adF _,kept:=λ_ _ h=>(by cases h) }
  .intro t ht _
   by_cases MH:t<args.length
   .have h1:start args t=args[t].aI:=by simp[start,MH]
    have h2:(bT++Array.replicate (fn.ntmps-bT.size) undef).getD t undef=bT[t]' zo:=by
     have:t<bT.size:=zo
     simp[afB,this]
    rw[h1,h2];refine((hr t MH zo).mono (bg.same λb k aq hp=>.inl ⟨aq,hp⟩) (λ_ _ h=>h)).aI
   .have h1:start args t=cy:=by simp[start,MH,cy,AV.aI]
    have h2:(bT++Array.replicate (fn.ntmps-bT.size) undef).getD t undef=undef:=by
     have:¬t<bT.size:=zo
     simp only[adY,afB,this,ad1]
     by_cases hh:t-bT.size<fn.ntmps-bT.size
     .simp[hh]
     .simp[hh]
    rw[h1,h2];exact .data _ _ (uV _ _)
  .intro t ht _;exact h_ _ _ _
  .intro i b h;cases h
  .intro i cs h;cases h
  .intro i h;rfl
  .intro i j b h;cases h
 refine ag8 (mP hG gD hm c _ g _ _ _ w (λ_ _ h=>h) rfl R h) ?_;intro e a' w' he
 have fin:(∃ g' S H,g'.old=Old.plain old w∧Rel P w n bP g' S H a' w'∧∃ v,cH P n fn.results.toList S H=some v∧out = .ret v) →
   a'.defers=[]/\∃v,(results fn a'.tmps).run P w'=.ok v w'/\Ends P old w out (.returned v) w':=by
  rintro⟨g',S,H,e1,R',v,hv,rfl⟩;obtain⟨c,r1,r2,r3⟩:=vG R' hv;refine⟨by rw[R'.defers,e1];rfl,c,r1,?_,g'.hi,λb hb=>(R'.fresh b hb).1,c,rfl,?_,?_⟩
  .have:=R'.below;rwa [R'.base]at this
  .have:g'.Pr=pU w.heap.size old g'.hi:=by
    funext b k
    simp only[Gh.Pr,pU,R'.base,e1,Old.plain]
   rw[this]at r2;exact .data _ _ r2
  .rwa [R'.base]at r3
 cases e with
 |normal=>exact fin he
 |ret=>exact fin he
 |exit id=>obtain⟨_,_,_,_,_,h⟩:=he;exact h.elim
 |panic chain=>
  obtain⟨hd,v,c,hi,S,H,h1,h2,h3,h4,h5⟩:=he;subst h1;cases(show out=.panic v from h5);exact⟨hd,h2,hi,h3,c,rfl,h4⟩
 |goto l=>exact he.elim
 |outgrown=>exact he.elim
end
abbrev SL:=List AV
abbrev HL:=List (Option (List AV))
def gS(s:SL):an:=λt=>s.getD t cy
def gH(h:HL):ao:=λt=>h.getD t none
inductive Res where
 |go (s:SL) (h:HL)|panic (v:AV)
def Res.on(K:an->ao->Prop)(Qp:AV->Prop):Res->Prop
 |.go s h=>K (gS s) (gH h)
 |.panic v=>Qp v
abbrev CB:=Nat->List AV->Option iK
def TI(P:Program)(call:CB)(f:Nat)(args:List AV)(bx:Bool):Option iK:=
 if ee P f then match call f args with
  |some out=>if bx&&!out.wV then none else some out
  |none=>none
 else none
section
variable{P:Program}{GI:World->Prop}{call:CB}(ml:∀f args out,call f args=some out->AC P GI f args out)
include ml
end
def FR(ro:Option Nat):Fence:={ Fence.wide with round:=ro }
def iV{ro:Option Nat}{m:Nat}{P:Program}{f:FuncId}{args:Array Value}{w:World}{R:Ending->World->Prop}:CallsIn (FR ro) m P f args w R↔Calls P f args w R:=
 callsIn_wide (n:=m)
def Mz{ro:Option Nat}{m:Nat}{P:Program}{row:String}{args:Array Value}{w:World}{R:Value->World->Prop}(h:Rows P row args w R):RowsIn (FR ro) m P row args w R:=
 λc cs _=>let⟨v,w',r,s⟩:=h c cs;⟨v,w',r,stepsIn_wide.2 s⟩
def fy{m:Nat}{P:Program}{c:Code}{Q:Exit->Act->World->Prop}{a:Act}{w:World}:c.wpIn (FR none) m P Q a w↔c.wp P Q a w:=wpIn_wide (n:=m)
def eK:Op->Bool
 |.defer _=>false
 |_=>true
section
variable{P:Program}{Q:Exit->Act->World->Prop}{ro:Option Nat}{m:Nat}
def D_{o:Oper}{a:Act}{w:World}{K:Act->World->Prop}(dO:eK o.op=true)(h:o.wp P a w K Q):o.wpIn (FR ro) m P a w K Q:=by
 refine⟨λ_ _=>trivial,?_⟩;unfold Oper.wp at h;rw[ae_ _ _ _ (λc hc=>by rw[hc]at dO;cases dO)]
 generalize(execOp a.eval o).run P w=r at*
 have hd:(FR ro).depth.isSome=true->1<=m:=λh=>by simp[FR,Fence.wide]at h
 cases r with
 |ok x w'=>
  cases x<;>simp only[Oper.upon,Oper.uponIn]at h⊢<;>first
   |exact h
   |exact⟨hd,iV.2 h⟩
   |exact⟨hd,Mz h⟩
 |halt x w'=>cases x<;>simp only[Oper.upon,Oper.uponIn]at h⊢<;>exact h
def qu{ops:Array Oper}(dO:ops.all (λo=>eK o.op)=true)(hQ:¬LetsOut Q):∀(l:List Nat)(a:Act)(w:World),wpOps P ops Q l a w->wpOpsIn (FR ro) m P ops Q l a w
 |[],_,_,h=>h
 |i::l,a,w,h=>by
  simp only[wpOps,wpOpsIn]at h⊢
  cases ho:ops[i]? with
  |none=>simp only[ho]at h⊢;exact qu dO hQ l a w h
  |some o=>
   simp only[ho]at h⊢
   have hc:eK o.op=true:=by
    have:=aeP.1 dO o (aeK ho);exact this
   split
   .rename_i hw;simp only[hw,aed]at h
    rcases h with h|⟨_,h⟩
    .exact D_ hc (Oper.wp_mono (λa w hh=>qu dO hQ l a w hh) h)
    .exact absurd h hQ
   .rename_i hw;simp only[hw,adM,ad1]at h;exact⟨λ_ _=>trivial,qu dO hQ l _ w h⟩
def Sn{ops:Array Oper}(dO:ops.all (λo=>eK o.op)=true)(hQ:¬LetsOut Q){i:Nat}{K:Act->World->Prop}{a:Act}{w:World}(h:wpOp P ops Q i K a w):wpOpIn (FR ro) m P ops Q i K a w:=by
 unfold wpOp at h;unfold wpOpIn
 cases ho:ops[i]? with
 |none=>simp only[ho]at h⊢;exact h
 |some o=>
  simp only[ho]at h⊢
  have hc:eK o.op=true:=by
   have:=aeP.1 dO o (aeK ho);exact this
  split
  .rename_i hw;simp only[hw,aed]at h
   rcases h with h|⟨_,h⟩
   .exact D_ hc h
   .exact absurd h hQ
  .rename_i hw;simp only[hw,adM,ad1]at h;exact⟨λ_ _=>trivial,h⟩
def wk{ops:Array Oper}{md:Region.Mode}(dO:ops.all (λo=>eK o.op)=true)(hQ:¬LetsOut Q):∀(fuel:Nat)(listed:Array Bool)(a:Act)(w:World),wpAny P md ops Q fuel listed a w->wpAnyIn (FR ro) m P md ops Q fuel listed a w
 |0,_,_,_,h=>h
 |fuel+1,listed,a,w,h=>⟨h.1,λi hi=>wpOpIn_mono (λa w hh=>wk dO hQ fuel _ a w hh) (Sn dO hQ (h.2 i hi))⟩
def kW:Code->Bool
 |.region _ ops _=>ops.all λo=>eK o.op
 |.seq x y|.cond _ x y=>kW x&&kW y
 |.block _ c|.loop c=>kW c
 |_=>true
end
section
variable{P:Program}{GI:World->Prop}{w0:World}{n:Nat}{g:Gh}{S:an}{H:ao}{a:Act}{w:World}{ro:Option Nat}{m:Nat}
def qo{old:Old}{Q:dV->an->ao->Prop}:¬LetsOut (QQ P w0 n old Q):=λ⟨_,_,h⟩=>h
def rr (hG:ar GI) (cm:GI w0) {old:Old} {ops:Array Oper} {Q:dV→an→ao→Prop} (dO:ops.all (fun o=>eK o.op)=true) (bV:(bh P n false ops).all (·.ok n)=true) (bK:∀ o∈bh P n false ops,∀ d∈o.jx,¬ old.bx d) (ho:g.old=old) (R:Rel P w0 n bP g S H a w)
  (h:bq P GI (bh P n false ops) (Q .normal) (λv=>Q (.panic v) S H) S H):wpOpsIn (FR ro) m P ops (QQ P w0 n old Q) (List.range ops.size) a w:=by
 refine qu dO qo _ _ _ (rY hG cm (S0:=S) (H0:=H) (List.range ops.size) ops.toList g S H a w ?_ (λo kE=>?_) (λo kE=>bK _ (afM kE)) ho R h)
 .apply ae5;intro i;simp only[ad9]
  by_cases hi:i<ops.size
  .simp[hi]
  .simp[hi]
 .simp only[bh,afl,adQ,Function.comp]at bV;exact bV o kE
def HE (hG:ar GI) (cm:GI w0) {old:Old} {id:Nat} {ops:Array Oper} {Q:dV→an→ao→Prop} (dO:ops.all (fun o=>eK o.op)=true) (bV:(bh P n false ops).all (·.ok n)=true) (bK:∀ o∈bh P n false ops,∀ d∈o.jx,¬ old.bx d) (ho:g.old=old) (R:Rel P w0 n bP g S H a w)
  (h:bq P GI (bh P n false ops) (Q .normal) (λv=>Q (.panic v) S H) S H):(Code.region id ops false).wpIn (FR ro) m P (QQ P w0 n old Q) a w:=
 aea (rr hG cm dO bV bK ho R h)
def l6 (hG:ar GI) (cm:GI w0) (hm:P.follows .mixedOrders=true) {old:Old} {ops:Array Oper} {Q:dV→an→ao→Prop} (dO:ops.all (fun o=>eK o.op)=true) (bV:LU P n ops=true) (bK:∀ o∈bh P n true ops,∀ d∈o.jx,¬ old.bx d) (ho:g.old=old) (R:Rel P w0 n bP g S H a w)
  (h:cV P GI (bh P n true ops) (Q .normal) (eP (bh P n true ops) S) (dW (bh P n true ops) H)):wpAnyIn (FR ro) m P .any ops (QQ P w0 n old Q) ops.size (Array.replicate ops.size false) a { w with drawn:=w.drawn+1 }:=by
 simp only[LU,adE,adL]at bV;obtain⟨⟨⟨h1,h2⟩,h3⟩,h4⟩:=bV;refine wk dO qo _ _ _ _ ?_;have R0:Rel P w0 n bP g S H a { w with drawn:=w.drawn+1 }:=R.jV ((aeC _ w).drew)
 obtain⟨g',e1,e2,R'⟩:=Rel.eP (bh P n true ops) R0 h3 (λd hd=>by
  simp only[dw,afz,adP]at hd;obtain⟨o,kE,⟨d',z⟩,k1,rfl⟩:=hd;rw[ho];refine bK o kE d' ?_;unfold bD at k1;split at k1
  .rename_i h1 h2;cases k1;simp[bI.jx,h1,h2,eG.jx]
  .cases k1)
 have hU:UU P n ops (Array.replicate ops.size false)=(λt=>bP t\/t∈dw (bh P n true ops)):=by
  funext t
  simp only[UU,bP,ahb,ago,dw,afz,adP]
  constructor
  .rintro⟨j,o,z,k1,k2,k3⟩;rw[<-fG]at k1;exact⟨o,aeN k1,(t,z),k2,rfl⟩
  .rintro⟨o,ho,⟨d,z⟩,k1,rfl⟩;obtain⟨j,hj⟩:=ahs ho;refine⟨j,o,z,by rw[<-fG];exact hj,k1,?_⟩
   have:j<ops.size:=by
    have:=(ad0.1 hj).1;simpa[bh]using this
   simp[this]
 refine HH hG cm h2 (λo kE=>?_) ops.size (Array.replicate ops.size false) g' _ _ a _ ahB (e2.trans ho) (by rw[hU];exact R') (λj o d z k1 k2 k3=>?_) ?_
 .simp only[bh,afl,adQ,Function.comp]at h1;exact h1 o (by simpa using kE)
 .rw[<-fG]at k1;exact zz _ S H h3 o (aeN k1) d z k2
 .have:=Au (QA:=Q .normal) ops.toList 0 (Array.replicate ops.size false) _ _ ahB (by simpa using h4) h;simpa using this
def FB (hG:ar GI) (cm:GI w0) (hm:P.follows .mixedOrders=true) {old:Old} {id:Nat} {ops:Array Oper} {Q:dV→an→ao→Prop} (dO:ops.all (fun o=>eK o.op)=true) (bV:LU P n ops=true) (bK:∀ o∈bh P n true ops,∀ d∈o.jx,¬ old.bx d) (ho:g.old=old) (R:Rel P w0 n bP g S H a w)
  (h:cV P GI (bh P n true ops) (Q .normal) (eP (bh P n true ops) S) (dW (bh P n true ops) H)):(Code.region id ops true).wpIn (FR ro) m P (QQ P w0 n old Q) a w:=
 afi hm (l6 hG cm hm dO bV bK ho R h)
abbrev fa:=dV->Old->an->ao->Prop
def QS(P:Program)(w0:World)(n:Nat)(Q:fa):Exit->Act->World->Prop
 |.normal,a,w=>∃g S H,Rel P w0 n bP g S H a w/\Q .normal g.old S H
 |.exit id,a,w=>∃g S H,Rel P w0 n bP g S H a w/\Q (.exit id) g.old S H
 |.ret,a,w=>∃g S H,Rel P w0 n bP g S H a w/\Q .ret g.old S H
 |.panic chain,a,w=>∃(o:Old)(v:AV)(c:Value)(hi:Nat->Nat)(S:an)(H:ao),a.defers=o.ds/\chain=[{ v:=c,recovered:=false }]/\Below w0.heap.size w0 w/\(∀b,w.heap.size<=b->hi b=0)/\RD (pU w0.heap.size o.c hi) w v c/\Q (.panic v) o S H
 |_,_,_=>False
def SW(P:Program)(GI:World->Prop)(n:Nat)(ro:Option Nat)(c:Code)(Q:fa)(old:Old)(S:an)(H:ao):Prop:=
 ∀(w0:World)(g:Gh)(a:Act)(w:World)(m:Nat),GI w0->g.old=old->Rel P w0 n bP g S H a w->c.wpIn (FR ro) m P (QS P w0 n Q) a w
def thenS(K:Old->an->ao->Prop)(Q:fa):fa
 |.normal=>K
 |e=>Q e
def mO(id:Nat)(Q:fa):fa
 |.exit j=>if j=id then Q .normal else Q (.exit j)
 |e=>Q e
variable{old:Old}{Q Q':fa}
def QS.mono(h:∀e o S H,Q e o S H->Q' e o S H){e:Exit}{a:Act}{w:World}(hq:QS P w0 n Q e a w):QS P w0 n Q' e a w:=by
 cases e<;>simp only[QS]at hq⊢
 case normal=>obtain⟨g,S,H,h2,h3⟩:=hq;exact⟨g,S,H,h2,h _ _ _ _ h3⟩
 case exit=>obtain⟨g,S,H,h2,h3⟩:=hq;exact⟨g,S,H,h2,h _ _ _ _ h3⟩
 case ret=>obtain⟨g,S,H,h2,h3⟩:=hq;exact⟨g,S,H,h2,h _ _ _ _ h3⟩
 case panic=>obtain⟨o,v,c,hi,S,H,h1,h2,h3,h4,h5,h6⟩:=hq;exact⟨o,v,c,hi,S,H,h1,h2,h3,h4,h5,h _ _ _ _ h6⟩
def SW.mono{c:Code}(h:∀e o S H,Q e o S H->Q' e o S H)(hs:SW P GI n ro c Q old S H):SW P GI n ro c Q' old S H:=
 λw0 g a w m hG ho R=>afo (hs w0 g a w m hG ho R) λ_ _ _ hq=>QS.mono h hq
def SW.seq{x y:Code}(hx:SW P GI n ro x (thenS (SW P GI n ro y Q) Q) old S H):SW P GI n ro (.seq x y) Q old S H:=by
 intro w0 g a w m hG ho R;refine adT (afo (hx w0 g a w m hG ho R) ?_);intro e a' w' he
 cases e with
 |normal=>
  obtain⟨g',S',H',h2,h3⟩:=he;exact h3 w0 g' a' w' m hG rfl h2
 |exit id=>exact he
 |ret=>exact he
 |panic ch=>exact he
 |goto l=>exact he.elim
 |outgrown=>exact he.elim
def SW.block{id:Nat}{c:Code}(hc:SW P GI n ro c (mO id Q) old S H):SW P GI n ro (.block id c) Q old S H:=by
 intro w0 g a w m hG ho R;refine ae9 (afo (hc w0 g a w m hG ho R) ?_);intro e a' w' he
 cases e with
 |normal=>exact he
 |exit j=>
  obtain⟨g',S',H',h2,h3⟩:=he;simp only[mO]at h3;simp only[Exit.inBlock];split
  .rename_i hj;rw[if_pos hj]at h3;exact⟨g',S',H',h2,h3⟩
  .rename_i hj;rw[if_neg hj]at h3;exact⟨g',S',H',h2,h3⟩
 |ret=>exact he
 |panic ch=>exact he
 |goto l=>exact he.elim
 |outgrown=>exact he.elim
def SW.cond{c:Operand}{c':cT}{x y:Code}(hc:dz n c=some c')(b:Bool)(hb:ev S c'=.bool b)(h:SW P GI n ro (if b then x else y) Q old S H):SW P GI n ro (.cond c x y) Q old S H:=by
 intro w0 g a w m hG ho R;have hv:=R.ev hc (λ_ _=>id);rw[hb]at hv
 have:a.eval c=.bool b:=by
  generalize a.eval c=v at hv;cases hv;rename_i hv;cases hv;rfl
 exact aeB this (h w0 g a w m hG ho R)
def SW.exit{id:Nat}(h:Q (.exit id) old S H):SW P GI n ro (.exit id) Q old S H:=
 λ_ g _ _ _ _ ho R=>afS ⟨g,S,H,R,by rw[ho];exact h⟩
def SW.ret(h:Q .ret old S H):SW P GI n ro .ret Q old S H:=
 λ_ g _ _ _ _ ho R=>afC ⟨g,S,H,R,by rw[ho];exact h⟩
def SW.skip(h:Q .normal old S H):SW P GI n ro .skip Q old S H:=
 λ_ g _ _ _ _ ho R=>afb ⟨g,S,H,R,by rw[ho];exact h⟩
def SW.loop{c:Code}(I:Old->an->ao->Prop)(μ:an->ao->Nat)(h0:I old S H)(hr:∀o S H,I o S H->SW P GI n ro c (thenS (λo' S' H'=>I o' S' H'/\μ S' H'<μ S H) Q) o S H):SW P GI n ro (.loop c) Q old S H:=by
 intro w0 g a w m hG ho R;subst ho
 have key:∀ (k:Nat) (g:Gh) (S:an) (H:ao) (a:Act) (w:World),Rel P w0 n bP g S H a w→I g.old S H→μ S H=k→∀ (b:Frame) (kk:List Item) (cs:List Frame),b.roundOf=ro→(FR ro).room (cs.length+1+m) →
   ∃e a' w',QS P w0 n Q e a' w'/\ArrivesIn (Machine.fenced P (FR ro)) P (lone (b.atR a (.code c::.inLoop c::kk)) cs w) b kk cs e a' w':=by
  intro k
  induction k using Nat.strongRecOn with
  |_ k ih=>
   intro g S H a w R hI hk b kk cs wy iQ;obtain⟨e,jy,lR,hq,iq⟩:=hr g.old S H hI w0 g a w m hG rfl R b (.inLoop c::kk) cs wy trivial iQ
   cases e with
   |normal=>
    obtain⟨g',S',H',h2,h3,h4⟩:=hq;obtain⟨DJ,Dl,Ep,xI,qN⟩:=ih _ (by rw[<-hk];exact h4) g' S' H' jy lR h2 h3 rfl b kk cs wy iQ;exact⟨DJ,Dl,Ep,xI,.of_steps (ag1 iq (.one (afW (F:=FR ro) (fr:=b.atR jy (.inLoop c::kk)) trivial iQ rfl) ahL)) qN⟩
   |exit id=>exact⟨.exit id,jy,lR,hq,.pass (x:=.inLoop c) rfl (λ_ _=>.inl ahB) iq⟩
   |goto l=>exact hq.elim
   |ret=>exact⟨.ret,jy,lR,hq,.pass (x:=.inLoop c) rfl (λ_ _=>.inl ahB) iq⟩
   |panic ch=>exact⟨.panic ch,jy,lR,hq,.pass (x:=.inLoop c) rfl (λ_ _=>.inl ahB) iq⟩
   |outgrown=>exact hq.elim
 intro b kk cs wy hF iQ;obtain⟨e,a',w',hq,iq⟩:=key _ g S H a w R h0 rfl b kk cs wy iQ;exact⟨e,a',w',hq,.of_steps (.one (afW (F:=FR ro) (fr:=b.atR a (.code (.loop c)::kk)) trivial iQ rfl) stepR_loop) iq⟩
def fa.bB(old:Old)(Q:fa):dV->an->ao->Prop
 |e,S,H=>Q e old S H
def Ag{e:Exit}{a:Act}{w:World}(h:QQ P w0 n old (Q.bB old) e a w):QS P w0 n Q e a w:=by
 cases e<;>simp only[QQ,QS]at h⊢
 case normal=>obtain⟨g,S,H,h1,h2,h3⟩:=h;exact⟨g,S,H,h2,by rw[h1];exact h3⟩
 case exit=>obtain⟨g,S,H,h1,h2,h3⟩:=h;exact⟨g,S,H,h2,by rw[h1];exact h3⟩
 case ret=>obtain⟨g,S,H,h1,h2,h3⟩:=h;exact⟨g,S,H,h2,by rw[h1];exact h3⟩
 case panic=>obtain⟨h1,v,c,hi,S,H,h2,h3,h4,h5,h6⟩:=h;exact⟨old,v,c,hi,S,H,h1,h2,h3,h4,h5,h6⟩
def iX (hG:ar GI) (cm:GI w0) (hm:P.follows .mixedOrders=true) {old:Old} :
  ∀(c:Code)(Q:dV->an->ao->Prop)(g:Gh)(S:an)(H:ao)(a:Act)(w:World),kW c=true->(∀d∈(dK P n c).names,¬old.bx d)->g.old=old->Rel P w0 n bP g S H a w->bB P GI (dK P n c) Q S H->c.wpIn (FR ro) m P (QQ P w0 n old Q) a w
 |.skip,Q,g,S,H,a,w,_,bK,ho,R,h=>afb ⟨g,S,H,ho,R,h⟩
 |.region id ops draw,Q,g,S,H,a,w,dO,bK,ho,R,h=>by
  simp only[dK]at h bK
  cases draw with
  |true=>
   simp only[aed]at h bK;split at h
   case isFalse=>exact h.elim
   rename_i bV;rw[if_pos bV]at bK;exact FB hG cm hm dO bV (λo kE d hd=>bK d (aei.2 ⟨o,kE,hd⟩)) ho R h
  |false=>
   simp only[adM,ad1]at h bK;split at h
   case isFalse=>exact h.elim
   rename_i bV;rw[if_pos bV]at bK;exact HE hG cm dO bV (λo kE d hd=>bK d (aei.2 ⟨o,kE,hd⟩)) ho R h
 |.seq x y,Q,g,S,H,a,w,dO,bK,ho,R,h=>by
  simp only[kW,adE]at dO;refine adT (afo (iX hG cm hm x _ g S H a w dO.1 (λd hd=>bK d (by simp[dK,af.names,hd])) ho R h) ?_);intro e a' w' he
  cases e with
  |normal=>
   obtain⟨g',S',H',h1,h2,h3⟩:=he;exact iX hG cm hm y Q g' S' H' a' w' dO.2 (λd hd=>bK d (by simp[dK,af.names,hd])) h1 h2 h3
  |exit id=>exact he
  |ret=>exact he
  |panic ch=>exact he
  |goto l=>exact he.elim
  |outgrown=>exact he.elim
 |.cond c x y,Q,g,S,H,a,w,dO,bK,ho,R,h=>by
  simp only[kW,adE]at dO;simp only[dK]at h;split at h
  case h_2=>exact h.elim
  rename_i c' hc;simp only[dK,hc,af.names,adG]at bK;simp only[bB]at h;have hv:=R.ev hc (λ_ _=>id)
  have key:∀b,a.eval c=.bool b->(if b then x else y).wpIn (FR ro) m P (QQ P w0 n old Q) a w->(Code.cond c x y).wpIn (FR ro) m P (QQ P w0 n old Q) a w:=λb hb h=>aeB hb h
  split at h
  .rename_i hb;rw[hb]at hv
   have:a.eval c=.bool true:=by
    generalize a.eval c=v at hv;cases hv;rename_i hv;cases hv;rfl
   exact key true this (iX hG cm hm x Q g S H a w dO.1 (λd hd=>bK d (.inl hd)) ho R h)
  .rename_i hb;rw[hb]at hv
   have:a.eval c=.bool false:=by
    generalize a.eval c=v at hv;cases hv;rename_i hv;cases hv;rfl
   exact key false this (iX hG cm hm y Q g S H a w dO.2 (λd hd=>bK d (.inr hd)) ho R h)
  .rename_i hb;rw[hb]at hv
   have:∃b,a.eval c=.bool b:=by
    generalize a.eval c=v at hv;cases hv;rename_i hv;cases hv;exact⟨_,rfl⟩
   obtain⟨b,hb⟩:=this
   cases b with
   |true=>exact key true hb (iX hG cm hm x Q g S H a w dO.1 (λd hd=>bK d (.inl hd)) ho R h.1)
   |false=>exact key false hb (iX hG cm hm y Q g S H a w dO.2 (λd hd=>bK d (.inr hd)) ho R h.2)
  .exact h.elim
 |.block id c,Q,g,S,H,a,w,dO,bK,ho,R,h=>by
  refine ae9 (afo (iX hG cm hm c _ g S H a w dO (λd hd=>bK d (by simpa[dK,af.names]using hd)) ho R h) ?_);intro e a' w' he
  cases e with
  |normal=>exact he
  |exit j=>
   obtain⟨g',S',H',h1,h2,h3⟩:=he;simp only[dQ]at h3;simp only[Exit.inBlock];split
   .rename_i hj;rw[if_pos hj]at h3;exact⟨g',S',H',h1,h2,h3⟩
   .rename_i hj;rw[if_neg hj]at h3;exact⟨g',S',H',h1,h2,h3⟩
  |ret=>exact he
  |panic ch=>exact he
  |goto l=>exact he.elim
  |outgrown=>exact he.elim
 |.loop c,Q,g,S,H,a,w,dO,bK,ho,R,h=>by
  obtain⟨I,μ,h0,hr⟩:=h
  have key:∀ (k:Nat) (g:Gh) (S:an) (H:ao) (a:Act) (w:World),g.old=old→Rel P w0 n bP g S H a w→I S H→μ S H=k→∀ (b:Frame) (kk:List Item) (cs:List Frame),b.roundOf=ro→(FR ro).room (cs.length+1+m) →
    ∃e a' w',QQ P w0 n old Q e a' w'/\ArrivesIn (Machine.fenced P (FR ro)) P (lone (b.atR a (.code c::.inLoop c::kk)) cs w) b kk cs e a' w':=by
   intro k
   induction k using Nat.strongRecOn with
   |_ k ih=>
    intro g S H a w ho R hI hk b kk cs wy iQ;obtain⟨e,jy,lR,hq,iq⟩:=iX hG cm hm c _ g S H a w dO (λd hd=>bK d (by simpa[dK,af.names]using hd)) ho R (hr S H hI) b (.inLoop c::kk) cs wy trivial iQ
    cases e with
    |normal=>
     obtain⟨g',S',H',h1,h2,h3,h4⟩:=hq;obtain⟨DJ,Dl,Ep,xI,qN⟩:=ih _ (by rw[<-hk];exact h4) g' S' H' jy lR h1 h2 h3 rfl b kk cs wy iQ;exact⟨DJ,Dl,Ep,xI,.of_steps (ag1 iq (.one (afW (F:=FR ro) (fr:=b.atR jy (.inLoop c::kk)) trivial iQ rfl) ahL)) qN⟩
    |exit id=>exact⟨.exit id,jy,lR,hq,.pass (x:=.inLoop c) rfl (λ_ _=>.inl ahB) iq⟩
    |goto l=>exact hq.elim
    |ret=>exact⟨.ret,jy,lR,hq,.pass (x:=.inLoop c) rfl (λ_ _=>.inl ahB) iq⟩
    |panic ch=>exact⟨.panic ch,jy,lR,hq,.pass (x:=.inLoop c) rfl (λ_ _=>.inl ahB) iq⟩
    |outgrown=>exact hq.elim
  intro b kk cs wy hF iQ;obtain⟨e,a',w',hq,iq⟩:=key _ g S H a w ho R h0 rfl b kk cs wy iQ;exact⟨e,a',w',hq,.of_steps (.one (afW (F:=FR ro) (fr:=b.atR a (.code (.loop c)::kk)) trivial iQ rfl) stepR_loop) iq⟩
 |.exit id,Q,g,S,H,a,w,_,bK,ho,R,h=>afS ⟨g,S,H,ho,R,h⟩
 |.ret,Q,g,S,H,a,w,_,bK,ho,R,h=>afC ⟨g,S,H,ho,R,h⟩
 |.rangeFunc ..,_,_,_,_,_,_,_,_,_,_,h=>h.elim
 |.scope _,_,_,_,_,_,_,_,_,_,_,h=>h.elim
 |.label _,_,_,_,_,_,_,_,_,_,_,h=>h.elim
 |.goto _,_,_,_,_,_,_,_,_,_,_,h=>h.elim
 |.refuse _,_,_,_,_,_,_,_,_,_,_,h=>h.elim
def SW.fP (hG:ar GI) (hm:P.follows .mixedOrders=true) {c:Code} (hc:kW c=true) (bK:∀ d∈(dK P n c).names,¬ old.bx d) {ac:af} (oL:dK P n c=ac)
  (h:bB P GI ac (Q.bB old) S H):SW P GI n ro c Q old S H:=by
 subst oL;intro w0 g a w m cm ho R
 exact afo (iX hG cm hm c _ g S H a w hc bK ho R h) λ_ _ _ hq=>Ag hq
end
def xx(g:Gh)(b:Nat):Prop:=g.base<=b/\g.hi b=0/\g.owner b=none/\∀i,g.al i≠some b
structure l8(M:Nat->Prop)(w w':World):Prop where
 os:w'.os=w.os
 tape:w'.tape=w.tape
 output:w'.output=w.output
 size:w.heap.size<=w'.heap.size
 block:∀b,b<w.heap.size->¬M b->w'.heap[b]?=w.heap[b]?
def l8.refl(M:Nat->Prop)(w:World):l8 M w w:=⟨rfl,rfl,rfl,adF _,λ_ _ _=>rfl⟩
def l8.trans{M M' M'':Nat->Prop}{w w' jv:World}(h:l8 M w w')(h':l8 M' w' jv)(h1:∀b,M b->M'' b)(h2:∀b,M' b->b<w.heap.size->M'' b):l8 M'' w jv:=
 ⟨h'.os.trans h.os,h'.tape.trans h.tape,h'.output.trans h.output,aeL h.size h'.size,λb hb hm=>
  (h'.block b (aet hb h.size) λhh=>hm (h2 b hh hb)).trans (h.block b hb λhh=>hm (h1 b hh))⟩
def l8.vX{M:Nat->Prop}{w w':World}(h:Below w.heap.size w w'):l8 M w w':=⟨h.os,h.tape,h.output,h.size,λb hb _=>h.block b hb⟩
def l8.below{M:Nat->Prop}{w w':World}(h:l8 M w w'){k:Nat}(hk:k<=w.heap.size)(hM:∀b,M b->k<=b):Below k w w':=
 ⟨h.os,h.tape,h.output,h.size,λb hb=>h.block b (aet hb hk) λhm=>by have:=hM b hm;omega⟩
section
variable{P:Program}{w0:World}{n:Nat}{g:Gh}{S:an}{H:ao}{a:Act}{w w':World}
def Rel.dS(R:Rel P w0 n bP g S H a w){M:Nat->Prop}(ht:l8 M w w')(hM:∀b,M b->xx g b)(hk:∀b,M b->g.old.aU b=none):Rel P w0 n bP g S H a w':=by
 have eO:bg g.Pr g.Pr w w':=bg.qq λb k aq hp=>ht.block b aq λhm=>by
  obtain⟨h1,h2,_⟩:=hM b hm;rcases hp with hp|hp
  .omega
  .rw[h2]at hp;omega
 refine R.ext rfl rfl rfl eO ?_ ?_ ?_ ?_ ?_ ht.size
 .intro i b hi;obtain⟨_,_,_,_,_,h3,_⟩:=R.box i b hi;exact⟨ht.block b (adD.1 h3).1 λhm=>(hM b hm).2.2.2 i hi,rfl,rfl⟩
 .intro b loc ho
  have aq:b<w.heap.size:=by
   rcases ae6 b w.heap.size with h|h
   .exact h
   .rw[(R.fresh b h).2]at ho;cases ho
  exact⟨ht.block b aq λhm=>(by rw[(hM b hm).2.2.1]at ho;cases ho),rfl,ho⟩
 .exact R.below.trans (ht.below (by rw[R.base];exact R.below.size) λb hm=>(hM b hm).1)
 .exact λb hb=>R.fresh b (aeL ht.size hb)
 .intro b o hko ho;exact⟨by rw[ht.block b (adD.1 ho).1 (λhm=>by rw[hk b hm]at hko;cases hko)];exact ho,rfl,rfl⟩
open Classical in
noncomputable def Gh.k_(g:Gh)(G:Nat->Prop)(du:Nat->Nat):Gh:={ g with hi:=λb=>if G b then du b else g.hi b }
def Rel.k_(R:Rel P w0 n bP g S H a w){G:Nat->Prop}(du:Nat->Nat)(hG:∀b,G b->xx g b/\b<w.heap.size/\g.old.aU b=none):Rel P w0 n bP (g.k_ G du) S H a w:=by
 have hn:∀b,¬G b->(g.k_ G du).hi b=g.hi b:=λb hb=>by simp[Gh.k_,hb]
 have qJ:∀b k,g.Pr b k->(g.k_ G du).Pr b k:=by
  intro b k hp
  by_cases hb:G b
  .obtain⟨⟨h1,h2,_⟩,_⟩:=hG b hb;rcases hp with hp|hp
   .omega
   .rw[h2]at hp;omega
  .rcases hp with hp|hp
   .exact .inl hp
   .exact .inr ⟨hp.1,by rw[hn b hb];exact hp.2⟩
 refine R.ext (g':=g.k_ G du) rfl rfl rfl (bg.same λb k _ hp=>qJ b k hp) ?_ ?_ R.below ?_ ?_ (adF _)
 .intro i b hi;exact⟨rfl,hn b λhb=>(hG b hb).1.2.2.2 i hi,rfl⟩
 .intro b loc ho;exact⟨rfl,hn b (λhb=>by rw[(hG b hb).1.2.2.1]at ho;cases ho),ho⟩
 .intro b hb;exact⟨by rw[hn b (λh=>by have:=(hG b h).2.1;omega)];exact(R.fresh b hb).1,(R.fresh b hb).2⟩
 .intro b o hk ho;exact⟨ho,hn b (λh=>by rw[(hG b h).2.2]at hk;cases hk),rfl⟩
def Rel.mQ(R:Rel P w0 n bP g S H a w){l:Nat}{o:Obj}(hl:g.old.aU l=some o)(o':Obj):Rel P w0 n bP { g with old:={ g.old with aU:=au g.old.aU l (some o') } } S H a (w.putObj l o'):=by
 obtain⟨k1,k2,k3,k4,k5⟩:=R.kept l o hl;have aq:l<w.heap.size:=(adD.1 k2).1
 have l_:∀b,b≠l->(w.putObj l o').heap[b]?=w.heap[b]?:=λb hb=>ahg hb
 have cD:∀b k,g.Pr b k->b≠l:=by
  rintro b k hp rfl;rcases hp with hp|hp
  .omega
  .rw[k3]at hp;omega
 have hK:bg g.Pr g.Pr w (w.putObj l o'):=bg.qq λb k _ hp=>l_ b (cD b k hp)
 have lC:(w.putObj l o').heap.size=w.heap.size:=by simp[World.putObj]
 refine{ size:=R.size,defers:=R.defers,facts:=λp hp=>(R.facts p hp).mono hK λ_ _ h=>h,slot:=λt ht hu=>(R.slot t ht hu).mono hK λ_ _ h=>h,own:=λt ht hu=>(R.own t ht hu).aU rfl λb' il=>⟨l_ b' (by rintro rfl;rw[k4]at il;cases il),rfl,il⟩,box:=?_,jU:=R.jU,jR:=R.jR,inj:=R.inj,base:=R.base,below:=?_,fresh:=?_,still:=R.still.trans hK,grown:=by rw[lC];exact R.grown,kept:=?_ }
 .intro i b hi;obtain⟨cs,vs,ty,h1,h2,h3,h4,h5,h6,h7,h8,h9⟩:=R.box i b hi
  have lr:b≠l:=by rintro rfl;exact k5 i hi
  refine⟨cs,vs,ty,h1,h2,by rw[l_ b lr];exact h3,h4,h5,h6,λj hj dZ=>(h7 j hj dZ).mono hK,λj hj dZ=>(h8 j hj dZ).aU rfl λb' il=>⟨l_ b' (by rintro rfl;rw[k4]at il;cases il),rfl,il⟩,h9⟩
 .refine R.below.trans ⟨rfl,rfl,rfl,by rw[lC];exact adF _,λk hk=>l_ k zo⟩
 .intro b hb;rw[lC]at hb;exact R.fresh b hb
 .intro b ob h
  by_cases lr:b=l
  .subst lr
   have:ob=o':=by simpa[au]using h.symm
   subst this;exact⟨k1,ahj aq,k3,k4,k5⟩
  .have h:g.old.aU b=some ob:=by simpa[au,lr]using h
   obtain⟨q1,q2,q3,q4,q5⟩:=R.kept b ob h;exact⟨q1,by rw[l_ b lr];exact q2,q3,q4,q5⟩
def Rel.Ex (R:Rel P w0 n bP g S H a w) (o2:Old) {a2:Act} {S2:an} (hc:o2.c=g.old.c) (bl:a2.tmps.size=n) (eR:a2.defers=o2.ds)
  (hf:∀p∈o2.facts,RV g.Pr g.al w p.1 p.2) (eJ:bg o2.sp g.Pr o2.sw w) (iH:o2.sw.heap.size<=w.heap.size) (hk:∀b o,o2.aU b=some o->xx g b/\w.heap[b]?=some o)
  (hS:∀t,t<n->(S2 t).aI=S2 t/\RV g.Pr g.al w (S2 t) (a2.tmps.getD t undef)):Rel P w0 n bP { g with old:=o2 } S2 H a2 w:=by
 have qJ:({ g with old:=o2 }:Gh).Pr=g.Pr:=by
  funext b k
  simp only[Gh.Pr,hc]
 refine{ size:=bl,defers:=eR,facts:=by rw[qJ];exact hf,slot:=λt ht _=>by rw[qJ];exact(hS t ht).2,own:=λt ht _=>?_,box:=?_,jU:=R.jU,jR:=R.jR,inj:=R.inj,base:=R.base,below:=R.below,fresh:=R.fresh,still:=by rw[qJ];exact eJ,grown:=iH,kept:=?_ }
 .rw[<-(hS t ht).1];exact eQ.aI
 .intro i b hi;obtain⟨cs,vs,ty,h1,h2,h3,h4,h5,h6,h7,h8,h9⟩:=R.box i b hi;exact⟨cs,vs,ty,h1,h2,h3,h4,h5,h6,by rw[qJ];exact h7,λj hj dZ=>(h8 j hj dZ).aU rfl λb hb=>⟨rfl,rfl,hb⟩,h9⟩
 .intro b o h;obtain⟨⟨q1,q3,q4,q5⟩,q2⟩:=hk b o h;exact⟨q1,q2,q3,q4,q5⟩
def VJ(L:Nat->Bool):AV->Bool
 |.box i _=>L i
 |.func ..|.gY _=>true
 |_=>false
def pG(L:Nat->Bool)(v:AV):AV:=match v with
 |.box i o=>if L i then .bp else .box i o
 |.func fn f c=>if f.any (VJ L)||c.any (VJ L)then .bp else .func fn f c
 |.gY _=>.bp
 |v=>v.aI
def RV.pG{Pr:Nat->Nat->Prop}{al:Nat->Option Nat}{w:World}{v:AV}{c:Value}{L:Nat->Bool}(h:RV Pr al w v c):RV Pr al w (Go.AL.pG L v) c:=by
 have hd:=h.aI
 cases v<;>simp only[Go.AL.pG]<;>(try exact hd)
 .split
  .exact .bp _
  .exact h
 .split
  .exact .bp _
  .exact h
 .exact .bp _
def SY(L:Nat->Bool)(v:AV):(pG L v).aI=pG L v:=by
 cases v<;>simp only[pG]<;>try rfl
 .rename_i o es;cases o<;>rfl
 .split<;>rfl
 .split<;>rfl
def P4(L:Nat->Bool)(v:AV):flat (pG L v)=true:=by
 cases v<;>simp only[pG]<;>try rfl
 .rename_i o es;cases o<;>rfl
 .split<;>rfl
 .split
  .rfl
  .rename_i fn f c h;simp only[afn,agE,aeE]at h;simp only[flat,adE,adQ];refine⟨λv hv=>?_,λv hv=>?_⟩
   .have:=h.1 v hv
    cases v<;>first|rfl|(cases this;done)
   .have:=h.2 v hv
    cases v<;>first|rfl|(cases this;done)
def Oi(L:Nat->Bool)(v:AV)(d:Nat)(hd:L d=true):cb d (pG L v)=pG L v:=by
 have key:∀v,VJ L v=false->¬kI d v=true:=by
  intro v hv hs
  cases v<;>simp only[kI]at hs<;>(try cases hs)<;>(try cases hv)
  simp only[aej]at hs;subst hs;simp only[VJ,hd]at hv;cases hv
 cases v<;>simp only[pG]<;>try rfl
 .rename_i o es;cases o<;>rfl
 .split
  .rfl
  .rename_i i o h;simp only[cb];rw[if_neg];rintro rfl;exact h hd
 .split
  .rfl
  .rename_i fn f c h;simp only[afn,agE,aeE]at h;simp only[cb];rw[if_neg];simp only[aeZ,ae8,not_or,not_exists,not_and];exact⟨λv hv=>key v (h.1 v hv),λv hv=>key v (h.2 v hv)⟩
end
structure Cons(P:Program)(GI:World->Prop)(l:Nat)(xs:List AV) where
 J:Nat->(Nat->Prop)->(Nat->Nat->Prop)->World->Prop
 X:(Nat->Prop)->(Nat->Nat->Prop)->World->Prop
 gi:∀{k M Pr w},J k M Pr w->GI w
 apart:∀{k M Pr w},J k M Pr w->∀b j,M b->¬Pr b j
 dS:∀{k M M' Pr w w'},J k M Pr w->l8 M w w'->(∀b,M' b->b<w'.heap.size/\(M b\/w.heap.size<=b))->J k M' Pr w'
 aap:∀{M M' Pr w w'},X M Pr w->l8 M w w'->(∀b,M' b->b<w'.heap.size/\(M b\/w.heap.size<=b))->X M' Pr w'
 round:∀{k:Nat}(hk:k<xs.length){M Pr w}(G:Nat->Prop)(du:Nat->Nat)(c:Value),J k M Pr w->(∀b,G b->M b)->RD (λb j=>Pr b j\/(G b/\j<du b)) w xs[k] c->
  ∃f tmps assign body,(Instr.yield l #[c]).run P w=.ok (.round l f tmps assign body) w/\
   ∀m,RoundIn (FR none) m P l f tmps assign body w λe w'=>(∀b,M b->¬G b->w'.heap[b]?=w.heap[b]?)/\∃e_,bg Pr e_ w w'/\
    ((e=.returned (.bool true)/\J (k+1) (λb=>M b/\¬G b) e_ w')\/(e=.returned (.bool false)/\X (λb=>M b/\¬G b) e_ w'))
def cQ:Nat->Option Nat:=λ_=>none
def yp(P:Program)(GI:World->Prop)(f:Nat)(caps:List AV)(xs:List AV):Prop:=
 ∀(l:Nat)(C:Cons P GI l xs)(w:World)(Pr:Nat->Nat->Prop)(bT:Array Value),C.J 0 (λ_=>False) Pr w->caps.length=bT.size->
  (∀i (h:i<caps.length)(h':i<bT.size),RV Pr cQ w caps[i] bT[i])->
  Calls P f (#[.func (.yield l) #[] #[]]++bT) w λe w'=>∃v M e_,e=.returned v/\(C.J xs.length M e_ w'\/C.X M e_ w')
def Jf:AV->Bool
 |.box ..|.func ..|.gY _=>false
 |_=>true
def OW:AV->Bool
 |.box ..|.gY _=>false
 |.func _ f c=>f.all Jf&&c.all Jf
 |_=>true
def RV.PJ{Pr:Nat->Nat->Prop}{al:Nat->Option Nat}{w:World}{v:AV}{c:Value}(h:RV Pr al w v c)(hv:Jf v=true):RV Pr Go.AL.cQ w v c:=by
 cases h with
 |data v c h=>exact .data _ _ h
 |box=>cases hv
 |func=>cases hv
 |gY=>cases hv
 |bp c=>exact .bp c
def RV.cQ{Pr:Nat->Nat->Prop}{al:Nat->Option Nat}{w:World}{v:AV}{c:Value}(h:RV Pr al w v c)(hv:OW v=true):RV Pr Go.AL.cQ w v c:=by
 cases h with
 |data v c h=>exact .data _ _ h
 |box=>cases hv
 |func fn f c vs us h1 h2 r1 r2=>
  simp only[OW,adE,adQ]at hv;exact .func _ _ _ _ _ h1 h2 (λi hi du=>(r1 i hi du).PJ (hv.1 _ (adC hi))) (λi hi du=>(r2 i hi du).PJ (hv.2 _ (adC hi)))
 |gY=>cases hv
 |bp c=>exact .bp c
def Old.mark(o:Old)(D:Nat):Old:={ o with ds:={ target:=.collected D,args:=#[] }::o.ds,aU:=au o.aU D (some (.deferred (some []))) }
def HM:dV->Option Code
 |.exit id=>some (.exit id)
 |.ret=>some .ret
 |_=>none
def ub(I:ao->Prop)(Ix:dV->ao->Prop):dV->an->ao->Prop
 |.normal,_,H=>I H
 |.panic _,_,_=>False
 |e,_,H=>Ix e H
def aN(K:an->ao->Prop):dV->an->ao->Prop
 |.normal,S,H=>K S H
 |_,_,_=>False
section
variable{P:Program}{GI:World->Prop}{n:Nat}{S:an}{H:ao}
open Classical in
def SW.range (hG:ar GI) (hm:P.follows .mixedOrders=true) {old:Old} {Q:fa} {OM:Operand} {y:cT} {p:Tmp} {assign body:Code} {f:Nat} {caps xs:List AV}
  (hg:dz n OM=some y) (hS:ev S y=.func (.func f) [] caps) (hf:ee P f=true) (pO:caps.all OW=true) (hit:yp P GI f caps xs) (hp:p<n) (qU:∀x∈xs,x.aI=x)
  (L:Nat->Bool) {aa ab:af} (haa:dK P n assign=aa) (vn:dK P n body=ab) (hLa:∀d∈aa.names,L d=true) (hLb:∀d∈ab.names,L d=true) (hLo:∀d,L d=true->¬old.bx d)
  (Cd:kW assign=true) (jJ:kW body=true) (I:Nat->ao->Prop) (Ix:dV->ao->Prop) (h0:I 0 H)
  (yY:∀k (hk:k<xs.length) H',I k H'->bB P GI aa (aN (bB P GI ab (ub (I (k+1)) Ix))) (au (λt=>pG L (S t)) p xs[k]) H')
  (Yv:∀D H',old.aU D=none->I xs.length H'->Q .normal (old.mark D) (λt=>pG L (S t)) H')
  (aan:∀D e H',old.aU D=none->(HM e).isSome=true->Ix e H'->Q e (old.mark D) (λt=>pG L (S t)) H'):
  SW P GI n none (.rangeFunc OM #[p] assign body) Q old S H:=by
 subst haa vn;intro w0 g a w m cm ho R;subst ho;refine wpIn_rangeFunc ?_;intro fn UT
 obtain⟨rec,yM⟩:∃rec:LoopState->Option Code->Loop,rec=λst pe=>{ state:=st,pending:=pe,fn,tmps:=a.tmps,params:=#[p],assign,body,defers:=w.heap.size }:=⟨_,rfl⟩
 obtain⟨W1,Wj⟩:∃W1,(w.alloc (.deferred (some []))).alloc (.loop (rec .ready none))=W1:=⟨_,rfl⟩
 obtain⟨D,hD⟩:∃D,w.heap.size=D:=⟨_,rfl⟩
 have hL1:W1.heap[D+1]?=some (.loop (rec .ready none)):=by
  rw[<-Wj,<-hD];have:=aew (w.alloc (.deferred (some []))) (.loop (rec .ready none));rwa [World.size_alloc]at this
 have hK1:W1.heap[D]?=some (.deferred (some [])):=by
  rw[<-Wj,<-hD];exact(ahc _ _ _ ahB).trans (aew w _)
 have nN:Below w.heap.size w W1:=by
  rw[<-Wj];exact(((aeC _ w).alloc (adF _) _).alloc ahB _)
 have R1:Rel P w0 n bP g S H a W1:=R.jV nN
 have hle:g.base<=D:=by rw[<-hD,R.base];exact R.below.size
 have mX:∀b,D<=b->xx g b:=λb hb=>⟨zo,(R.fresh b zo).1,(R.fresh b zo).2,λi hi=>by
  obtain⟨_,_,_,_,_,h3,_⟩:=R.box i b hi;have:=(adD.1 h3).1
  omega⟩
 have Cq:∀b,D<=b->g.old.aU b=none:=λb hb=>by
  cases hk:g.old.aU b with
  |none=>rfl
  |some o=>have:=(adD.1 (R.kept b o hk).2.1).1;omega
 have lV:=R.ev hg (λ_ _=>id);rw[hS]at lV
 obtain⟨us,sB,kH,Fq⟩:∃us:Array Value,a.eval OM=.func (.func f) #[] us/\caps.length=us.size/\∀i (h:i<caps.length)(h':i<us.size),RV g.Pr cQ W1 caps[i] us[i]:=by
  generalize hq:a.eval OM=q at lV
  cases lV with
  |data _ _ h=>cases h
  |func _ _ _ vs us h1 h2 r1 r2=>
   have:vs=#[]:=afd (by simpa using h1.symm);subst this;refine⟨us,rfl,h2,λi h h'=>?_⟩;have:=(r2 i h h').cQ (by simp only[adQ]at pO;exact pO _ (adC h))
   exact this.mono (bg.ja (λb aq=>nN.block b aq) λ_ _ _ h=>h) λ_ _ h=>h
 let Se:an:=λt=>pG L (S t)
 let al:Act:={ tmps:=a.tmps,defers:=[] }
 let fs:List (AV×Value):=(List.range n).map λt=>(Se t,a.tmps.getD t undef)
 let kp:Nat->Option Obj:=au (au g.old.aU D (some (.deferred (some [])))) (D+1) (some (.loop (rec .ready none)))
 have bV:∀q∈fs++g.old.facts,flat q.1=true/\∀d,¬(L d=false)->cb d q.1=q.1:=by
  intro q hq;rcases adG.1 hq with h|h
  .obtain⟨t,_,rfl⟩:=adZ.1 h;exact⟨P4 L _,λd hd=>Oi L _ d (by simpa using hd)⟩
  .exact⟨(g.old.ok q h).1,λd hd=>(g.old.ok q h).2 d (hLo d (by simpa using hd))⟩
 let mk:(Nat->Option Obj)->(Nat->Nat->Prop)->World->Old:=λaU sp sw=>
  { c:=g.old.c,facts:=fs++g.old.facts,bx:=λd=>L d=false,ds:=[],aU:=aU,sp:=sp,sw:=sw,ok:=bV }
 let Gs:Old:=mk kp g.old.sp g.old.sw
 let kx:Code->Nat->Option Obj:=λc=>au kp (D+1) (some (.loop (rec .done (some c))))
 have ZK:∀t,(Se t).aI=Se t:=λt=>SY L _
 have bl:a.tmps.size=n:=R.size
 have PK:∀{g':Gh}{W:World}{H':ao}{n' S' a'},Rel P w0 n' bP g' S' H' a' W->g'.old.facts=fs++g.old.facts->∀t,t<n->(Se t).aI=Se t/\RV g'.Pr g'.al W (Se t) (a.tmps.getD t undef):=by
  intro g' W H' n' S' a' R' hfa t ht;exact⟨ZK t,R'.facts (Se t,a.tmps.getD t undef) (by rw[hfa];exact afH _ (adZ.2 ⟨t,aeb.2 ht,rfl⟩))⟩
 have adf:∀b,D<=b->b≠D->b≠D+1->kp b=none:=λb hb h1 h2=>by simp[kp,au,h1,h2,Cq b hb]
 have Rf:kp (D+1)=some (.loop (rec .ready none)):=aO _ _ _
 let J:Nat->(Nat->Prop)->(Nat->Nat->Prop)->World->Prop:=λk M Pr W=>∃g' H',Rel P w0 n bP g' Se H' al W/\g'.old=Gs/\g'.Pr=Pr/\I k H'/\∀b,M b->xx g' b/\b<W.heap.size/\kp b=none
 let X:(Nat->Prop)->(Nat->Nat->Prop)->World->Prop:=λM Pr W=>∃e jc g' H',Rel P w0 n bP g' Se H' al W/\g'.old=mk (kx jc) g.old.sp g.old.sw/\HM e=some jc/\g'.Pr=Pr/\Ix e H'/\∀b,M b->xx g' b/\b<W.heap.size/\kp b=none
 have Fk:∀{g':Gh}{H':ao}{W:World},Rel P w0 n bP g' Se H' al W->GI W:=λR'=>by
  have hb:=R'.below;rw[R'.base]at hb;exact hG w0 _ cm hb
 have RI:∀{g':Gh}{H':ao}{W:World}(k':Nat->Option Obj),Rel P w0 n bP g' Se H' al W->g'.old.aU=k'->(∀b,kp b=none↔k' b=none)->∀b,W.heap.size<=b->xx g' b/\kp b=none:=by
  intro g' H' W k' R' hk z_ b hb;refine⟨⟨?_,(R'.fresh b hb).1,(R'.fresh b hb).2,λi hi=>?_⟩,?_⟩
  .have:=R'.below.size;rw[R'.base];omega
  .obtain⟨_,_,_,_,_,h3,_⟩:=R'.box i b hi;have:=(adD.1 h3).1;omega
  .rw[z_]
   cases hq:k' b with
   |none=>rfl
   |some o=>have:=(adD.1 (R'.kept b o (by rw[hk];exact hq)).2.1).1;omega
 have Kq:∀c b,kp b=none↔kx c b=none:=λc b=>by
  by_cases hb:b=D+1
  .subst hb;simp[Rf,kx,au]
  .simp[kx,au,hb]
 let C:Cons P GI (D+1) xs:={
  J:=J
  X:=X
  gi:=λ⟨g',H',R',_⟩=>Fk R'
  apart:=by
   rintro k M Pr W ⟨g',H',R',e1,rfl,e3,e4⟩ b j hb hp;obtain⟨⟨h1,h2,_⟩,_⟩:=e4 b hb;rcases hp with hp|hp
   .omega
   .rw[h2]at hp;omega
  dS:=by
   rintro k M M' Pr W W' ⟨g',H',R',e1,e2,e3,e4⟩ ht Z2;have R2:=R'.dS ht (λb hb=>(e4 b hb).1) (λb hb=>by rw[e1];exact(e4 b hb).2.2);refine⟨g',H',R2,e1,e2,e3,λb hb=>?_⟩;obtain⟨q1,q2⟩:=Z2 b hb;rcases q2 with q2|q2
   .exact⟨(e4 b q2).1,q1,(e4 b q2).2.2⟩
   .obtain⟨z1,z2⟩:=RI kp R' (by rw[e1]) (λ_=>Iff.rfl) b q2;exact⟨z1,q1,z2⟩
  aap:=by
   rintro M M' Pr W W' ⟨e,jc,g',H',R',e1,ej,e2,e3,e4⟩ ht Z2;have R2:=R'.dS ht (λb hb=>(e4 b hb).1) (λb hb=>by rw[e1];exact(Kq jc b).1 (e4 b hb).2.2);refine⟨e,jc,g',H',R2,e1,ej,e2,e3,λb hb=>?_⟩;obtain⟨q1,q2⟩:=Z2 b hb;rcases q2 with q2|q2
   .exact⟨(e4 b q2).1,q1,(e4 b q2).2.2⟩
   .obtain⟨z1,z2⟩:=RI (kx jc) R' (by rw[e1]) (Kq jc) b q2;exact⟨z1,q1,z2⟩
  round:=by
   rintro k hk M Pr W G du c ⟨g',H',R',e1,rfl,e3,e4⟩ Rl hx
   have hkg:∀b,M b->g'.old.aU b=none:=λb hb=>by rw[e1];exact(e4 b hb).2.2
   have Rc:=R'.k_ (G:=G) du (λb hb=>⟨(e4 b (Rl b hb)).1,(e4 b (Rl b hb)).2.1,hkg b (Rl b hb)⟩)
   obtain⟨gc,vg⟩:∃gc,g'.k_ G du=gc:=⟨_,rfl⟩
   rw[vg]at Rc
   have gco:gc.old=Gs:=by rw[<-vg];exact e1
   have hKc:bg g'.Pr gc.Pr W W:=bg.same λb j _ Cc=>by
    rw[<-vg]
    by_cases hb:G b
    .obtain⟨⟨h1,h2,_⟩,_⟩:=e4 b (Rl b hb);rcases Cc with hp|hp
     .omega
     .rw[h2]at hp;omega
    .rcases Cc with hp|hp
     .exact .inl hp
     .exact .inr ⟨hp.1,by simpa[Gh.k_,hb]using hp.2⟩
   have Ig:RD gc.Pr W xs[k] c:=hx.mono (bg.same λb j aq Cc=>by
    rcases Cc with Cc|⟨h1,h2⟩
    .by_cases hex:∃u,W.cell? ⟨b,j,none⟩=some u
     .obtain⟨u,hu⟩:=hex;exact(hKc.cell b j Cc u hu).1
     .rw[<-vg]
      by_cases hb:G b
      .obtain⟨⟨h1,h2,_⟩,_⟩:=e4 b (Rl b hb);rcases Cc with hp|hp
       .omega
       .rw[h2]at hp;omega
      .rcases Cc with hp|hp
       .exact .inl hp
       .exact .inr ⟨hp.1,by simpa[Gh.k_,hb]using hp.2⟩
    .rw[<-vg]
     exact .inr ⟨(e4 b (Rl b h1)).1.1,by simpa[Gh.k_,h1]using h2⟩)
   let kr:Nat->Option Obj:=λb=>if M b/\¬G b then W.heap[b]? else kp b
   have hMl:¬M (D+1):=λhh=>by have:=(e4 _ hh).2.2;rw[Rf]at this;cases this
   have krl:kr (D+1)=some (.loop (rec .ready none)):=by simp[kr,hMl,Rf]
   have Rr:=Rc.Ex (mk kr gc.Pr W) (a2:={ tmps:=a.tmps.setIfInBounds p c,defers:=[] }) (S2:=au Se p xs[k]) (by rw[gco]) (by simpa using bl) rfl
    (λq hq=>Rc.facts q (by rw[gco];exact hq)) (bg.same λ_ _ _ h=>h) (adF _)
    (λb ob hb=>by
     simp only[mk,kr]at hb;split at hb
     .rename_i M8;obtain⟨h1,h2,h3,h4⟩:=(e4 b M8.1).1;exact⟨⟨by rw[<-vg];exact h1,by rw[<-vg];simpa[Gh.k_,M8.2]using h2,by rw[<-vg];exact h3,by rw[<-vg];exact h4⟩,hb⟩
     .obtain⟨h1,h2,h3,h4,h5⟩:=Rc.kept b ob (by rw[gco];exact hb)
      exact⟨⟨h1,h3,h4,h5⟩,h2⟩)
    (λt ht=>by
     by_cases SM:t=p
     .subst SM;rw[aO];refine⟨qU _ (adC hk),.data _ _ ?_⟩
      have:(a.tmps.setIfInBounds t c).getD t undef=c:=by simp[bl,ht]
      rw[this];exact Ig
     .rw[aT _ _ SM]
      have:(a.tmps.setIfInBounds p c).getD t undef=a.tmps.getD t undef:=by
       simp[adN (aeq SM)]
      rw[this]
      exact⟨ZK t,(Rc.slot t ht id)⟩)
   have wK:W.heap[D+1]?=some (.loop (rec .ready none)):=(R'.kept (D+1) _ (by rw[e1];exact Rf)).2.1;have hy:=run_yield (P:=P) (args:=#[c]) wK (by rw[yM];rfl);rw[yM]at hy
   have hy':(Instr.yield (D+1) #[c]).run P W=.ok (.round (D+1) fn (a.tmps.setIfInBounds p c) assign body) W:=by rw[hy];simp
   refine⟨fn,_,assign,body,hy',λm'=>roundIn_of_wpIn (F:=FR none) trivial ?_⟩;show assign.wpIn (FR (some (D+1))) m' P _ { tmps:=a.tmps.setIfInBounds p c,defers:=[] } W;refine afo (iX hG cm hm (old:=mk kr gc.Pr W) assign _ _ _ H' _ W Cd (λd hd (hh:L d=false)=>by have:=hLa d hd;rw[this]at hh;cases hh) rfl Rr (yY k hk H' e3)) ?_;intro e a1 w1 hq
   cases e with
   |normal=>
    obtain⟨g1,S1,H1,Ai,QG,hb⟩:=hq;have Ir:w1.heap[D+1]?=some (.loop (rec .ready none)):=(QG.kept (D+1) _ (by rw[Ai];exact krl)).2.1;have hbr:=run_beginRound (P:=P) Ir (by rw[yM]);refine⟨_,hbr,?_⟩;have R2:=QG.mQ (l:=D+1) (o:=.loop (rec .ready none)) (by rw[Ai];exact krl) (.loop { rec .ready none with state:=.busy })
    let kb:Nat->Option Obj:=au kr (D+1) (some (.loop { rec .ready none with state:=.busy }))
    have QN:({ g1.old with aU:=au g1.old.aU (D+1) (some (.loop { rec .ready none with state:=.busy })) }:Old)=mk kb gc.Pr W:=by rw[Ai]
    refine afo (iX hG cm hm (old:=mk kb gc.Pr W) body _ _ _ _ _ _ jJ (λd hd (hh:L d=false)=>by have:=hLb d hd;rw[this]at hh;cases hh) QN R2 hb) ?_;have kbl:kb (D+1)=some (.loop { rec .ready none with state:=.busy }):=aO _ _ _
    have fin:∀ (g3:Gh) (S3:an) (H3:ao) (a3:Act) (w3:World) (jump:Option Code),g3.old=mk kb gc.Pr W→Rel P w0 n bP g3 S3 H3 a3 w3 →
      ∃w4,(Instr.endRound (D+1) jump).run P w3=.ok (.bool jump.isNone) w4/\(∀b,M b->¬G b->w4.heap[b]?=W.heap[b]?)/\∃g4,bg g'.Pr g4.Pr W w4/\
       Rel P w0 n bP g4 Se H3 al w4/\g4.old=mk (au kp (D+1) (some (.loop (rec (if jump.isNone then .ready else .done) jump)))) g.old.sp g.old.sw/\∀b,M b/\¬G b->xx g4 b/\b<w4.heap.size/\kp b=none:=by
     intro g3 S3 H3 a3 w3 jump Af R3;have Ci:w3.heap[D+1]?=some (.loop { rec .ready none with state:=.busy }):=(R3.kept (D+1) _ (by rw[Af];exact kbl)).2.1;have JI:=run_endRound (P:=P) jump Ci
     obtain⟨w4,nz⟩:∃w4,w3.putObj (D+1) (.loop { ({ rec .ready none with state:=.busy }:Loop)with state:=if jump.isNone then .ready else .done,pending:=jump })=w4:=⟨_,rfl⟩
     rw[nz]at JI;have R4:=R3.mQ (l:=D+1) (o:=.loop { rec .ready none with state:=.busy }) (by rw[Af];exact kbl) (.loop { ({ rec .ready none with state:=.busy }:Loop)with state:=if jump.isNone then .ready else .done,pending:=jump });rw[nz]at R4
     have Oy:({ ({ rec .ready none with state:=.busy }:Loop)with state:=if jump.isNone then .ready else .done,pending:=jump })=rec (if jump.isNone then .ready else .done) jump:=by rw[yM]
     rw[Oy]at R4
     have ho4:({ g3.old with aU:=au g3.old.aU (D+1) (some (.loop (rec (if jump.isNone then .ready else .done) jump))) }:Old)=mk (au kr (D+1) (some (.loop (rec (if jump.isNone then .ready else .done) jump)))) gc.Pr W:=by
      rw[Af];simp only[mk,Old.mk.injEq,aha,agd]
      funext b
      by_cases lX:b=D+1
      .subst lX;simp[au]
      .simp[au,kb,lX]
     obtain⟨g4,hg4⟩:∃g4,({ g3 with old:={ g3.old with aU:=au g3.old.aU (D+1) (some (.loop (rec (if jump.isNone then .ready else .done) jump))) } }:Gh)=g4:=⟨_,rfl⟩
     rw[hg4]at R4
     have Bh:g4.old=mk (au kr (D+1) (some (.loop (rec (if jump.isNone then .ready else .done) jump)))) gc.Pr W:=by rw[<-hg4];exact ho4
     have hKW:bg g'.Pr g4.Pr W w4:=hKc.trans (by have:=R4.still;rw[Bh]at this;exact this)
     have aa6:∀b,M b->b≠D+1:=by rintro b hb rfl;exact hMl hb
     have hkr:∀b,M b->¬G b->∃ob,W.heap[b]?=some ob/\g4.old.aU b=some ob:=by
      intro b hb mT;have aq:=(e4 b hb).2.1;refine⟨W.heap[b],by simp[aq],?_⟩;rw[Bh];simp[mk,au,aa6 b hb,kr,hb,mT,aq]
     have R5:=R4.Ex (mk (au kp (D+1) (some (.loop (rec (if jump.isNone then .ready else .done) jump)))) g.old.sp g.old.sw) (a2:=al) (S2:=Se) (by rw[Bh]) bl rfl
      (λq hq=>R4.facts q (by rw[Bh];exact hq)) (by
       have h1:=R'.still;rw[e1]at h1
       exact h1.trans hKW) (by
       have h1:=R'.grown;rw[e1]at h1;have h2:=R4.grown;rw[Bh]at h2
       exact aeL h1 h2)
      (λb ob hb=>by
       have hq:g4.old.aU b=some ob:=by
        rw[Bh];simp only[mk]at hb⊢
        by_cases lX:b=D+1
        .subst lX;simpa[au]using hb
        .simp only[aT _ _ lX]at hb⊢;simp only[kr];rw[if_neg];exact hb;rintro⟨hMb,_⟩;rw[(e4 b hMb).2.2]at hb;cases hb
       obtain⟨h1,h2,h3,h4,h5⟩:=R4.kept b ob hq
       exact⟨⟨h1,h3,h4,h5⟩,h2⟩)
      (λt ht=>PK R4 (by rw[Bh]) t ht)
     refine⟨w4,JI,λb hb mT=>?_,{ g4 with old:=mk (au kp (D+1) (some (.loop (rec (if jump.isNone then .ready else .done) jump)))) g.old.sp g.old.sw },?_,R5,rfl,λb hb=>?_⟩
     .obtain⟨ob,h1,h2⟩:=hkr b hb mT;rw[h1];exact(R4.kept b ob h2).2.1
     .have:(({ g4 with old:=mk (au kp (D+1) (some (.loop (rec (if jump.isNone then .ready else .done) jump)))) g.old.sp g.old.sw }:Gh)).Pr=g4.Pr:=by
       funext b j;simp only[Gh.Pr,Bh,mk]
      rw[this];exact hKW
     .obtain⟨ob,h1,h2⟩:=hkr b hb.1 hb.2;obtain⟨q1,q2,q3,q4,q5⟩:=R4.kept b ob h2;exact⟨⟨q1,q3,q4,q5⟩,(adD.1 q2).1,(e4 b hb.1).2.2⟩
    intro e2 a3 w3 Qz
    cases e2 with
    |normal=>
     obtain⟨g3,S3,H3,Af,R3,SU⟩:=Qz;obtain⟨w4,JI,q1,g4,q3,R4,q4,q5⟩:=fin g3 S3 H3 a3 w3 none Af R3;refine⟨_,w4,JI,q1,g4.Pr,q3,.inl ⟨rfl,g4,H3,R4,?_,rfl,SU,q5⟩⟩;rw[q4];simp only[Gs,mk,Old.mk.injEq,aha,agd,Option.isNone_none,aed]
     funext b
     by_cases lX:b=D+1
     .subst lX;simp[au,Rf]
     .simp[au,lX]
    |ret=>
     obtain⟨g3,S3,H3,Af,R3,SU⟩:=Qz;obtain⟨w4,JI,q1,g4,q3,R4,q4,q5⟩:=fin g3 S3 H3 a3 w3 (some .ret) Af R3;exact⟨_,w4,JI,q1,g4.Pr,q3,.inr ⟨rfl,.ret,.ret,g4,H3,R4,q4,rfl,rfl,SU,q5⟩⟩
    |exit id=>
     obtain⟨g3,S3,H3,Af,R3,SU⟩:=Qz;obtain⟨w4,JI,q1,g4,q3,R4,q4,q5⟩:=fin g3 S3 H3 a3 w3 (some (.exit id)) Af R3;exact⟨_,w4,JI,q1,g4.Pr,q3,.inr ⟨rfl,.exit id,.exit id,g4,H3,R4,q4,rfl,rfl,SU,q5⟩⟩
    |panic ch=>obtain⟨_,_,_,_,_,_,_,_,_,_,hh⟩:=Qz;exact hh.elim
    |goto l=>exact Qz.elim
    |outgrown=>exact Qz.elim
   |exit id=>obtain⟨_,_,_,_,_,hh⟩:=hq;exact hh.elim
   |ret=>obtain⟨_,_,_,_,_,hh⟩:=hq;exact hh.elim
   |panic ch=>obtain⟨_,_,_,_,_,_,_,_,_,_,hh⟩:=hq;exact hh.elim
   |goto l=>exact hq.elim
   |outgrown=>exact hq.elim }
 have Ks:∀ (g':Gh) (H':ao) (w2:World) (st:LoopState) (pe:Option Code),st ≠ .busy→Rel P w0 n bP g' Se H' al w2→g'.old=mk (au kp (D+1) (some (.loop (rec st pe)))) g.old.sp g.old.sw →
   ∃w4 g4,(Instr.endLoop (D+1)).run P w2=.ok pe w4/\Rel P w0 n bP g4 Se H' { a with defers:=[{ target:=.collected D,args:=#[] }]++a.defers } w4/\g4.old=g.old.mark D:=by
  intro g' H' w2 st pe eJ R' e1
  have gE:g'.old.aU (D+1)=some (.loop (rec st pe)):=by rw[e1];exact aO _ _ _
  have uO:=(R'.kept (D+1) _ gE).2.1;have Es:=run_endLoop (P:=P) uO (by rw[yM];exact eJ);have R2:=R'.mQ gE (.loop { rec st pe with state:=.exhausted })
  obtain⟨W4,hW4⟩:∃W4,w2.putObj (D+1) (.loop { rec st pe with state:=.exhausted })=W4:=⟨_,rfl⟩
  rw[hW4]at Es R2
  have vj:(rec st pe).pending=pe:=by rw[yM]
  rw[vj]at Es
  have hold:∀b ob,(g.old.mark D).aU b=some ob->({ g' with old:={ g'.old with aU:=au g'.old.aU (D+1) (some (.loop { rec st pe with state:=.exhausted })) } }:Gh).old.aU b=some ob:=by
   intro b ob hb;simp only[Old.mark]at hb
   by_cases XR:b=D
   .subst XR;rw[aO]at hb;cases hb;show au g'.old.aU (b+1) _ b=_;rw[aT _ _ zo,e1];show au kp (b+1) _ b=_;rw[aT _ _ zo];show au (au g.old.aU b _) (b+1) _ b=_;rw[aT _ _ zo,aO]
   .rw[aT _ _ XR]at hb
    have aq:b<D:=by
     rcases ae6 b D with h|h
     .exact h
     .rw[Cq b h]at hb;cases hb
    show au g'.old.aU (D+1) _ b=_;rw[aT _ _ zo,e1];show au kp (D+1) _ b=_;rw[aT _ _ zo];show au (au g.old.aU D _) (D+1) _ b=_;rw[aT _ _ zo,aT _ _ XR];exact hb
  have R3:=R2.Ex (g.old.mark D) (a2:={ a with defers:=[{ target:=.collected D,args:=#[] }]++a.defers }) (S2:=Se) (by show g.old.c=g'.old.c;rw[e1]) bl (by show[_]++a.defers=_::_;rw[R.defers];rfl) (λq hq=>R2.facts q ?_) ?_ ?_ (λb ob hb=>?_) (λt ht=>PK R2 (by show g'.old.facts=_;rw[e1]) t ht)
  .refine⟨_,_,Es,R3,?_⟩
   rfl
  .show q∈g'.old.facts;rw[e1];exact af2 _ hq
  .have h:=R2.still
   have:({ g' with old:={ g'.old with aU:=au g'.old.aU (D+1) (some (.loop { rec st pe with state:=.exhausted })) } }:Gh).old.sp=g.old.sp:=by show g'.old.sp=_;rw[e1]
   rw[this]at h
   have:({ g' with old:={ g'.old with aU:=au g'.old.aU (D+1) (some (.loop { rec st pe with state:=.exhausted })) } }:Gh).old.sw=g.old.sw:=by show g'.old.sw=_;rw[e1]
   rw[this]at h;exact h
  .have h:=R2.grown
   have:({ g' with old:={ g'.old with aU:=au g'.old.aU (D+1) (some (.loop { rec st pe with state:=.exhausted })) } }:Gh).old.sw=g.old.sw:=by show g'.old.sw=_;rw[e1]
   rw[this]at h;exact h
  .obtain⟨h1,h2,h3,h4,h5⟩:=R2.kept b ob (hold b ob hb);exact⟨⟨h1,h3,h4,h5⟩,h2⟩
 refine⟨D+1,[{ target:=.collected D,args:=#[] }],W1,{ target:=.fn (.func f) us,args:=#[.func (.yield (D+1)) #[] #[]] },W1,f,#[.func (.yield (D+1)) #[] #[]]++us,W1,?_,?_,λ_ _=>trivial,?_,λh=>by simp[FR,Fence.wide]at h,?_⟩
 .rw[<-Wj,yM,<-hD];exact run_enterLoop_outer _ _ _ _ _
 .simp only[resolve,sB];simp[go_sem]
 .simp[invoke,go_sem,gp hf]
 .refine iV.2 ((hit (D+1) C W1 g.Pr us ?_ kH Fq).mono ?_)
  .refine⟨{ g with old:=Gs },H,R1.Ex Gs rfl bl rfl (λq hq=>?_) R1.still R1.grown (λb ob hb=>?_) (λt ht=>⟨ZK t,(R1.slot t ht id).pG⟩),rfl,rfl,h0,λb hb=>hb.elim⟩
   .rcases adG.1 hq with h|h
    .obtain⟨t,ht,rfl⟩:=adZ.1 h;exact(R1.slot t (aeb.1 ht) id).pG
    .exact R1.facts q h
   .simp only[Gs,mk,kp]at hb
    by_cases h1:b=D+1
    .subst h1;rw[aO]at hb;cases hb;exact⟨mX _ zo,hL1⟩
    .rw[aT _ _ h1]at hb
     by_cases h2:b=D
     .subst h2;rw[aO]at hb;cases hb;exact⟨mX _ zo,hK1⟩
     .rw[aT _ _ h2]at hb;obtain⟨q1,q2,q3,q4,q5⟩:=R1.kept b ob hb;exact⟨⟨q1,q3,q4,q5⟩,q2⟩
  .rintro e w2 ⟨v,M,e_,rfl,hJ|hX⟩
   .obtain⟨g',H',R',e1,_,hI,_⟩:=hJ
    have Ji:au kp (D+1) (some (.loop (rec .ready none)))=kp:=by
     funext b
     by_cases hb:b=D+1
     .subst hb;rw[aO,Rf]
     .rw[aT _ _ hb]
    obtain⟨w4,g4,h1,R4,h2⟩:=Ks g' H' w2 .ready none ahB R' (by rw[Ji];exact e1);exact⟨none,w4,h1,g4,Se,H',R4,by rw[h2];exact Yv D H' (Cq D (adF _)) hI⟩
   .obtain⟨e,jc,g',H',R',e1,ej,_,hI,_⟩:=hX;obtain⟨w4,g4,h1,R4,h2⟩:=Ks g' H' w2 .done (some jc) ahB R' e1;refine⟨some jc,w4,h1,?_⟩;have hq:=aan D e H' (Cq D (adF _)) (by rw[ej];rfl) hI
    cases e<;>simp only[HM]at ej<;>cases ej
    .exact afS ⟨g4,Se,H',R4,by rw[h2];exact hq⟩
    .exact afC ⟨g4,Se,H',R4,by rw[h2];exact hq⟩
end
def eo(o:Old):Prop:=∃Ds:List Nat,Ds.Nodup/\o.ds=Ds.map (λD=>{ target:=.collected D,args:=#[] })/\∀D∈Ds,o.aU D=some (.deferred (some []))
def eo.plain{o:Old}(h:o.ds=[]):eo o:=⟨[],.nil,by simpa using h,ahB⟩
def eo.mark{o:Old}{D:Nat}(h:eo o)(hD:o.aU D=none):eo (o.mark D):=by
 obtain⟨Ds,h1,h2,h3⟩:=h
 have hn:D∉Ds:=λhm=>by rw[h3 D hm]at hD;cases hD
 refine⟨D::Ds,afu.2 ⟨hn,h1⟩,by simp[Old.mark,h2],λE hE=>?_⟩;rcases ad_.1 hE with rfl|hE
 .exact aO _ _ _
 .show au o.aU D _ E=_;rw[aT _ _ (λe:E=D=>hn (by rw[<-e];exact hE))];exact h3 E hE
section
variable{P:Program}{GI:World->Prop}{w0:World}{n:Nat}{g:Gh}{S:an}{H:ao}{a:Act}{w:World}
def wY {F:Fence} {m:Nat} {fn:Func} {tmps:Array Value} {R:Ending→World→Prop}:∀ (Ds:List Nat) {g:Gh} {w:World},Rel P w0 n bP g S H a w→Ds.Nodup→(∀ D∈Ds,g.old.aU D=some (.deferred (some []))) →
  (∀g' w',Rel P w0 n bP g' S H a w'->g'.old.c=g.old.c->∃v,(results fn tmps).run P w'=.ok v w'/\R (.returned v) w')->
  LeavesInM F m P fn tmps R (Ds.map λD=>{ target:=.collected D,args:=#[] }) .returning w
 |[],g,w,R',_,_,C5=>C5 g w R' rfl
 |D::Ds,g,w,R',dO,hk,C5=>by
  obtain⟨h1,h2⟩:=afu.1 dO;have hD:=hk D adX;have R2:=R'.mQ hD (.deferred none);refine⟨ahB,.inl ⟨D,_,rfl,run_takeDeferred (R'.kept D _ hD).2.1,?_⟩⟩;refine wY Ds R2 h2 (λE hE=>?_) (λg' w' R3 hc=>C5 g' w' R3 hc);show au g.old.aU D _ E=_;rw[aT _ _ (λe:E=D=>h1 (by rw[<-e];exact hE))];exact hk E (adO _ hE)
def Rel.begin {fn:Func} {args:List AV} {old:Nat→Nat→Prop} {bT:Array Value} (hn:fn.ntmps=n) (hl:args.length≤n) (hlen:args.length=bT.size)
  (hr:∀i (h:i<args.length)(h':i<bT.size),RV old (λ_=>none) w args[i] bT[i]):
  Rel P w n bP { base:=w.heap.size,old:=Old.plain old w,al:=λ_=>none,hi:=λ_=>0,owner:=λ_=>none } (start args) (λ_=>none) { tmps:=bT++Array.replicate (fn.ntmps-bT.size) undef,defers:=[] } w:=by
 have bl:(bT++Array.replicate (fn.ntmps-bT.size) undef).size=n:=by simp;omega
 refine{ size:=bl,defers:=rfl,facts:=λ_ h=>(by cases h),slot:=?_,own:=?_,box:=?_,jU:=?_,jR:=?_,inj:=?_,base:=rfl,below:=aeC _ _,fresh:=λb _=>⟨rfl,rfl⟩,still:=⟨λ_ _ h=>h.elim,λ_ h=>h.elim⟩,grown:=adF _,kept:=λ_ _ h=>(by cases h) }
 .intro t ht _
  by_cases MH:t<args.length
  .have h1:start args t=args[t].aI:=by simp[start,MH]
   have h2:(bT++Array.replicate (fn.ntmps-bT.size) undef).getD t undef=bT[t]' zo:=by
    have:t<bT.size:=zo
    simp[afB,this]
   rw[h1,h2];refine((hr t MH zo).mono (bg.same λb k aq hp=>.inl ⟨aq,hp⟩) (λ_ _ h=>h)).aI
  .have h1:start args t=cy:=by simp[start,MH,cy,AV.aI]
   have h2:(bT++Array.replicate (fn.ntmps-bT.size) undef).getD t undef=undef:=by
    have:¬t<bT.size:=zo
    simp only[adY,afB,this,ad1]
    by_cases hh:t-bT.size<fn.ntmps-bT.size
    .simp[hh]
    .simp[hh]
   rw[h1,h2];exact .data _ _ (uV _ _)
 .intro t ht _;exact h_ _ _ _
 .intro i b h;cases h
 .intro i cs h;cases h
 .intro i h;rfl
 .intro i j b h;cases h
def oz(P:Program)(n:Nat)(rs:List ResultVar)(out:iK)(c:Nat->Nat->Prop):fa
 |.normal,o,S,H|.ret,o,S,H=>eo o/\o.c=c/\∃v,cH P n rs S H=some v/\out=.ret v
 |.panic v,o,_,_=>o.ds=[]/\o.c=c/\out=.panic v
 |_,_,_,_=>False
def AC.ji {f:Nat} {fn:Func} {c:Code} {args:List AV} {out:iK} (hf:P.funcs[f]? = some fn) (hb:fn.body=some c) (hn:fn.ntmps=n) (hl:args.length≤n)
  (h:∀cc w,SW P GI n none c (oz P n fn.results.toList out cc) (Old.plain cc w) (start args) (λ_=>none)):AC P GI f args out:=by
 intro w old bT gD hlen hr;refine(iV (ro:=none) (m:=0)).1 (callsIn_of_wp_marks hf hb trivial ?_);have R:Rel P w n bP _ (start args) (λ_=>none) { tmps:=bT++Array.replicate (fn.ntmps-bT.size) undef,defers:=[] } w:=Rel.begin hn hl hlen hr;refine afo (h old w w _ _ w 0 gD rfl R) ?_;intro e a' w' he
 have fin:(∃ g' S H,Rel P w n bP g' S H a' w'∧eo g'.old∧g'.old.c=old∧∃ v,cH P n fn.results.toList S H=some v∧out = .ret v) →
   LeavesInM (FR none) 0 P fn a'.tmps (Ends P old w out) a'.defers .returning w':=by
  rintro⟨g',S,H,R',⟨Ds,h1,h2,h3⟩,hc,v,hv,rfl⟩;rw[R'.defers,h2]
  refine wY Ds R' h1 h3 λg2 w2 R2 jS=>?_
  obtain⟨c,r1,r2,r3⟩:=vG R2 hv;refine⟨c,r1,?_,g2.hi,λb hb=>(R2.fresh b hb).1,c,rfl,?_,?_⟩
  .have:=R2.below;rwa [R2.base]at this
  .have:g2.Pr=pU w.heap.size old g2.hi:=by
    funext b k
    simp only[Gh.Pr,pU,R2.base,jS,hc]
   rw[this]at r2;exact .data _ _ r2
  .rwa [R2.base]at r3
 cases e with
 |normal=>exact fin he
 |ret=>exact fin he
 |exit id=>obtain⟨_,_,_,_,h⟩:=he;exact h.elim
 |panic chain=>
  obtain⟨o,v,c,hi,S,H,h1,h2,h3,h4,h5,h6,rfl,rfl⟩:=he;subst h2;show LeavesInM (FR none) 0 P fn a'.tmps _ a'.defers _ w';rw[h1,h6];exact⟨h3,hi,h4,c,rfl,h5⟩
 |goto l=>exact he.elim
 |outgrown=>exact he.elim
def aac(n:Nat)(rs:List ResultVar)(out:iK):dV->an->ao->Prop
 |.normal,S,H|.ret,S,H=>∃t fn fi ca,rs=[.tmp t]/\t<n/\S t=.func fn fi ca/\out=.ret (fz H (S t))
 |_,_,_=>False
open Classical in
def AC.Gp (hG:ar GI) (hm:P.follows .mixedOrders=true) {f:Nat} {fn:Func} {c:Code} {args:List AV} {out:iK} (hf:P.funcs[f]? = some fn) (hb:fn.body=some c) (hn:fn.ntmps=n) (hl:args.length≤n) {ac:af} (hc:dK P n c=ac)
  (h:bB P GI ac (aac n fn.results.toList out) (start args) (λ_=>none)):AC P GI f args out:=by
 intro w old bT gD hlen hr;refine afJ hf hb ?_;subst hc;have R:Rel P w n bP _ (start args) (λ_=>none) { tmps:=bT++Array.replicate (fn.ntmps-bT.size) undef,defers:=[] } w:=Rel.begin hn hl hlen hr;refine ag8 (mP hG gD hm c _ _ _ _ _ w (λ_ _ h=>h) rfl R h) ?_;intro e a' w' he
 have fin:(∃ g' S H,g'.old=Old.plain old w∧Rel P w n bP g' S H a' w'∧∃ t f' fi ca,fn.results.toList=[.tmp t]∧t < n∧S t = .func f' fi ca∧out = .ret (fz H (S t))) →
   a'.defers=[]/\∃v,(results fn a'.tmps).run P w'=.ok v w'/\Ends P old w out (.returned v) w':=by
  rintro⟨g',S,H,e1,R',t,f',fi,ca,hrs,ht,hS,rfl⟩
  have abP:fn.results=#[.tmp t]:=by
   rw[<-Array.toArray_toList (xs:=fn.results),hrs]
  have hv:=R'.fz (R'.slot t ht id) true (λ_=>rfl)
  have FV:∀b,(∃i,g'.al i=some b)->g'.base<=b/\g'.hi b=0/\∃vs ty,w'.heap[b]?=some (.cells vs ty (0,0)):=by
   rintro b ⟨i,hi⟩;obtain⟨cs,vs,ty,h1,h2,h3,h4,_⟩:=R'.box i b hi;exact⟨h2,h4,vs,ty,h3⟩
  let du:Nat->Nat:=λb=>if∃i,g'.al i=some b then(match w'.heap[b]? with|some (.cells vs _ _)=>vs.size|_=>0)else g'.hi b
  have qJ:∀b k,g'.Pr b k->pU w.heap.size old du b k:=by
   intro b k hp
   rcases hp with⟨q1,q2⟩|⟨q1,q2⟩
   .exact .inl ⟨by rw[<-R'.base];exact q1,by rw[e1]at q2;exact q2⟩
   .refine .inr ⟨by rw[<-R'.base];exact q1,?_⟩;show k<(if∃i,g'.al i=some b then _ else g'.hi b);rw[if_neg]
    .exact q2
    .intro hex;rw[(FV b hex).2.1]at q2;omega
  refine⟨by rw[R'.defers,e1];rfl,a'.tmps.getD t undef,by simp[results,abP],?_,du,λb hb=>?_,_,rfl,?_,?_⟩
  .have:=R'.below;rwa [R'.base]at this
  .show(if∃i,g'.al i=some b then _ else g'.hi b)=0;rw[if_neg]
   .exact(R'.fresh b hb).1
   .intro hex;obtain⟨_,_,vs,ty,h3⟩:=FV b hex;have:=(adD.1 h3).1;omega
  .refine hv.mono ?_ (λ_ _ h=>h);refine{ cell:=λb k hp u hu=>⟨?_,hu⟩,map:=λb hp es cc NP=>⟨?_,NP⟩ }
   .rcases hp with hp|⟨_,hex⟩
    .exact qJ b k hp
    .obtain⟨h1,h2,vs,ty,h3⟩:=FV b hex;refine .inr ⟨by rw[<-R'.base];exact h1,?_⟩;show k<(if∃i,g'.al i=some b then _ else g'.hi b);rw[if_pos hex,h3];simp[World.cell?,h3]at hu;exact(adD.1 hu).1
   .rcases hp with hp|⟨_,hex⟩
    .exact qJ b 0 hp
    .obtain⟨h1,h2,vs,ty,h3⟩:=FV b hex;rw[h3]at NP;cases NP
  .rw[hS];simp only[fz]
   trivial
 cases e with
 |normal=>exact fin he
 |ret=>exact fin he
 |exit id=>obtain⟨_,_,_,_,_,h⟩:=he;exact h.elim
 |panic chain=>obtain⟨_,_,_,_,_,_,_,_,_,_,h⟩:=he;exact h.elim
 |goto l=>exact he.elim
 |outgrown=>exact he.elim
end
def oc{α:Type}{p A b s:α->Prop}{o:α}(h:A o)(k:s o)(hp:p o:=by kernel_rfl)(hb:b o:=by simp[cW,au]):∃o,p o/\A o/\b o/\s o:=⟨o,hp,h,hb,k⟩
inductive TT(α:Type) where
 |lf (v:α)
 |nd (a b c d:TT α)
namespace TT
variable{α:Type}
noncomputable def G(z:α)(k:Nat):TT α->Nat->α:=
 Nat.rec (motive:=λ_=>TT α->Nat->α) (λt _=>match t with|.lf v=>v|.nd ..=>z)
  (λ_ ih t i=>match t with
   |.lf v=>v
   |.nd a b c d=>bif Nat.beq (i % 4) 0 then ih a (i/4)else bif Nat.beq (i % 4) 1 then ih b (i/4)else bif Nat.beq (i % 4) 2 then ih c (i/4)else ih d (i/4)) k
noncomputable def P(k:Nat):TT α->Nat->α->TT α:=
 Nat.rec (motive:=λ_=>TT α->Nat->α->TT α) (λ_ _ v=>.lf v)
  (λ_ ih t i v=>match t with
   |.lf x=>bif Nat.beq (i % 4) 0 then .nd (ih (.lf x) (i/4) v) (.lf x) (.lf x) (.lf x)else bif Nat.beq (i % 4) 1 then .nd (.lf x) (ih (.lf x) (i/4) v) (.lf x) (.lf x)else bif Nat.beq (i % 4) 2 then .nd (.lf x) (.lf x) (ih (.lf x) (i/4) v) (.lf x)else .nd (.lf x) (.lf x) (.lf x) (ih (.lf x) (i/4) v)
   |.nd a b c d=>bif Nat.beq (i % 4) 0 then .nd (ih a (i/4) v) b c d else bif Nat.beq (i % 4) 1 then .nd a (ih b (i/4) v) c d else bif Nat.beq (i % 4) 2 then .nd a b (ih c (i/4) v) d else .nd a b c (ih d (i/4) v)) k
noncomputable def M(f:α->α)(k:Nat):TT α->TT α:=
 Nat.rec (motive:=λ_=>TT α->TT α) (λt=>match t with|.lf v=>.lf (f v)|t=>t)
  (λ_ ih t=>match t with
   |.lf v=>.lf (f v)
   |.nd a b c d=>.nd (ih a) (ih b) (ih c) (ih d)) k
end TT
abbrev TS:=TT AV
abbrev TH:=TT (Option (List AV))
noncomputable def gT(s:TS):an:=λt=>bif Nat.ble 256 t then cy else s.G cy 4 t
noncomputable def gU(h:TH):ao:=λt=>bif Nat.ble 256 t then none else h.G none 4 t
noncomputable def Eh{α:Type}(s:TT α)(i:Nat)(v:α):Option (TT α):=bif Nat.ble 256 i then none else some (s.P 4 i v)
noncomputable def PR(d:Nat)(s:TS):TS:=s.M (cb d) 4
noncomputable def WZ(s:TS):Option Nat->AV->Option TS
 |some d,v=>Eh s d v
 |none,_=>some s
noncomputable def abE(e:aP)(dst:Option Nat)(s:TS)(h:TH):Option (TS×TH):=
 match(match e.dm with|some t=>Eh s t (gT s t).aI|none=>some s)with
 |none=>none
 |some s1=>match WZ s1 dst e.v with
  |none=>none
  |some s2=>match e.hw with
   |some (i,cs)=>match Eh h i (some cs)with
    |some h'=>some (s2,h')
    |none=>none
   |none=>some (s2,h)
inductive PQ where
 |go (s:TS) (h:TH)|panic (v:AV)
noncomputable def PQ.on(K:an->ao->Prop)(Qp:AV->Prop):PQ->Prop
 |.go s h=>K (gT s) (gU h)
 |.panic v=>Qp v
noncomputable def mD(dst:Option Nat)(s:TS)(h:TH):iK->Option PQ
 |.ret v=>(WZ s dst v).map λs'=>.go s' h
 |.panic v=>some (.panic v)
section
variable{P:Program}{GI:World->Prop}{call:CB}(ml:∀f args out,call f args=some out->AC P GI f args out)
include ml
end
end Go.AL
namespace Go.AL
open Go.RowKit
def VE:eG->an->ao->Option aP
 |.mv take x=>λS H=>if take then some { v:=ev S x,dm:=bt x }else some { v:=(ev S x).aI }
 |.pick c a b=>λS H=>match ev S c with
  |.bool t=>some { v:=(if t then ev S a else ev S b).aI }
  |_=>none
 |.build zero parts=>λS H=>(bH zero (parts.map λ(o,s,x)=>(o,s,ev S x))).map λcs=>{ v:=.agg cs }
 |.buildSlice _ e size parts=>λS H=>
  if aG size (parts.map (ev S))&&parts.length*size<=16777216 then some { v:=.slice (.own e) ((parts.map (ev S)).map AV.vw) }else none
 |.load hr agg size x=>λS H=>match ev S x with
  |.box i off=>if hr.okB i then match H i with
   |some cs=>(cd agg size (cs.drop off)).map λv=>{ v:=v }
   |none=>none
   else none
  |.ref cs=>(cd agg size cs).map λv=>{ v:=v }
  |_=>none
 |.loadT hr x=>λS H=>match ev S x with
  |.box i off=>if hr.okB i then match H i with
   |some cs=>match cs[off]? with
    |some v=>some { v:=v,hw:=some (i,cs.set off v.aI) }
    |none=>none
   |none=>none
   else none
  |_=>none
 |.store hr size x y=>λS H=>match ev S x with
  |.box i off=>if hr.okB i then match H i with
   |some cs=>if (ev S y).cells.length=size∧off+size≤cs.length∧(ev S y).storable=true then
     some { v:=cy,dm:=bt y,hw:=some (i,bC cs off (ev S y).ct) }else none
   |none=>none
   else none
  |_=>none
 |.bin op x y=>λS H=>(dU op (ev S x) (ev S y)).map λv=>{ v:=v }
 |.EA neg x y=>λS H=>match ev S x,ev S y with
  |.bool a,.bool b=>some { v:=.bool (if neg then a !=b else a==b) }
  |_,_=>none
 |.eqs neg k x y=>λS H=>match ev S x,ev S y with
  |.agg xs,.agg ys=>match kC xs,kC ys with
   |some a,some b=>if a.length=k/\b.length=k then some { v:=.bool (if neg then a !=b else a==b) }else none
   |_,_=>none
  |_,_=>none
 |.mN ag len size x i=>λS H=>match ev S x,ev S i with
  |.agg cs,.int .i64 k=>if 0<=k/\k<len then(cd ag size (cs.drop (k.toNat*size))).map λv=>{ v:=v }else none
  |_,_=>none
 |.oV xs=>λS H=>if(xs.map (ev S)).all Be then some { v:=.gY (xs.map (ev S)) }else none
 |.oZ len x i=>λS H=>match ev S x,ev S i with
  |.gY fs,.int .i64 k=>if 0≤k∧k < len then match fs[k.toNat]? with
    |some v=>if Be v then some { v:=v }else none
    |none=>none
   else none
  |_,_=>none
 |.zm x=>λS H=>match ev S x with
  |.slice _ es=>(bytesOf es).map λl=>{ v:=.str l }
  |_=>none
 |.lookup k z x i=>λS H=>match ev S x,ev S i with
  |.map ks vs,.agg c=>match kC c with
   |some key=>if key.length=k then match oT key ks vs with
     |some (some v)=>some { v:=.dY [v.aI,.bool true] }
     |some none=>some { v:=.dY [z,.bool false] }
     |none=>none
    else none
   |none=>none
  |_,_=>none
 |.not x=>λS H=>match ev S x with
  |.bool b=>some { v:=.bool !b }
  |_=>none
 |.conv k x=>λS H=>match ev S x with
  |.int _ n=>some { v:=.int k (k.wrap n) }
  |_=>none
 |.iface t x=>λS H=>if(ev S x).storable then some { v:=.iface t (ev S x).vw }else none
 |.Fa fn first cap=>λS H=>some { v:=.func fn (first.map λx=>(ev S x).aI) (cap.map λx=>(ev S x).aI) }
 |.oX x lo hi=>λS H=>match ev S x with
  |.str l=>match bound (lo.map (ev S)) 0,bound (hi.map (ev S)) l.length with
   |some a,some b=>if 0<=a/\a<=b/\b<=l.length then some { v:=.str ((l.take b.toNat).drop a.toNat) }else none
   |_,_=>none
  |_=>none
 |.p8 len x=>λS H=>match ev S x with
  |.ref cs=>if cs.length=len then some { v:=.slice .view cs }else none
  |_=>none
 |.od size x lo hi=>λS H=>match ev S x with
  |.slice _ es=>match bound (lo.map (ev S)) 0,bound (hi.map (ev S)) es.length with
   |some a,some b=>if 0<=a/\a<=b/\b<=es.length/\aG size es=true then some { v:=.slice .view ((es.take b.toNat).drop a.toNat) }else none
   |_,_=>none
  |_=>none
 |.fieldAddr off x=>λS H=>match ev S x with
  |.box i o=>some { v:=.box i (o+off) }
  |.ref cs=>some { v:=.ref (cs.drop off) }
  |_=>none
 |.indexAddr size x i=>λS H=>match ev S x,ev S i with
  |.slice _ es,.int .i64 k=>if 0≤k then match es[k.toNat]? with
    |some v=>if v.cells.length=size then some { v:=.ref v.cells }else none
    |none=>none
   else none
  |_,_=>none
 |.oU x i=>λS H=>match ev S x,ev S i with
  |.str l,.int .i64 k=>if 0≤k then match l[k.toNat]? with
    |some b=>some { v:=.int .u8 b.toNat }
    |none=>none
   else none
  |_,_=>none
 |.extract x i=>λS H=>match ev S x with
  |.dY vs=>(vs[i]?).map λv=>{ v:=v.aI }
  |_=>none
 |.zI x=>λS H=>match ev S x with
  |.str l=>some { v:=.int .i64 l.length }
  |_=>none
 |.kN x=>λS H=>match ev S x with
  |.slice _ es=>some { v:=.int .i64 es.length }
  |_=>none
 |.isNil neg x=>λS H=>match ev S x with
  |.slice _ es=>some { v:=if es.isEmpty then .l7 else .bool neg }
  |_=>none
 |.empty _=>λS H=>some { v:=.slice .nil [] }
 |.append _ e size _ x y=>λS H=>match ev S x,ev S y with
  |.slice .nil [],.slice _ ys=>if aG size ys&&ys.length<1048576 then some { v:=.slice (if ys.isEmpty then .nil else .own e) ys }else none
  |.slice (.own e') xs,.slice _ ys=>if e'=e/\(aG size ys&&aG size xs&&(xs.length+ys.length<1048576))=true then some { v:=.slice (.own e) (xs++ys),dm:=bt x }else none
  |_,_=>none
 |.max x y=>λS H=>match ev S x,ev S y with
  |.int .i64 a,.int .i64 b=>some { v:=.int .i64 (max a b) }
  |_,_=>none
 |.min x y=>λS H=>match ev S x,ev S y with
  |.int .i64 a,.int .i64 b=>some { v:=.int .i64 (min a b) }
  |_,_=>none
 |.assert t zero x=>λS H=>match ev S x with
  |.iface t' v=>some { v:=if t'=t then .dY [v,.bool true]else .dY [zero,.bool false] }
  |.pS=>some { v:=.dY [zero,.bool false] }
  |_=>none
 |_=>λS H=>none
noncomputable def nJ:eG->(P:Program)->(call:CB)->(dst:Option Nat)->(s:TS)->(h:TH)->Option PQ
 |.alloc _ zero=>λ_ _ dst s h=>match dst with
  |some d=>match Eh (PR d s) d (.box d 0),Eh h d (some zero)with
   |some s',some h'=>some (.go s' h')
   |_,_=>none
  |none=>none
 |.box _ size x=>λ_ _ dst s h=>match dst with
  |some d=>if (ev (gT s) x).cells.length=size∧(ev (gT s) x).storable=true then
    match Eh (PR d s) d (.box d 0),Eh h d (some ((ev (gT s) x).cells.map AV.aI))with
    |some s',some h'=>some (.go s' h')
    |_,_=>none
   else none
  |none=>none
 |.call f args=>λP call dst s h=>match TI P call f (args.map λy=>fz (gU h) (ev (gT s) y)) (args.any λy=>cW (ev (gT s) y))with
  |some out=>mD dst s h out
  |none=>none
 |.gy f args=>λP call dst s h=>match ev (gT s) f with
  |.func (.func k) first cap=>match TI P call k ((first++args.map (ev (gT s))++cap).map (fz (gU h))) ((first++args.map (ev (gT s))++cap).any cW)with
   |some out=>mD dst s h out
   |none=>none
  |_=>none
 |.panic x=>λ_ _ _ s _=>match ev (gT s) x with
  |.iface t v=>some (.panic (.iface t v))
  |_=>none
 |op=>λ_ _ dst s h=>match VE op (gT s) (gU h)with
  |some e=>(abE e dst s h).map λ(s',h')=>.go s' h'
  |none=>none
section
variable{P:Program}{GI:World->Prop}{n:Nat}{S:an}{H:ao}{a:Act}{w:World}{ro:Option Nat}{m:Nat}{Q:Exit->Act->World->Prop}
def Rel.SO (c:Nat→Nat→Prop) (bl:a.tmps.size=n) (eR:a.defers=[]) (hS:∀ t,t < n→(S t).aI=S t∧RV c cQ w (S t) (a.tmps.getD t undef)) :
  Rel P w n bP { base:=w.heap.size,old:=Old.plain c w,al:=cQ,hi:=λ_=>0,owner:=λ_=>none } S (λ_=>none) a w:={
 size:=bl
 defers:=eR
 facts _ h:=by cases h
 slot t ht _:=(hS t ht).2.mono (bg.same λb k aq hp=>.inl ⟨aq,hp⟩) (λ_ _ h=>h)
 own t ht _:=by rw[<-(hS t ht).1];exact eQ.aI
 box i b h:=by cases h
 jU i cs h:=by cases h
 jR i _:=rfl
 inj i j b h:=by cases h
 base:=rfl
 below:=aeC _ _
 fresh b _:=⟨rfl,rfl⟩
 still:=⟨λ_ _ h=>h.elim,λ_ h=>h.elim⟩
 grown:=adF _
 kept _ _ h:=by cases h }
def bf {ops:Array Oper} {i:Nat} {rest:List Nat} {o:Oper} (ho:ops[i]? = some o) (hg:o.guard=none) (dO:eK o.op=true) {v:Value} {w':World}
  (hr:(execOp a.eval o).run P w=.ok (.value v) w') (hk:wpOpsIn (FR ro) m P ops Q rest (a.put o.dst v) w'):wpOpsIn (FR ro) m P ops Q (i::rest) a w:=by
 simp only[wpOpsIn,ho]
 have:Region.wanted o (yielded ops a.tmps)=true:=by simp[Region.wanted,hg]
 rw[if_pos this];refine⟨λ_ _=>trivial,?_⟩;rw[ae_ _ _ _ (λc hc=>by rw[hc]at dO;cases dO),hr];exact hk
def eT {ops:Array Oper} {i:Nat} {rest:List Nat} {o:Oper} (ho:ops[i]? = some o) (hg:o.guard=none) (dO:eK o.op=true) {w':World}
  (hr:(execOp a.eval o).run P w=.ok .skip w') (hk:wpOpsIn (FR ro) m P ops Q rest (a.put o.dst undef) w'):wpOpsIn (FR ro) m P ops Q (i::rest) a w:=by
 simp only[wpOpsIn,ho]
 have:Region.wanted o (yielded ops a.tmps)=true:=by simp[Region.wanted,hg]
 rw[if_pos this];refine⟨λ_ _=>trivial,?_⟩;rw[ae_ _ _ _ (λc hc=>by rw[hc]at dO;cases dO),hr];exact hk
def gC {ops:Array Oper} {i:Nat} {rest:List Nat} {o:Oper} (ho:ops[i]? = some o) (hg:o.guard=none) (dO:eK o.op=true) {f:Nat} {args:Array Value} {w':World}
  (hr:(execOp a.eval o).run P w=.ok (.enter f args) w') {R:Ending->World->Prop} (hc:Calls P f args w' R) (hk:∀e jv,R e jv->∃v,e=.returned v/\wpOpsIn (FR ro) m P ops Q rest (a.put o.dst v) jv):wpOpsIn (FR ro) m P ops Q (i::rest) a w:=by
 simp only[wpOpsIn,ho]
 have:Region.wanted o (yielded ops a.tmps)=true:=by simp[Region.wanted,hg]
 rw[if_pos this];refine⟨λ_ _=>trivial,?_⟩;rw[ae_ _ _ _ (λc hc=>by rw[hc]at dO;cases dO),hr];refine⟨λh=>by simp[FR,Fence.wide]at h,iV.2 (hc.mono λe jv hh=>?_)⟩;obtain⟨v,rfl,h⟩:=hk e jv hh;exact h
def KC {ops:Array Oper} {i:Nat} {rest:List Nat} {o:Oper} (ho:ops[i]? = some o) (hg:o.guard=none) (dO:eK o.op=true) {l f:Nat} {tmps:Array Value} {Ck bd:Code} {w':World}
  (hr:(execOp a.eval o).run P w=.ok (.round l f tmps Ck bd) w') {R:Ending->World->Prop} (hc:∀m,RoundIn (FR none) m P l f tmps Ck bd w' R) (hk:∀e jv,R e jv->∃v,e=.returned v/\wpOpsIn (FR none) m P ops Q rest (a.put o.dst v) jv):wpOpsIn (FR none) m P ops Q (i::rest) a w:=by
 simp only[wpOpsIn,ho]
 have:Region.wanted o (yielded ops a.tmps)=true:=by simp[Region.wanted,hg]
 rw[if_pos this];refine⟨λ_ _=>trivial,?_⟩;rw[ae_ _ _ _ (λc hc=>by rw[hc]at dO;cases dO),hr];refine⟨λh=>by simp[FR,Fence.wide]at h,(hc (m-1)).mono λe jv hh=>?_⟩;obtain⟨v,rfl,h⟩:=hk e jv hh;exact h
def Ml(K:Act->World->Prop)(Q:Exit->Act->World->Prop):Exit->Act->World->Prop
 |.normal,a,w=>K a w
 |e,a,w=>Q e a w
def Di{F:Fence}{o:Oper}{K K':Act->World->Prop}(h:o.wpIn F m P a w K' (Ml K Q)):o.wpIn F m P a w K' Q:=by
 unfold Oper.wpIn at*
 refine⟨h.1,?_⟩;have h2:=h.2
 generalize(o.semAt F.round a.eval).run P w=r at*
 cases r with
 |ok x w'=>
  cases x<;>simp only[Oper.uponIn]at h2⊢<;>first
   |exact h2
   |exact⟨h2.1,agF h2.2 (λe jv he=>by cases e<;>exact he)⟩
   |exact⟨h2.1,agV h2.2 (λ_ _ he=>he)⟩
   |exact⟨h2.1,agG h2.2 (λe jv he=>by cases e<;>exact he)⟩
 |halt x w'=>cases x<;>simp only[Oper.uponIn]at h2⊢<;>exact h2
def oW(ops:Array Oper):Nat->Nat->Array Bool->Bool
 |0,_,listed=>Region.ready .any ops listed==[]
 |k+1,i,listed=>Region.ready .any ops listed==[i]&&oW ops k (i+1) (listed.setIfInBounds i true)
def DU(ops:Array Oper)(p:Nat):Nat->Array Bool->Array Bool->Bool
 |0,la,l=>(Region.ready .any (ops.extract 0 p) la==[])&&oW ops (ops.size-p) p l
 |k+1,la,l=>let r:=Region.ready .any ops l
  r !=[]&&r==Region.ready .any (ops.extract 0 p) la&&r.all (λi=>decide (i<p)&&DU ops p k (la.setIfInBounds i true) (l.setIfInBounds i true))
def cutAt(ops:Array Oper)(p:Nat):Bool:=
 decide (p<=ops.size)&&ops.all (λo=>o.guard.isNone)&&DU ops p p (Array.replicate p false) (Array.replicate ops.size false)
def wT{F:Fence}{ops:Array Oper}(hg:ops.all (λo=>o.guard.isNone)=true):∀(k i:Nat)(l:Array Bool)(a:Act)(w:World),oW ops k i l=true->wpOpsIn F m P ops Q (List.range' i k) a w->wpAnyIn F m P .any ops Q k l a w
 |0,i,l,a,w,h,hh=>⟨by simpa[oW]using h,hh⟩
 |k+1,i,l,a,w,h,hh=>by
  simp only[oW,adE,aej]at h;refine⟨λhr=>(by rw[hr]at h;cases h.1),λj hj=>?_⟩;rw[h.1,ad2]at hj;subst hj;simp only[aff]at hh;rw[wpOpsIn_cons]at hh;exact wpOpIn_mono (λa w hq=>wT hg k _ _ a w h.2 hq) hh
def sW {F:Fence} {ops:Array Oper} {p:Nat} (hp:p≤ops.size) (hg:ops.all (fun o=>o.guard.isNone)=true):∀ (k:Nat) (la l:Array Bool) (a:Act) (w:World),DU ops p k la l=true →
  wpAnyIn F m P .any (ops.extract 0 p) (Ml (wpOpsIn F m P ops Q (List.range' p (ops.size-p))) Q) k la a w->wpAnyIn F m P .any ops Q (k+(ops.size-p)) l a w
 |0,la,l,a,w,h,hh=>by
  simp only[DU,adE]at h;rw[aeh];exact wT hg _ _ _ a w h.2 hh.2
 |k+1,la,l,a,w,h,hh=>by
  simp only[DU,adE,agn,ne_eq,aej,adQ,adL]at h;obtain⟨⟨h1,h2⟩,h3⟩:=h;rw[show k+1+(ops.size-p)=(k+(ops.size-p))+1 by omega];refine⟨λhr=>absurd hr h1,λi hi=>?_⟩
  have du:i∈Region.ready .any (ops.extract 0 p) la:=by rw[<-h2];exact hi
  obtain⟨yE,hc⟩:=h3 i hi;have hs:=hh.2 i du;unfold wpOpIn at hs⊢
  have im:(ops.extract 0 p)[i]?=ops[i]?:=by
   rw[afm]
   have:i<min p ops.size-0:=zo
   rw[if_pos this,aeh]
  rw[im]at hs
  cases ho:ops[i]? with
  |none=>rw[ho]at hs;exact sW hp hg k _ _ a w hc hs
  |some o=>
   rw[ho]at hs
   have qg:o.guard=none:=by
    have:=aeP.1 hg o (aeK ho);simpa using this
   have hw:∀y,Region.wanted o y=true:=λy=>by simp[Region.wanted,qg]
   simp only[hw,aed]at hs⊢;exact agp (λa w hq=>sW hp hg k _ _ a w hc hq) (Di hs)
def Rd (hm:P.follows .mixedOrders=true) {F:Fence} {id:Nat} {ops:Array Oper} {p:Nat} (h:cutAt ops p=true)
  (hh:wpAnyIn F m P .any (ops.extract 0 p) (Ml (wpOpsIn F m P ops Q (List.range' p (ops.size-p))) Q) p (Array.replicate p false) a { w with drawn:=w.drawn+1 }):(Code.region id ops true).wpIn F m P Q a w:=by
 simp only[cutAt,adE,adL]at h;refine afi hm ?_;have:=sW h.1.1 h.1.2 p _ _ a _ h.2 hh;rwa [show p+(ops.size-p)=ops.size by omega]at this
def fL{F:Fence}{md:Region.Mode}{ops:Array Oper}{Q':Exit->Act->World->Prop}(hQ:∀e a w,Q e a w->Q' e a w):∀(fuel:Nat)(l:Array Bool)(a:Act)(w:World),wpAnyIn F m P md ops Q fuel l a w->wpAnyIn F m P md ops Q' fuel l a w
 |0,_,_,_,h=>⟨h.1,hQ _ _ _ h.2⟩
 |k+1,l,a,w,h=>⟨fun hr=>hQ _ _ _ (h.1 hr),fun i hi=>by
   have hs:=h.2 i hi;unfold wpOpIn at hs⊢
   cases ho:ops[i]? with
   |none=>rw[ho]at hs;exact fL hQ k _ a w hs
   |some o=>
    rw[ho]at hs;simp only at hs⊢;split
    .rename_i hw;rw[if_pos hw]at hs;have hs:=agp (λa w hq=>fL hQ k _ a w hq) hs
     unfold Oper.wpIn at*
     refine⟨hs.1,?_⟩;have h2:=hs.2
     generalize(o.semAt F.round a.eval).run P w=r at*
     cases r with
     |ok x w'=>
      have uG:LetsOut Q->LetsOut Q':=λ⟨a,w,h⟩=>⟨a,w,hQ _ _ _ h⟩
      cases x<;>simp only[Oper.uponIn]at h2⊢<;>first
       |exact h2
       |exact⟨h2.1,agF h2.2 (λe jv he=>by cases e<;>first|exact he|exact hQ _ _ _ he|exact uG he)⟩
       |exact⟨h2.1,agV h2.2 (λ_ _ he=>he)⟩
       |exact⟨h2.1,agG h2.2 (λe jv he=>by cases e<;>first|exact he|exact hQ _ _ _ he|exact uG he)⟩
     |halt x w'=>cases x<;>simp only[Oper.uponIn]at h2⊢<;>first|exact h2|exact hQ _ _ _ h2
    .rename_i hw;rw[if_neg hw]at hs
     exact⟨hs.1,fL hQ k _ _ w hs.2⟩⟩
end
def jo(Pr:Nat->Nat->Prop)(w:World)(size:Nat)(es:List AV)(xs:List Value):Prop:=
 (∀x∈es,x.cells.length=size/\x.storable=true/\∀c∈x.cells,c.one=true)/\∀j (h:j<es.length) k (hk:k<(es[j]).cells.length),∃u,xs[j*size+k]?=some u/\RD Pr w ((es[j]).cells[k]) u
def jo.mono{Pr e_:Nat->Nat->Prop}{w w':World}{size:Nat}{es:List AV}{xs:List Value}(h:jo Pr w size es xs)(hk:bg Pr e_ w w'):jo e_ w' size es xs:=
 ⟨h.1,λj hj k z_=>let⟨u,h1,h2⟩:=h.2 j hj k z_;⟨u,h1,h2.mono hk⟩⟩
def RD.ofRow {Pr:Nat→Nat→Prop} {w:World} {base:Nat} {e:TypeId} {size:Nat} {v:Value} {es:List AV} {xs:List Value} (cZ:w.ownsRow base e size v es.length xs) (hf:jo Pr w size es xs)
  (IC:∀b,v.ownBlock=some b->∀k,k<es.length*size->Pr b k):RD Pr w (.slice .view es) v:=by
 rcases cZ.2 with⟨rfl,hn⟩|⟨g,cap,cur,rfl,r_,hg,As,wP,qM,AA⟩
 .have:es=[]:=aem hn;subst this;exact .iB _
 .refine .slice _ es g 0 cap size (λk=>xs.getD k undef) As (λh=>by cases h) (λi h=>(hf.1 _ (adC h)).1) (λi h j hj=>(hf.1 _ (adC h)).2.2 _ (adC hj)) (λk hk=>⟨?_,?_⟩) (λi h j hj=>?_)
  .rw[aeh];exact IC g rfl k hk
  .have aq:k<xs.length:=by rw[cZ.1];exact hk
   have:=cZ.cells (g:=g) rfl k _ (adB aq);rw[aeA]at this;simp only[aeD,adB aq,Option.getD_some];exact this
  .obtain⟨u,h1,h2⟩:=hf.2 i h j hj;simpa[h1]using h2
def RD.ZX{Pr:Nat->Nat->Prop}{w:World}{o:Ow}{es:List AV}{c:Value}(h:RD Pr w (.slice o es) c)(e:TypeId):RD Pr w (.slice (.own e) es) c:=by
 cases h with
 |iB=>exact .iB _
 |jz _ a=>exact .jz _ a
 |slice _ _ b off cap size cs fl hn bl h1 hc hr=>exact .slice _ es b off cap size cs fl (λh=>by cases h) bl h1 hc hr
def nU(e:TypeId)(v:Value)(es:List AV):AV:=match v.ownBlock with
 |some _=>.slice (.own e) es
 |none=>.slice .nil []
def RD.CJ{Pr e_:Nat->Nat->Prop}{w:World}{o:Ow}{c:Value}(h:RD Pr w (.slice o []) c):RD e_ w (.slice .view []) c:=by
 cases h with
 |iB=>exact .iB _
 |jz _ a=>exact .jz _ a
 |slice _ _ b off cap size cs fl hn bl h1 hc hr=>exact .slice _ [] b off cap size cs fl (λh=>by cases h) (λi h=>by simp at h) (λi h=>by simp at h) (λk h=>by simp at h) (λi h=>by simp at h)
def jo.NL {Pr:Nat→Nat→Prop} {w:World} {base:Nat} {e:TypeId} {size:Nat} {o:Ow} {c:Value} {es:List AV} {xs:List Value} (hr:RD Pr w (.slice o es) c) (cZ:w.ownsRow base e size c es.length xs)
  (nB:∀x∈es,x.cells.length=size/\x.storable=true/\∀c∈x.cells,c.one=true) (DA:∀x∈es,∀c∈x.cells,iF c=true):jo (λ_ _=>False) w size es xs:=by
 refine⟨nB,λj hj k hk=>?_⟩
 rcases hr.nf size (by simp only[aG,adQ,adE,aej];exact λx hx=>⟨(nB x hx).2.1,(nB x hx).1⟩)with⟨rfl,_⟩|⟨b2,off,cap,news,j5,hl,hn,oB,Oy⟩
 .simp at hj
 .obtain⟨u,u1,u2⟩:=Oy j hj k hk;refine⟨u,?_,u2.iF (DA _ (adC hj) _ (adC hk))⟩
  have aq:j*size+k<xs.length:=by
   rw[cZ.1,<-hl];exact(ad0.1 u1).1
  rcases cZ.2 with⟨uC,h0⟩|⟨gg,L8,cur,E6,_⟩
  .rw[aem h0]at hj;simp at hj
  .have e1:=cZ.cells (g:=gg) (by rw[E6];rfl) _ _ (adB aq);have e2:=hn _ _ u1;rw[E6]at j5;cases j5;rw[aeA,aeh]at e1;rw[aeh]at e2;rw[e2]at e1;rw[adB aq,ad7 e1]
section
variable{P:Program}{n:Nat}{S:an}{a:Act}{w:World}
def nq(pr:Nat->Nat->Prop)(w:World)(bN:Nat)(v:Value):Old:=
 { c:=pr,facts:=[],bx:=λ_=>False,ds:=[],aU:=λb=>if bN<b/\v.ownBlock≠some b then w.heap[b]? else none,sp:=λ_ _=>False,sw:=w,ok:=λ_ h=>by cases h }
def Rel.stack (pr:Nat→Nat→Prop) {bN nm:Nat} {v:Value} {e ty:TypeId} {i:TypeInfo} {es:List AV} {xs:List Value} (bl:a.tmps.size=n) (eR:a.defers=[])
  (hN:w.heap[bN]?=some (.cells #[v] ty (0,0))) (hi:P.info? e=some i) (cZ:w.ownsRow (bN+1) e i.size v es.length xs) (hf:jo (λb k=>b<bN/\pr b k) w i.size es xs)
  (hS:∀t,t<n->(S t).aI=S t/\((S t=.box nm 0/\a.tmps.getD t undef=.pointer (some ⟨bN,0,none⟩))\/RV (λb k=>b<bN/\pr b k) cQ w (S t) (a.tmps.getD t undef))):
  ∃g,g.old=nq pr w bN v/\g.base=bN/\g.al=(λj=>if j=nm then some bN else none)/\
   Rel P { w with heap:=w.heap.extract 0 bN } n bP g S (λj=>if j=nm then some [nU e v es]else none) a w:=by
 have aq:=(adD.1 hN).1
 let g:Gh:={ base:=bN,old:=nq pr w bN v,al:=λj=>if j=nm then some bN else none,hi:=λb=>if v.ownBlock=some b then es.length*i.size else 0,owner:=λb=>if v.ownBlock=some b then some (.cell nm 0)else none }
 have qJ:∀b k,b<bN/\pr b k->g.Pr b k:=λb k h=>.inl h
 have pL:∀b,v.ownBlock=some b->bN<b/\b<w.heap.size:=λb hb=>cZ.lt b hb
 have Dd:v.ownBlock≠some bN:=λh=>by have:=pL _ h;omega
 have oB:v.oneCell'=true:=by
  rcases cZ.2 with⟨rfl,_⟩|⟨_,_,_,rfl,_⟩<;>rfl
 have dh:RD g.Pr w (nU e v es) v:=by
  unfold nU
  rcases cZ.2 with⟨rfl,hn⟩|⟨gg,cap,cur,rfl,r_,hg,As,wP,qM,AA⟩
  .exact .iB _
  .simp only[Value.ownBlock]
   have h1:RD g.Pr w (.slice .view es) (.slice (some ⟨gg,0,none⟩) es.length cap):=RD.ofRow cZ (hf.mono (bg.same λb k _ h=>qJ b k h)) (λb hb k hk=>by
    refine .inr ⟨by have:=(pL b hb).1;show bN<=b;omega,?_⟩;show k<(if _=some b then es.length*i.size else 0)
    rw[if_pos hb];exact hk)
   exact h1.ZX e
 refine⟨g,rfl,rfl,rfl,{ size:=bl,defers:=eR,facts:=λ_ h=>(by cases h),slot:=?_,own:=?_,box:=?_,jU:=?_,jR:=λi h=>h.elim,inj:=?_,base:=?_,below:=?_,fresh:=?_,still:=⟨λ_ _ h=>h.elim,λ_ h=>h.elim⟩,grown:=adF _,kept:=?_ }⟩
 .intro t ht _;rcases(hS t ht).2 with⟨h1,h2⟩|h
  .rw[h1,h2];exact .box _ _ _ (by simp[g])
  .exact h.mono (bg.same λb k _ h=>qJ b k h) (λ_ _ h=>by cases h)
 .intro t ht _;rw[<-(hS t ht).1];exact eQ.aI
 .intro j b hj
  by_cases xU:j=nm
  .subst xU
   have hb:b=bN:=by simpa[g]using hj.symm
   subst hb;refine⟨[nU e v es],#[v],ty,ahB,adF _,hN,by simp[g,Dd],by simp[g,Dd],rfl,λk hk cz=>?_,λk hk cz=>?_,λk hk=>?_⟩
   .have:k=0:=by simpa using hk
    subst this;exact dh
   .have:k=0:=by simpa using hk
    subst this;simp only[List.getElem_cons_zero,List.getElem_toArray];unfold nU
    cases El:v.ownBlock with
    |none=>trivial
    |some b'=>
     refine⟨i,xs,b',hi,?_,El,by simp[g,El],by simp[g,El]⟩;refine⟨cZ.1,?_⟩
     rcases cZ.2 with h|⟨gg,cap,cur,rfl,r_,rest⟩
     .exact .inl h
     .exact .inr ⟨gg,cap,cur,rfl,aeL (Nat.le_succ _) r_,rest⟩
   .have:k=0:=by simpa using hk
    subst this;simp only[List.getElem_cons_zero];unfold nU
    cases v.ownBlock<;>rfl
  .simp[g,xU]at hj
 .intro j cs hj _
  by_cases xU:j=nm
  .subst xU;simp[g]
  .simp[xU]at hj
 .intro j k b hj hk
  by_cases xU:j=nm<;>by_cases yA:k=nm
  .rw[xU,yA]
  .simp[g,yA]at hk
  .simp[g,xU]at hj
  .simp[g,xU]at hj
 .show bN=(w.heap.extract 0 bN).size;simp;omega
 .refine⟨rfl,rfl,rfl,by simp;omega,λk hk=>?_⟩;have cz:k<bN:=hk;show w.heap[k]?=(w.heap.extract 0 bN)[k]?;rw[afm,if_pos zo,aeh]
 .intro b hb
  have:v.ownBlock≠some b:=λh=>by have:=pL b h;omega
  simp[g,this]
 .intro b o h;simp only[g,nq]at h;split at h
  case isFalse=>cases h
  rename_i hc;refine⟨by show bN<=b;omega,h,by simp[g,hc.2],by simp[g,hc.2],λj hj=>?_⟩
  by_cases xU:j=nm
  .simp[g,xU]at hj;omega
  .simp[g,xU]at hj
def Rel.PZ {w0 w':World} {g':Gh} {S':an} {H':ao} {a':Act} (pr:Nat→Nat→Prop) {bN nm:Nat} {v:Value} {e:TypeId} {i:TypeInfo} {es':List AV} (hi:P.info? e=some i)
  (R:Rel P w0 n bP g' S' H' a' w') (hold:g'.old=nq pr w bN v) (gP:g'.base=bN) (uQ:∀b,b<bN->w0.heap[b]?=w.heap[b]?) (jC:g'.al nm=some bN) (hH:H' nm=some [.slice (.own e) es'])
  (nB:∀x∈es',x.cells.length=i.size/\x.storable=true/\∀c∈x.cells,c.one=true) (DA:∀x∈es',∀c∈x.cells,iF c=true):
  ∃v' Cj wC,w'.heap[bN]?=some (.cells #[v'] Cj (0,0))/\w'.ownsRow (bN+1) e i.size v' es'.length wC/\jo (λ_ _=>False) w' i.size es' wC/\
   (∀b,b<w.heap.size->b≠bN->v.ownBlock≠some b->w'.heap[b]?=w.heap[b]?)/\∀b,v'.ownBlock=some b->v.ownBlock=some b\/w.heap.size<=b:=by
 obtain⟨cs,vs,ty,h1,h2,h3,h4,h5,h6,h7,h8,h9⟩:=R.box nm bN jC;rw[hH]at h1;cases h1;have xT:vs.size=1:=h6.symm
 obtain⟨v',pP⟩:∃v',vs=#[v']:=⟨vs[0],by
  apply afc
  .simpa using xT
  .intro j hj dZ
   have:j=0:=zo
   subst this;rfl⟩
 subst pP;have hr:=h7 0 ahB ahB;have ho:=h8 0 ahB ahB;simp only[List.getElem_cons_zero,List.getElem_toArray]at hr ho;obtain⟨i',xs,b,k1,k2,k3,k4,k5⟩:=ho;rw[hi]at k1;cases k1
 have cD:b≠bN:=by
  rintro rfl;rw[h5]at k4;cases k4
 refine⟨v',ty,xs,h3,?_,⟨nB,λj hj k hk=>?_⟩,λb' il UK Vb=>?_,λb' il=>?_⟩
 .refine⟨k2.1,?_⟩
  rcases k2.2 with h|⟨gg,cap,cur,rfl,r_,rest⟩
  .exact .inl h
  .have:gg=b:=by simpa[Value.ownBlock]using k3
   subst this;exact .inr ⟨gg,cap,cur,rfl,by rw[gP]at r_;omega,rest⟩
 .rcases hr.nf i.size (by simp only[aG,adQ,adE,aej];exact λx hx=>⟨(nB x hx).2.1,(nB x hx).1⟩)with⟨rfl,_⟩|⟨b2,off,cap,news,j5,hl,hn,oB,Oy⟩
  .simp at hj
  .obtain⟨u,u1,u2⟩:=Oy j hj k hk;refine⟨u,?_,u2.iF (DA _ (adC hj) _ (adC hk))⟩
   have aq:j*i.size+k<xs.length:=by
    rw[k2.1,<-hl];exact(ad0.1 u1).1
   have e1:=k2.cells k3 _ _ (adB aq);have e2:=hn _ _ u1
   rcases k2.2 with⟨uC,_⟩|⟨gg,L8,cur,E6,_⟩
   .rw[uC]at k3;cases k3
   .rw[E6]at j5 k3
    have mT:gg=b:=by simpa[Value.ownBlock]using k3
    subst mT;cases j5;rw[aeA,aeh]at e1;rw[aeh]at e2;rw[e2]at e1;rw[adB aq,ad7 e1]
 .rcases ae6 b' bN with aq|zU
  .have:=R.below.block b' (by rw[gP];exact aq);rw[this];exact uQ b' aq
  .have Ii:g'.old.aU b'=w.heap[b']? := by
    rw[hold];simp only[nq];rw[if_pos ⟨zo,Vb⟩]
   have:w.heap[b']?=some (w.heap[b']):=by simp[il]
   rw[this]at Ii;rw[(R.kept b' _ Ii).2.1,this]
 .rw[k3]at il;cases il;rcases ae6 b w.heap.size with aq|zU
  .by_cases Vb:v.ownBlock=some b
   .exact .inl Vb
   .exfalso
    have lX:bN<=b:=by
     have:=(k2.lt b k3).1;rw[gP]at this;exact this
    have Ii:g'.old.aU b=w.heap[b]?:=by
     rw[hold];simp only[nq];rw[if_pos ⟨zo,Vb⟩]
    have:w.heap[b]?=some (w.heap[b]):=by simp[aq]
    rw[this]at Ii;have:=(R.kept b _ Ii).2.2.2.1;rw[k4]at this;cases this
  .exact .inr zU
end
section
variable{P:Program}{GI:World->Prop}{n:Nat}{S:an}{H:ao}{a:Act}{w:World}{ro:Option Nat}{m:Nat}{Q Q':Exit->Act->World->Prop}{F:Fence}
def nO{o:Oper}{K K':Act->World->Prop}(hK:∀a w,K a w->K' a w)(hQ:∀e a w,e≠.normal->Q e a w->Q' e a w)(hs:o.wpIn F m P a w K Q):o.wpIn F m P a w K' Q':=by
 have hs:=agp hK hs
 unfold Oper.wpIn at*
 refine⟨hs.1,?_⟩;have h2:=hs.2
 generalize(o.semAt F.round a.eval).run P w=r at*
 have uG:LetsOut Q->LetsOut Q':=λ⟨a,w,h⟩=>⟨a,w,hQ _ _ _ ahB h⟩
 cases r with
 |ok x w'=>
  cases x<;>simp only[Oper.uponIn]at h2⊢<;>first
   |exact h2
   |exact⟨h2.1,agF h2.2 (λe jv he=>by cases e<;>first|exact he|exact hQ _ _ _ ahB he|exact uG he)⟩
   |exact⟨h2.1,agV h2.2 (λ_ _ he=>he)⟩
   |exact⟨h2.1,agG h2.2 (λe jv he=>by cases e<;>first|exact he|exact hQ _ _ _ ahB he|exact uG he)⟩
 |halt x w'=>cases x<;>simp only[Oper.uponIn]at h2⊢<;>first|exact h2|exact hQ _ _ _ ahB h2
def gm{ops:Array Oper}(hQ:∀e a w,Q e a w->Q' e a w):∀(l:List Nat)(a:Act)(w:World),wpOpsIn F m P ops Q l a w->wpOpsIn F m P ops Q' l a w
 |[],a,w,h=>hQ _ _ _ h
 |i::l,a,w,h=>by
  simp only[wpOpsIn]at h⊢
  cases ho:ops[i]? with
  |none=>simp only[ho]at h⊢;exact gm hQ l a w h
  |some o=>
   simp only[ho]at h⊢;split
   .rename_i hw;rw[if_pos hw]at h;exact nO (λa w hh=>gm hQ l a w hh) (λe a w _ hh=>hQ e a w hh) h
   .rename_i hw;rw[if_neg hw]at h;exact⟨h.1,gm hQ l _ w h.2⟩
def eI(W:Nat->Bool)(a a':Act):Prop:=∀t,W t=false->a'.tmps.getD t undef=a.tmps.getD t undef
def eI.refl(W:Nat->Bool)(a:Act):eI W a a:=λ_ _=>rfl
def eI.trans{W:Nat->Bool}{a a' XQ:Act}(h:eI W a a')(h':eI W a' XQ):eI W a XQ:=λt ht=>(h' t ht).trans (h t ht)
def eI.put{W:Nat->Bool}{a:Act}{d:Option Nat}(hd:∀t,d=some t->W t=true)(v:Value):eI W a (a.put d v):=by
 intro t ht
 cases d with
 |none=>rfl
 |some k=>
  have:t≠k:=by rintro rfl;rw[hd t rfl]at ht;cases ht
  simp[Act.put,adN (aeq this)]
def rR{W:Nat->Bool}{o:Oper}{K:Act->World->Prop}(hd:∀t,o.dst=some t->W t=true)(h:o.wpIn F m P a w K Q):o.wpIn F m P a w (λa' w'=>K a' w'/\eI W a a') Q:=by
 unfold Oper.wpIn at*
 refine⟨h.1,?_⟩;have h2:=h.2
 generalize(o.semAt F.round a.eval).run P w=r at*
 cases r with
 |ok x w'=>
  cases x<;>simp only[Oper.uponIn]at h2⊢<;>first
   |exact⟨h2,eI.put hd _⟩
   |exact⟨h2,(eI.put (a:={ a with defers:=_ }) hd _:eI W { a with defers:=_ } _)⟩
   |exact⟨h2.1,agF h2.2 (λe jv he=>by cases e<;>first|exact⟨he,eI.put hd _⟩|exact he)⟩
   |exact⟨h2.1,agV h2.2 (λ_ _ he=>⟨he,eI.put hd _⟩)⟩
   |exact⟨h2.1,agG h2.2 (λe jv he=>by cases e<;>first|exact⟨he,eI.put hd _⟩|exact he)⟩
 |halt x w'=>cases x<;>simp only[Oper.uponIn]at h2⊢<;>exact h2
def jQ(ops:Array Oper)(W:Nat->Bool):Bool:=ops.all λo=>match o.dst with|some t=>W t|none=>true
def jQ.spec{ops:Array Oper}{W:Nat->Bool}(h:jQ ops W=true){i:Nat}{o:Oper}(ho:ops[i]?=some o):∀t,o.dst=some t->W t=true:=by
 intro t ht;have:=aeP.1 h o (aeK ho);simpa[ht]using this
def AK(W:Nat->Bool)(a:Act)(Q:Exit->Act->World->Prop):Exit->Act->World->Prop
 |.normal,a',w'=>Q .normal a' w'/\eI W a a'
 |e,a',w'=>Q e a' w'
def AK.next{W:Nat->Bool}{XI jy:Act}(h:eI W XI jy):∀e a w,AK W jy Q e a w->AK W XI Q e a w:=by
 intro e a w hh
 cases e<;>first|exact hh|exact⟨hh.1,h.trans hh.2⟩
def jf{ops:Array Oper}{W:Nat->Bool}(hW:jQ ops W=true):∀(l:List Nat)(a:Act)(w:World),wpOpsIn F m P ops Q l a w->wpOpsIn F m P ops (AK W a Q) l a w
 |[],a,w,h=>⟨h,eI.refl _ _⟩
 |i::l,a,w,h=>by
  simp only[wpOpsIn]at h⊢
  cases ho:ops[i]? with
  |none=>simp only[ho]at h⊢;exact jf hW l a w h
  |some o=>
   simp only[ho]at h⊢;split
   .rename_i hw;rw[if_pos hw]at h;refine nO (λa' w' hh=>gm (AK.next hh.2) l a' w' (jf hW l a' w' hh.1)) (λe a w cD hh=>?_) (rR (jQ.spec hW ho) h)
    cases e<;>first|exact hh|exact absurd rfl cD
   .rename_i hw;rw[if_neg hw]at h;exact⟨h.1,gm (AK.next (eI.put (jQ.spec hW ho) _)) l _ w (jf hW l _ w h.2)⟩
def jd{ops:Array Oper}{md:Region.Mode}{W:Nat->Bool}(hW:jQ ops W=true):∀(fuel:Nat)(l:Array Bool)(a:Act)(w:World),wpAnyIn F m P md ops Q fuel l a w->wpAnyIn F m P md ops (AK W a Q) fuel l a w
 |0,l,a,w,h=>⟨h.1,h.2,eI.refl _ _⟩
 |k+1,l,a,w,h=>⟨fun hr=>⟨h.1 hr,eI.refl _ _⟩,fun i hi=>by
   have hs:=h.2 i hi;unfold wpOpIn at hs⊢
   cases ho:ops[i]? with
   |none=>rw[ho]at hs;exact jd hW k _ a w hs
   |some o=>
    rw[ho]at hs;simp only at hs⊢;split
    .rename_i hw;rw[if_pos hw]at hs;refine nO (λa' w' hh=>fL (AK.next hh.2) k _ a' w' (jd hW k _ a' w' hh.1)) (λe a w cD hh=>?_) (rR (jQ.spec hW ho) hs)
     cases e<;>first|exact hh|exact absurd rfl cD
    .rename_i hw;rw[if_neg hw]at hs
     exact⟨hs.1,fL (AK.next (eI.put (jQ.spec hW ho) _)) k _ _ w (jd hW k _ _ w hs.2)⟩⟩
def cL (hG:ar GI) (hm:P.follows .mixedOrders=true) {id:Nat} {ops:Array Oper} {draw:Bool} (hc:kW (.region id ops draw)=true) {ac:af} (oL:dK P n (.region id ops draw)=ac) {W:Nat→Bool} (hW:jQ ops W=true) (gD:GI w) (pr:Nat→Nat→Prop) (S:an)
  (bl:a.tmps.size=n) (eR:a.defers=[]) (hS:∀t,t<n->(S t).aI=S t/\RV pr cQ w (S t) (a.tmps.getD t undef)) {K:an->ao->Prop} (h:bB P GI ac (aN K) S (λ_=>none))
  (hk:∀g S' H' a' w',g.old=Old.plain pr w->Rel P w n bP g S' H' a' w'->K S' H'->eI W a a'->Q .normal a' w'):(Code.region id ops draw).wpIn (FR ro) m P Q a w:=by
 subst oL;have R:=Rel.SO (P:=P) pr bl eR hS
 have fin:∀e a' w',AK W a (QQ P w n (Old.plain pr w) (aN K)) e a' w'->Q e a' w':=by
  intro e a' w' hq
  cases e with
  |normal=>
   obtain⟨⟨g',S',H',h1,h2,h3⟩,h4⟩:=hq;exact hk g' S' H' a' w' h1 h2 h3 h4
  |exit id=>obtain⟨_,_,_,_,_,h⟩:=hq;exact h.elim
  |ret=>obtain⟨_,_,_,_,_,h⟩:=hq;exact h.elim
  |panic ch=>obtain⟨_,_,_,_,_,_,_,_,_,_,h⟩:=hq;exact h.elim
  |goto l=>exact hq.elim
  |outgrown=>exact hq.elim
 simp only[dK]at h
 cases draw with
 |true=>
  simp only[aed]at h;split at h
  case isFalse=>exact h.elim
  rename_i bV;exact afi hm (fL fin _ _ _ _ (jd hW _ _ _ _ (l6 hG gD hm (old:=Old.plain pr w) hc bV (λ_ _ _ _ h=>h) rfl R h)))
 |false=>
  simp only[adM,ad1]at h;split at h
  case isFalse=>exact h.elim
  rename_i bV;exact aea (gm fin _ _ _ (jf hW _ _ _ (rr hG gD (old:=Old.plain pr w) hc bV (λ_ _ _ _ h=>h) rfl R h)))
def xf (hm:P.follows .mixedOrders=true) {id:Nat} {ops:Array Oper} {draw:Bool} (hc:kW (.region id ops draw)=true) {ac:af} (oL:dK P n (.region id ops draw)=ac) (Cm:ac.names=[]) {W:Nat→Bool} (hW:jQ ops W=true) (pr:Nat→Nat→Prop) (S:an)
  {bN nm tp:Nat} {v:Value} {e ty:TypeId} {i:TypeInfo} {es es':List AV} {xs:List Value} (SM:tp<n) (hWt:W tp=false) (aaQ:a.tmps.getD tp undef=.pointer (some ⟨bN,0,none⟩)) (bl:a.tmps.size=n) (eR:a.defers=[])
  (hN:w.heap[bN]?=some (.cells #[v] ty (0,0))) (hi:P.info? e=some i) (cZ:w.ownsRow (bN+1) e i.size v es.length xs) (hf:jo (λb k=>b<bN/\pr b k) w i.size es xs)
  (hS:∀t,t<n->(S t).aI=S t/\((S t=.box nm 0/\a.tmps.getD t undef=.pointer (some ⟨bN,0,none⟩))\/RV (λb k=>b<bN/\pr b k) cQ w (S t) (a.tmps.getD t undef)))
  (h:bB P (λ_=>True) ac (aN λS' H'=>S' tp=.box nm 0/\H' nm=some [.slice (.own e) es']) S (λj=>if j=nm then some [nU e v es]else none))
  (nB:∀x∈es',x.cells.length=i.size/\x.storable=true/\∀c∈x.cells,c.one=true) (DA:∀x∈es',∀c∈x.cells,iF c=true)
  (hk:∀a' w' v' Cj wC,a'.tmps.size=n->a'.defers=[]->eI W a a'->w'.heap[bN]?=some (.cells #[v'] Cj (0,0))->w'.ownsRow (bN+1) e i.size v' es'.length wC->jo (λ_ _=>False) w' i.size es' wC->
   l8 (λb=>b=bN\/v.ownBlock=some b) w w'->(∀b,v'.ownBlock=some b->v.ownBlock=some b\/w.heap.size<=b)->Q .normal a' w'):(Code.region id ops draw).wpIn (FR ro) m P Q a w:=by
 subst oL;obtain⟨g,nw,nQ,Y2,R⟩:=Rel.stack (P:=P) (nm:=nm) (S:=S) (a:=a) pr bl eR hN hi cZ hf hS;have aq:=(adD.1 hN).1
 have fin:∀e1 a' w',AK W a (QQ P { w with heap:=w.heap.extract 0 bN } n (nq pr w bN v) (aN λS' H'=>S' tp=.box nm 0/\H' nm=some [.slice (.own e) es'])) e1 a' w'->Q e1 a' w':=by
  intro e1 a' w' hq
  cases e1 with
  |normal=>
   obtain⟨⟨g',S',H',h1,h2,h3⟩,h4⟩:=hq
   have mT:g'.base=bN:=by rw[h2.base];simp;omega
   have jC:g'.al nm=some bN:=by
    have hs:=h2.slot tp SM (λhh=>hh);rw[h3.1,h4 tp hWt,aaQ]at hs
    cases hs with
    |data _ _ h=>cases h
    |box _ _ b h=>exact h
   obtain⟨v',Cj,wC,k1,k2,k3,k4,k5⟩:=Rel.PZ (w:=w) pr hi h2 h1 mT (λb hb=>by
    show(w.heap.extract 0 bN)[b]?=w.heap[b]?
    rw[afm,if_pos zo,aeh]) jC h3.2 nB DA
   have iH:=h2.grown;rw[h1]at iH;refine hk a' w' v' Cj wC h2.size (by rw[h2.defers,h1];rfl) h4 k1 k2 k3 ⟨h2.below.os,h2.below.tape,h2.below.output,iH,λb hb hM=>?_⟩ k5;exact k4 b hb (λh=>hM (.inl h)) (λh=>hM (.inr h))
  |exit id=>obtain⟨_,_,_,_,_,h⟩:=hq;exact h.elim
  |ret=>obtain⟨_,_,_,_,_,h⟩:=hq;exact h.elim
  |panic ch=>obtain⟨_,_,_,_,_,_,_,_,_,_,h⟩:=hq;exact h.elim
  |goto l=>exact hq.elim
  |outgrown=>exact hq.elim
 simp only[dK]at h Cm
 have hb:∀(b:Nat),(nq pr w bN v).bx b->False:=λ_ h=>h
 cases draw with
 |true=>
  simp only[aed]at h;split at h
  case isFalse=>exact h.elim
  rename_i bV;exact afi hm (fL fin _ _ _ _ (jd hW _ _ _ _ (l6 (GI:=λ_=>True) (λ_ _ _ _=>trivial) trivial hm hc bV (λ_ _ _ _ h=>h) nw R h)))
 |false=>
  simp only[adM,ad1]at h;split at h
  case isFalse=>exact h.elim
  rename_i bV;exact aea (gm fin _ _ _ (jf hW _ _ _ (rr (GI:=λ_=>True) (λ_ _ _ _=>trivial) trivial hc bV (λ_ _ _ _ h=>h) nw R h)))
def Rel.BK {w0 w':World} {g:Gh} {S':an} {H':ao} {a':Act} (R:Rel P w0 n bP g S' H' a' w') {t:Nat} (ht:t < n) {e:TypeId} {i:TypeInfo} (hi:P.info? e=some i) {es:List AV} (hS:S' t = .slice (if es.isEmpty then .nil else .own e) es)
  (nB:∀x∈es,x.cells.length=i.size/\x.storable=true/\∀c∈x.cells,c.one=true) (DA:∀x∈es,∀c∈x.cells,iF c=true):
  RD (λb j=>(g.base<=b/\b<w'.heap.size)/\j<g.hi b) w' (.slice .view es) (a'.tmps.getD t undef):=by
 have h1:=(R.slot t ht id)
 have h2:=(R.own t ht id)
 rw[hS]at h1 h2;have h1:=h1.dX rfl
 cases es with
 |nil=>exact h1.CJ
 |cons x es=>
  simp only[List.isEmpty_cons,adM,ad1]at h1 h2;obtain⟨i',xs,b,k1,k2,k3,k4,k5⟩:=h2;rw[hi]at k1;cases k1;have hf:=jo.NL h1 k2 nB DA
  refine RD.ofRow k2 (hf.mono (bg.same λ_ _ _ h=>h.elim)) λb' il k hk=>?_
  rw[k3]at il;cases il;exact⟨k2.lt b k3,by rw[k5];exact hk⟩
end
section
variable{P:Program}{GI:World->Prop}{n:Nat}{S:an}{H:ao}{a:Act}{w:World}{ro:Option Nat}{m:Nat}{Q Q':Exit->Act->World->Prop}{F:Fence}
def yZ(ops:Array Oper)(j d:Nat)(T:List Nat):Nat->Array Bool->Bool
 |0,l=>l.getD j false
 |k+1,l=>(Region.ready .any ops l != [] || l.getD j false) && (Region.ready .any ops l).all fun i =>
   (!l.getD j false||(match(ops[i]?).bind (·.dst)with|some t=>t !=d&&!T.contains t|none=>true))&&yZ ops j d T k (l.setIfInBounds i true)
def X7(N:Act->Prop)(Q:Exit->Act->World->Prop):Exit->Act->World->Prop
 |.normal,a,w=>Q .normal a w/\N a
 |e,a,w=>Q e a w
def o8 {ops:Array Oper} {j d:Nat} {oj:Oper} {T:List Nat} (hj:ops[j]? = some oj) (P_:oj.guard=none) (dO:eK oj.op=true) (N:Act→Prop)
  (Rn:∀a a':Act,a'.tmps.getD d undef=a.tmps.getD d undef->(∀t∈T,a'.tmps.getD t undef=a.tmps.getD t undef)->N a->N a') (dE:∀(a:Act)(w:World),a.tmps.size=n->match(execOp a.eval oj).run P w with|.ok (.value v) _=>N (a.put oj.dst v)|.ok _ _=>False|.halt _ _=>True) (hW:jQ ops (λt=>decide (t<n))=true):
  ∀(fuel:Nat)(l:Array Bool)(a:Act)(w:World),yZ ops j d T fuel l=true->(l.getD j false=true->N a)->l.size=ops.size->a.tmps.size=n->
   wpAnyIn (FR ro) m P .any ops Q fuel l a w->wpAnyIn (FR ro) m P .any ops (X7 N Q) fuel l a w
 |0,l,a,w,h,hN,hl,bl,hh=>⟨hh.1,hh.2,hN (by simpa[yZ]using h)⟩
 |k+1,l,a,w,h,hN,hl,bl,hh=>by
  simp only[yZ,adE,adQ,aeZ,agn,ne_eq]at h;refine⟨λhr=>⟨hh.1 hr,hN (h.1.resolve_left (λcD=>cD hr))⟩,λi hi=>?_⟩;obtain⟨h2,h3⟩:=h.2 i hi;have hs:=hh.2 i hi;unfold wpOpIn at hs⊢
  cases ho:ops[i]? with
  |none=>exact absurd (afA.1 hi).2 (by rw[ho];rintro⟨o,h,_⟩;cases h)
  |some o=>
   rw[ho]at hs h2;simp only[Option.bind_some]at h2 hs⊢
   have Uz:i<l.size:=by rw[hl];exact(adD.1 ho).1
   have o_:(l.setIfInBounds i true).size=ops.size:=by simpa using hl
   have next:∀(a':Act),a'.tmps.size=n->eI (λt=>o.dst==some t) a a'->i≠j->((l.setIfInBounds i true).getD j false=true->N a'):=by
    intro a' _ bn cD hlj
    have W_:l.getD j false=true:=by
     rw[adY,adN cD]at hlj;rwa [adY]
    rcases h2 with h2|h2
    .rw[W_]at h2;cases h2
    .have Dp:(o.dst==some d)=false∧∀ t∈T,(o.dst==some t)=false:=by
      cases hod:o.dst with
      |none=>simp
      |some t=>
       rw[hod]at h2;simp only[adE,agn,ne_eq,aeF,af5,afP]at h2;refine⟨by simpa using h2.1,λt' uR=>?_⟩;simp only[aeo,ne_eq,ad8];rintro rfl;exact h2.2 uR
     exact Rn a a' (bn d Dp.1) (λt ht=>bn t (Dp.2 t ht)) (hN W_)
   have lC:∀(d':Option Nat)(v:Value)(a:Act),(a.put d' v).tmps.size=a.tmps.size:=by
    intro d' v a;cases d'<;>simp[Act.put]
   split
   .rename_i hw;rw[if_pos hw]at hs
    by_cases so:i=j
    .subst so;rw[hj]at ho;cases ho;unfold Oper.wpIn at hs⊢;refine⟨λ_ _=>trivial,?_⟩;have h4:=hs.2;rw[ae_ _ _ _ (λc hc=>by rw[hc]at dO;cases dO)]at h4⊢;have h5:=dE a w bl;generalize(execOp a.eval oj).run P w=r at h4 h5⊢
     cases r with
     |ok x w'=>
      cases x<;>simp only at h5
      case value v=>
       simp only[Oper.uponIn]at h4⊢;exact o8 hj P_ dO N Rn dE hW k _ _ w' h3 (λ_=>h5) o_ (by rw[lC];exact bl) h4
     |halt x w'=>cases x<;>simp only[Oper.uponIn]at h4⊢<;>exact h4
    .have qR:=rR (W:=λt=>o.dst==some t) (λt ht=>by simp[ht]) hs
     have Ta:o.wpIn (FR ro) m P a w (λa' w'=>(wpAnyIn (FR ro) m P .any ops Q k (l.setIfInBounds i true) a' w'/\eI (λt=>o.dst==some t) a a')/\a'.tmps.size=n) Q:=by
      unfold Oper.wpIn at qR⊢;refine⟨qR.1,?_⟩;have h4:=qR.2
      generalize(o.semAt (FR ro).round a.eval).run P w=r at*
      cases r with
      |ok x w'=>
       cases x<;>simp only[Oper.uponIn]at h4⊢<;>first
        |exact⟨h4,by rw[lC];exact bl⟩
        |exact⟨h4.1,agF h4.2 (λe jv he=>by cases e<;>first|exact⟨he,by rw[lC];exact bl⟩|exact he)⟩
        |exact⟨h4.1,agV h4.2 (λ_ _ he=>⟨he,by rw[lC];exact bl⟩)⟩
        |exact⟨h4.1,agG h4.2 (λe jv he=>by cases e<;>first|exact⟨he,by rw[lC];exact bl⟩|exact he)⟩
      |halt x w'=>cases x<;>simp only[Oper.uponIn]at h4⊢<;>exact h4
     refine nO (λa' w' hh=>?_) (λe a w cD hh=>?_) Ta
     .exact o8 hj P_ dO N Rn dE hW k _ a' w' h3 (next a' hh.2 hh.1.2 so) o_ hh.2 hh.1.1
     .cases e<;>first|exact hh|exact absurd rfl cD
   .rename_i hw;rw[if_neg hw]at hs
    have so:i≠j:=by
     rintro rfl;rw[hj]at ho;cases ho;simp[Region.wanted,P_]at hw
    refine⟨hs.1,o8 hj P_ dO N Rn dE hW k _ _ w h3 (next _ (by rw[lC];exact bl) (eI.put (λt ht=>by simp[ht]) _) so) o_ (by rw[lC];exact bl) hs.2⟩
def Qj (hG:ar GI) (hm:P.follows .mixedOrders=true) {id:Nat} {ops:Array Oper} {p:Nat} (GS:cutAt ops p=true) (dO:(ops.extract 0 p).all (fun o=>eK o.op)=true) (bV:LU P n (ops.extract 0 p)=true)
  {l:List bI} (hl:bh P n true (ops.extract 0 p)=l) (kV:(ops.extract 0 p).size=p) {W:Nat->Bool} (hW:jQ (ops.extract 0 p) W=true) (gD:GI w) (pr:Nat->Nat->Prop) (S:an)
  {j d:Nat} {oj:Oper} {T:List Nat} (hj:(ops.extract 0 p)[j]?=some oj) (P_:oj.guard=none) (aaw:eK oj.op=true) (N:Act->Prop)
  (Rn:∀a a':Act,a'.tmps.getD d undef=a.tmps.getD d undef->(∀t∈T,a'.tmps.getD t undef=a.tmps.getD t undef)->N a->N a') (dE:∀(a:Act)(w:World),a.tmps.size=n->match(execOp a.eval oj).run P w with|.ok (.value v) _=>N (a.put oj.dst v)|.ok _ _=>False|.halt _ _=>True) (hWn:jQ (ops.extract 0 p) (λt=>decide (t<n))=true)
  (gQ:yZ (ops.extract 0 p) j d T p (Array.replicate p false)=true)
  (bl:a.tmps.size=n) (eR:a.defers=[]) (hS:∀t,t<n->(S t).aI=S t/\RV pr cQ w (S t) (a.tmps.getD t undef)) {K:an->ao->Prop}
  (h:cV P GI l K (eP l S) (dW l (λ_=>none)))
  (hk:∀g S' H' a' w',g.old=Old.plain pr w->Rel P w n bP g S' H' a' w'->K S' H'->eI W a a'->N a'->wpOpsIn (FR ro) m P ops Q (List.range' p (ops.size-p)) a' w'):
  (Code.region id ops true).wpIn (FR ro) m P Q a w:=by
 refine Rd hm GS ?_;have key:=l6 (ro:=ro) (m:=m) (a:=a) (w:=w) hG gD hm (old:=Old.plain pr w) (ops:=ops.extract 0 p) (Q:=aN K) dO bV (λ_ _ _ _ h=>h) rfl (Rel.SO pr bl eR hS) (by subst hl;exact h);rw[kV]at key
 have abj:=o8 hj P_ aaw N Rn dE hWn p _ a _ gQ (λhh=>by
  have:(Array.replicate p false).getD j false=false:=by
   rw[adY]
   by_cases hjp:j<p
   .simp[hjp]
   .simp[hjp]
  rw[this]at hh;cases hh) (by simpa using kV.symm) bl (jd hW _ _ _ _ key)
 refine fL ?_ _ _ _ _ abj;intro e a' w' hq
 cases e with
 |normal=>
  obtain⟨⟨⟨g',S',H',h1,h2,h3⟩,h4⟩,h5⟩:=hq;exact hk g' S' H' a' w' h1 h2 h3 h4 h5
 |exit id=>obtain⟨_,_,_,_,_,h⟩:=hq;exact h.elim
 |ret=>obtain⟨_,_,_,_,_,h⟩:=hq;exact h.elim
 |panic ch=>obtain⟨_,_,_,_,_,_,_,_,_,_,h⟩:=hq;exact h.elim
 |goto l=>exact hq.elim
 |outgrown=>exact hq.elim
end
section
variable{P:Program}{n:Nat}{a:Act}{w:World}{m:Nat}{Q:Exit->Act->World->Prop}
def jT {o:Oper} {t:TypeId} {x:Operand} {b off:Nat} {v:Value} {d:TypeDesc} (ho:o.op = .load t x) (hx:a.eval x = .pointer (some ⟨b,off,none⟩)) (hu:P.underlying t=some d) (hd:eh d=false) (hc:w.cell? ⟨b,off,none⟩=some v) :
  (execOp a.eval o).run P w=.ok (.value v) w:=by
 have kR:(isAgg t).run P w=.ok false w:=by
  unfold isAgg;rw[adK,adW hu w]
  cases d<;>simp_all[eh]
 unfold execOp;simp[ho,hx,Instr.loadAt,Instr.sureAddr,loadVar,adK,kR,hc]
def iU {o:Oper} {t:TypeId} {x y:Operand} {b:Nat} {v u:Value} {ty:TypeId} {i:TypeInfo} (ho:o.op = .store t x y) (hx:a.eval x = .pointer (some ⟨b,0,none⟩)) (hi:P.info? t=some i) (hs:i.size=1) (hb:w.heap[b]? = some (.cells #[u] ty (0,0)))
  (hv:(a.eval y)=v) (h1:v.oneCell'=true):(execOp a.eval o).run P w=.ok .skip (w.setRow b #[v]):=by
 have j5:v.cells=#[v]:=by cases v<;>first|rfl|cases h1
 have dE:=agt P b 0 ty [v] 0 #[u] w hb ahB (λx hx=>by simp at hx;subst hx;exact h1);unfold execOp;simp only[ho,hx,hv,Instr.storeAt,Instr.sureAddr,storeVar,sizeOf,typeInfo,adK,Sem.run_pure,Result.andThen_ok,run_program,hi,hs,j5,ne_eq,ae4,ad1];simp only[Nat.add_zero,List.take_zero,List.nil_append,List.length_singleton,afZ,aeh]at dE
 have e:(w.setRow b ([v]++List.drop 1 #[u].toList).toArray)=w.setRow b #[v]:=ahB
 rw[e]at dE;have bl:(#[v]:Array Value).size=1:=rfl;simp only[bl,ae4,ad1];rw[show storeCells ⟨b,0,none⟩ (#[v]:Array Value).toList=storeCells ⟨b,0,none⟩ [v] 0 from rfl,dE]
 rfl
def Rv {o:Oper} {cl:Call} {t:TypeId} {x:Operand} {ad:Option Addr} {k cap:Nat} {el:TypeId} (ho:o.op = .call cl) (kH:cl.callee = .builtin .len) (ha:cl.args = #[x]) (ht:cl.argTypes = #[t]) (hu:P.underlying t=some (.slice el)) (hx:a.eval x = .slice ad k cap) :
  (execOp a.eval o).run P w=.ok (.value (.int .i64 k)) w:=by
 unfold execOp
 have hm:(Builtin.len_ #[t] o.type #[.slice ad k cap]).run P w=.ok (.int .i64 k) w:=by simp[Builtin.len_,adW hu,goInt]
 simp[ho,kH,ha,ht,resolve,invoke,builtin,hx,hm]
def Jv {o:Oper} {t:TypeId} {x y:Operand} {g k cap:Nat} {el:TypeId} {i:TypeInfo} (ho:o.op = .slice t x none (some y) none) (hu:P.underlying t=some (.slice el)) (hi:P.info? el=some i) (hx:a.eval x = .slice (some ⟨g,0,none⟩) (k+1) cap) (hy:a.eval y = .int .i64 k) (hk:k≤cap) :
  (execOp a.eval o).run P w=.ok (.value (.slice (some ⟨g,0,none⟩) k cap)) w:=by
 have hb:=run_sliceBound (P:=P) (w:=w) (x:=.int .i64 k) (i:=k) (y:=cap) (code:=.sliceAcap) rfl zo zo
 have hbs:(Instr.sliceBounds true (k+1) cap none (some (.int .i64 k)) none).run P w=.ok (0,k,cap) w:=by
  unfold Instr.sliceBounds;simp[adK,hb]
 unfold execOp;simp[ho,hx,hy,Instr.sliceAt,adW hu,Instr.slice,hbs,sizeOf,typeInfo,hi,aeA]
def QL {o:Oper} {t t':TypeId} {x y:Operand} {p q:Int} (ho:o.op = .binOp .sub t x y t') (hx:a.eval x = .int .i64 p) (hy:a.eval y = .int .i64 q) :
  (execOp a.eval o).run P w=.ok (.value (.int .i64 (IntKind.i64.wrap (p-q)))) w:=by
 have h0:(eqGuard .sub t x y (.int .i64 p) (.int .i64 q)).run P w=.ok () w:=hZ _ _ _ _ _ _ rfl
 have h1:(binOp .sub t (.int .i64 p) (.int .i64 q)).run P w=.ok (.int .i64 (IntKind.i64.wrap (p-q))) w:=by
  simp[binOp,Op.intArith]
 simp[execOp,ho,hx,hy,h0,h1]
def KS {ops:Array Oper} {T el ti ti':TypeId} {p t1 t2 t3 t4 t5 bN:Nat} {o0 o1 o2 o3 o4 o5:Oper} {cl:Call} {i iT:TypeInfo} {v:Value} {ty:TypeId} {k:Nat} {xs last:List Value}
  (h0:ops[0]?=some o0) (h1:ops[1]?=some o1) (h2:ops[2]?=some o2) (h3:ops[3]?=some o3) (h4:ops[4]?=some o4) (h5:ops[5]?=some o5)
  (q0:o0.op=.load T (.tmp p)/\o0.dst=some t1/\o0.guard=none) (q1:o1.op=.load T (.tmp p)/\o1.dst=some t2/\o1.guard=none) (q2:o2.op=.call cl/\o2.dst=some t3/\o2.guard=none) (q3:o3.op=.binOp .sub ti (.tmp t3) (.const (.int .i64 1)) ti'/\o3.dst=some t4/\o3.guard=none)
  (q4:o4.op=.slice T (.tmp t1) none (some (.tmp t4)) none/\o4.dst=some t5/\o4.guard=none) (q5:o5.op=.store T (.tmp p) (.tmp t5)/\o5.dst=none/\o5.guard=none)
  (kH:cl.callee=.builtin .len) (Cd:cl.args=#[.tmp t2]) (DB:cl.argTypes=#[T]) (hu:P.underlying T=some (.slice el)) (TR:P.info? T=some iT) (T5:iT.size=1) (hi:P.info? el=some i)
  (hd:p≠t1/\p≠t2/\p≠t3/\p≠t4/\p≠t5/\t1≠t2/\t1≠t3/\t1≠t4/\t2≠t3/\t3≠t4/\t4≠t5) (bl:a.tmps.size=n) (hn:t1<n/\t2<n/\t3<n/\t4<n/\t5<n)
  (hp:a.tmps.getD p undef=.pointer (some ⟨bN,0,none⟩)) (hN:w.heap[bN]?=some (.cells #[v] ty (0,0))) (cZ:w.ownsRow (bN+1) el i.size v (k+1) (xs++last)) (qU:xs.length=k*i.size) (hk:k<1000000)
  (hq:∀a' v',a'.tmps.size=n->a'.defers=a.defers->(∀t,t≠t1->t≠t2->t≠t3->t≠t4->t≠t5->a'.tmps.getD t undef=a.tmps.getD t undef)->v'.ownBlock=v.ownBlock->v.ownBlock.isSome=true->w.ownsRow (bN+1) el i.size v' k xs->Q .normal a' (w.setRow bN #[v'])):
  wpOpsIn (FR none) m P ops Q [0,1,2,3,4,5] a w:=by
 obtain⟨d1,d2,d3,d4,d5,d6,d7,d8,d9,d10,d11⟩:=hd;obtain⟨n1,n2,n3,n4,n5⟩:=hn
 have hc:w.cell? ⟨bN,0,none⟩=some v:=by simp[World.cell?,hN]
 obtain⟨g,cap,rfl⟩:∃g cap,v=.slice (some ⟨g,0,none⟩) (k+1) cap:=by
  rcases cZ.2 with⟨_,h⟩|⟨g,cap,cur,h,_⟩
  .omega
  .exact⟨g,cap,h⟩
 have fl:k<=cap:=by
  rcases cZ.2 with⟨h,_⟩|⟨g',L8,cur,h,_,_,As,_⟩
  .cases h
  .cases h;omega
 have acp:w.ownsRow (bN+1) el i.size (.slice (some ⟨g,0,none⟩) k cap) k xs:=by
  obtain⟨_,h2⟩:=cZ
  rcases h2 with⟨h0,_⟩|⟨g',L8,cur,hv,hg,hh,hn,fl,bl,AA⟩
  .cases h0
  .cases hv;refine⟨qU,.inr ⟨g,cap,cur,rfl,hg,hh,zo,fl,bl,?_⟩⟩
   have h3:(cur.toList.take ((k+1)*i.size)).take (k*i.size)=(xs++last).take (k*i.size):=by rw[AA]
   rw[List.take_take,agH (ae0 _ zo)]at h3;rw[h3,<-qU,agm]
 have fx:∀(a:Act)(d t:Nat)(c:Value),t≠d->(a.put (some d) c).tmps.getD t undef=a.tmps.getD t undef:=λa d t c h=>by
  simp[Act.put,adN (aeq h)]
 have jL:∀(a:Act)(d:Nat)(c:Value),a.tmps.size=n->d<n->(a.put (some d) c).tmps.getD d undef=c:=λa d c h hd=>by
  simp[Act.put,h,hd]
 have kn:∀(a:Act)(d:Option Nat)(c:Value),(a.put d c).tmps.size=a.tmps.size:=λa d c=>by cases d<;>simp[Act.put]
 have sJ:∀(a:Act)(d:Option Nat)(c:Value),(a.put d c).defers=a.defers:=λa d c=>by cases d<;>rfl
 refine bf h0 q0.2.2 (by rw[q0.1];rfl) (jT q0.1 hp hu rfl hc) ?_;rw[q0.2.1]
 obtain⟨a1,ny⟩:∃a1,a.put (some t1) (.slice (some ⟨g,0,none⟩) (k+1) cap)=a1:=⟨_,rfl⟩
 have z1:a1.tmps.size=n:=by rw[<-ny,kn];exact bl
 have v1:a1.tmps.getD t1 undef=.slice (some ⟨g,0,none⟩) (k+1) cap:=by rw[<-ny];exact jL a t1 _ bl n1
 have p1:a1.tmps.getD p undef=.pointer (some ⟨bN,0,none⟩):=by rw[<-ny,fx _ _ _ _ d1];exact hp
 rw[ny];refine bf h1 q1.2.2 (by rw[q1.1];rfl) (jT q1.1 p1 hu rfl hc) ?_;rw[q1.2.1]
 obtain⟨a2,jE⟩:∃a2,a1.put (some t2) (.slice (some ⟨g,0,none⟩) (k+1) cap)=a2:=⟨_,rfl⟩
 have z2:a2.tmps.size=n:=by rw[<-jE,kn];exact z1
 have v2:a2.tmps.getD t2 undef=.slice (some ⟨g,0,none⟩) (k+1) cap:=by rw[<-jE];exact jL a1 t2 _ z1 n2
 have v1:a2.tmps.getD t1 undef=.slice (some ⟨g,0,none⟩) (k+1) cap:=by rw[<-jE,fx _ _ _ _ d6];exact v1
 have p2:a2.tmps.getD p undef=.pointer (some ⟨bN,0,none⟩):=by rw[<-jE,fx _ _ _ _ d2];exact p1
 rw[jE];refine bf h2 q2.2.2 (by rw[q2.1];rfl) (Rv q2.1 kH Cd DB hu v2) ?_;rw[q2.2.1]
 obtain⟨a3,sk⟩:∃a3,a2.put (some t3) (.int .i64 ((k+1:Nat):Int))=a3:=⟨_,rfl⟩
 have z3:a3.tmps.size=n:=by rw[<-sk,kn];exact z2
 have v3:a3.tmps.getD t3 undef=.int .i64 ((k+1:Nat):Int):=by rw[<-sk];exact jL a2 t3 _ z2 n3
 have v1:a3.tmps.getD t1 undef=.slice (some ⟨g,0,none⟩) (k+1) cap:=by rw[<-sk,fx _ _ _ _ d7];exact v1
 have p3:a3.tmps.getD p undef=.pointer (some ⟨bN,0,none⟩):=by rw[<-sk,fx _ _ _ _ d3];exact p2
 rw[sk];refine bf h3 q3.2.2 (by rw[q3.1];rfl) (QL q3.1 v3 rfl) ?_;rw[q3.2.1]
 have hw:IntKind.i64.wrap (((k+1:Nat):Int)-1)=(k:Int):=by
  have key:∀m:Int,m=(((k+1:Nat):Int)-1) % 18446744073709551616->(if decide (m>=9223372036854775808)=true then m-18446744073709551616 else m)=(k:Int):=by
   intro m hm;split
   .rename_i hd;have:=afD hd;omega
   .omega
  exact key _ rfl
 rw[hw]
 obtain⟨a4,mo⟩:∃a4,a3.put (some t4) (.int .i64 (k:Int))=a4:=⟨_,rfl⟩
 have z4:a4.tmps.size=n:=by rw[<-mo,kn];exact z3
 have v4:a4.tmps.getD t4 undef=.int .i64 (k:Int):=by rw[<-mo];exact jL a3 t4 _ z3 n4
 have v1:a4.tmps.getD t1 undef=.slice (some ⟨g,0,none⟩) (k+1) cap:=by rw[<-mo,fx _ _ _ _ d8];exact v1
 have p4:a4.tmps.getD p undef=.pointer (some ⟨bN,0,none⟩):=by rw[<-mo,fx _ _ _ _ d4];exact p3
 rw[mo];refine bf h4 q4.2.2 (by rw[q4.1];rfl) (Jv q4.1 hu hi v1 v4 fl) ?_;rw[q4.2.1]
 obtain⟨a5,qX⟩:∃a5,a4.put (some t5) (.slice (some ⟨g,0,none⟩) k cap)=a5:=⟨_,rfl⟩
 have z5:a5.tmps.size=n:=by rw[<-qX,kn];exact z4
 have v5:a5.tmps.getD t5 undef=.slice (some ⟨g,0,none⟩) k cap:=by rw[<-qX];exact jL a4 t5 _ z4 n5
 have p5:a5.tmps.getD p undef=.pointer (some ⟨bN,0,none⟩):=by rw[<-qX,fx _ _ _ _ d5];exact p4
 rw[qX];refine eT h5 q5.2.2 (by rw[q5.1];rfl) (iU q5.1 p5 TR T5 hN v5 rfl) ?_;rw[q5.2.1];refine hq a5 _ z5 ?_ (λt e1 e2 e3 e4 e5=>?_) rfl rfl acp
 .rw[<-qX,sJ,<-mo,sJ,<-sk,sJ,<-jE,sJ,<-ny,sJ]
 .rw[<-qX,fx _ _ _ _ e5,<-mo,fx _ _ _ _ e4,<-sk,fx _ _ _ _ e3,<-jE,fx _ _ _ _ e2,<-ny,fx _ _ _ _ e1]
def iI {F:Fence} {ops:Array Oper} {Q1:Exit→Act→World→Prop} {l2:List Nat} (hQ:∀ e a w,e ≠ .normal→Q1 e a w→Q e a w) (hn:∀ a w,Q1 .normal a w→wpOpsIn F m P ops Q l2 a w) :
  ∀(l1:List Nat)(a:Act)(w:World),wpOpsIn F m P ops Q1 l1 a w->wpOpsIn F m P ops Q (l1++l2) a w
 |[],a,w,h=>hn a w h
 |i::l,a,w,h=>by
  simp only[List.cons_append,wpOpsIn]at h⊢
  cases ho:ops[i]? with
  |none=>simp only[ho]at h⊢;exact iI hQ hn l a w h
  |some o=>
   simp only[ho]at h⊢;split
   .rename_i hw;rw[if_pos hw]at h;exact nO (λa w hh=>iI hQ hn l a w hh) hQ h
   .rename_i hw;rw[if_neg hw]at h;exact⟨h.1,iI hQ hn l _ w h.2⟩
def lI {GI:World→Prop} {ro:Option Nat} (hG:ar GI) {ops:Array Oper} {p:Nat} {l2:List Nat} (hr:List.range ops.size=List.range p++l2) (dO:ops.all (fun o=>eK o.op)=true) (bV:((bh P n false ops).take p).all (·.ok n)=true)
  {l:List bI} (hl:(bh P n false ops).take p=l) (hpn:p<=ops.size) {W:Nat->Bool} (hW:jQ ops W=true) (gD:GI w) (pr:Nat->Nat->Prop) (S:an)
  (bl:a.tmps.size=n) (eR:a.defers=[]) (hS:∀t,t<n->(S t).aI=S t/\RV pr cQ w (S t) (a.tmps.getD t undef)) {K:an->ao->Prop} (h:bq P GI l K (λ_=>False) S (λ_=>none))
  (hk:∀g S' H' a' w',g.old=Old.plain pr w->Rel P w n bP g S' H' a' w'->K S' H'->eI W a a'->wpOpsIn (FR ro) m P ops Q l2 a' w') {id:Nat}:(Code.region id ops false).wpIn (FR ro) m P Q a w:=by
 refine aea ?_;rw[hr];subst hl;have R:=Rel.SO (P:=P) pr bl eR hS
 have key:=rY hG gD (old:=Old.plain pr w) (ops:=ops) (Q:=aN K) (S0:=S) (H0:=fun _=>none) (List.range p) (ops.toList.take p) _ S _ a w (by
   apply ae5;intro i;simp only[ad9,age]
   by_cases hi:i<p
   .have:i<ops.size:=zo
    simp[hi,this]
   .simp[hi]) (λo kE=>by
    simp only[bh,<-afv,afl,adQ,Function.comp]at bV
    exact bV o kE) (λ_ _ _ _ h=>h) rfl R (by
    simp only[bh,<-afv]at h
    exact h)
 refine iI (Q1:=AK W a (QQ P w n (Old.plain pr w) (aN K))) (λe a w cD hq=>?_) (λa' w' hq=>?_) _ _ _ (jf hW _ _ _ (qu dO qo _ _ _ key))
 .cases e with
  |normal=>exact absurd rfl cD
  |exit id=>obtain⟨_,_,_,_,_,h⟩:=hq;exact h.elim
  |ret=>obtain⟨_,_,_,_,_,h⟩:=hq;exact h.elim
  |panic ch=>obtain⟨_,_,_,_,_,_,_,_,_,_,h⟩:=hq;exact h.elim
  |goto l=>exact hq.elim
  |outgrown=>exact hq.elim
 .obtain⟨⟨g',S',H',h1,h2,h3⟩,h4⟩:=hq;exact hk g' S' H' a' w' h1 h2 h3 h4
end
section
variable{P:Program}{GI:World->Prop}{n:Nat}{old:Old}{S:an}{H:ao}{Q:fa}
def sU (hG:ar GI) {w0:World} (cm:GI w0) {ro:Option Nat} {m:Nat} {ops:Array Oper} (dO:ops.all (fun o=>eK o.op)=true) {g:Gh} {a:Act} {w:World} (ho:g.old=old) (R:Rel P w0 n bP g S H a w) (l:List Nat) (os:List Oper) (hl:l.map (ops[·]?)=os.map some)
  (bV:∀o∈os,(bu P n false ops o).ok n=true) (bK:∀d,¬old.bx d) {K:an->ao->Prop} (h:bq P GI (os.map (bu P n false ops)) K (λ_=>False) S H):
  wpOpsIn (FR ro) m P ops (QQ P w0 n old (aN K)) l a w:=
 qu dO qo _ _ _ (rY hG cm (old:=old) (ops:=ops) (Q:=aN K) (S0:=S) (H0:=H) l os g S H a w hl bV (λ_ _ _ _=>bK _) ho R h)
def SW.mid (hG:ar GI) {ro:Option Nat} {id p:Nat} {ops:Array Oper} {oh:Oper} {l2:List Nat} {jX mw:List Oper} (PH:ops.toList=jX++oh::mw) (hp:jX.length=p) (hr:List.range ops.size=List.range p++(p::l2)) (uO:l2.map (ops[·]?)=mw.map some)
  (dO:ops.all (λo=>eK o.op)=true) (hgh:oh.guard=none) (bK:∀d,¬old.bx d)
  {mS mf:List bI} (zi:jX.map (bu P n false ops)=mS) (LC:mw.map (bu P n false ops)=mf) (cN:mS.all (·.ok n)=true) (gj:mf.all (·.ok n)=true)
  {K1:an->ao->Prop} {K2 K3:Old->an->ao->Prop} (h1:bq P GI mS K1 (λ_=>False) S H)
  (hand:∀w0 g S1 H1 a w,g.old=old->Rel P w0 n bP g S1 H1 a w->K1 S1 H1->∃v w' g2 S2 H2,((execOp a.eval oh).run P w=.ok (.value v) w'\/((execOp a.eval oh).run P w=.ok .skip w'/\v=undef))/\Rel P w0 n bP g2 S2 H2 (a.put oh.dst v) w'/\K2 g2.old S2 H2)
  (h2:∀o S H,K2 o S H->(∀d,¬o.bx d)/\bq P GI mf (K3 o) (λ_=>False) S H) (hQ:∀o S H,K3 o S H->Q .normal o S H):SW P GI n ro (.region id ops false) Q old S H:=by
 intro w0 g a w m cm ho R;refine aea ?_;rw[hr]
 have Ir:(List.range p).map (ops[·]?)=jX.map some:=by
  apply ae5;intro i;simp only[ad9]
  by_cases hi:i<p
  .have h3:ops[i]? = jX[i]? := by
    rw[<-aeQ,PH,aeH zo]
   have h4:jX[i]?=some (jX[i]' zo):=adB zo;simp[hi,h3,h4]
  .have:jX[i]?=none:=ad3 zo;simp[hi,this]
 have X5:ops[p]?=some oh:=by
  rw[<-aeQ,PH,aeS zo];simp[hp]
 refine iI (Q1:=QQ P w0 n old (aN K1)) (fun e a w cD hq => ?_) (fun a1 w1 hq => ?_) _ _ _ (sU hG cm dO ho R (List.range p) jX Ir (fun o kE=>by
   subst zi;simp only[afl,adQ,Function.comp]at cN
   exact cN o kE) bK (by rw[zi];exact h1))
 .cases e with
  |normal=>exact absurd rfl cD
  |exit id=>obtain⟨_,_,_,_,_,h⟩:=hq;exact h.elim
  |ret=>obtain⟨_,_,_,_,_,h⟩:=hq;exact h.elim
  |panic ch=>obtain⟨_,_,_,_,_,_,_,_,_,_,h⟩:=hq;exact h.elim
  |goto l=>exact hq.elim
  |outgrown=>exact hq.elim
 .obtain⟨g1,S1,H1,Ai,R1,TD⟩:=hq;obtain⟨v,w2,g2,S2,H2,dE,R2,ky⟩:=hand w0 g1 S1 H1 a1 w1 Ai R1 TD;obtain⟨iL,jE⟩:=h2 _ _ _ ky
  have XE:eK oh.op=true:=by
   have:=aeP.1 dO oh (aeK X5);exact this
  have rest:wpOpsIn (FR ro) m P ops (QS P w0 n Q) l2 (a1.put oh.dst v) w2:=by
   have:=sU (ro:=ro) (m:=m) hG cm dO (old:=g2.old) rfl R2 l2 mw uO (λo kE=>by
    subst LC;simp only[afl,adQ,Function.comp]at gj
    exact gj o kE) iL (by rw[LC];exact jE)
   refine gm (λe a w hq=>?_) _ _ _ this
   cases e with
   |normal=>
    obtain⟨g3,S3,H3,Af,R3,Du⟩:=hq;exact⟨g3,S3,H3,R3,by rw[Af];exact hQ _ _ _ Du⟩
   |exit id=>obtain⟨_,_,_,_,_,h⟩:=hq;exact h.elim
   |ret=>obtain⟨_,_,_,_,_,h⟩:=hq;exact h.elim
   |panic ch=>obtain⟨_,_,_,_,_,_,_,_,_,_,h⟩:=hq;exact h.elim
   |goto l=>exact hq.elim
   |outgrown=>exact hq.elim
  rcases dE with dE|⟨dE,rfl⟩
  .exact bf X5 hgh XE dE rest
  .exact eT X5 hgh XE dE rest
variable{w0:World}{g:Gh}{a:Act}{w:World}
def Rel.nF(R:Rel P w0 n bP g S H a w)(o:Obj):Rel P w0 n bP { g with old:={ g.old with aU:=au g.old.aU w.heap.size (some o) } } S H a (w.alloc o):=by
 have hb:Below w.heap.size w (w.alloc o):=(aeC _ _).alloc (adF _) _;have R':=Rel.jV R hb
 have hle:g.base<=w.heap.size:=by rw[R.base];exact R.below.size
 refine{ size:=R'.size,defers:=R'.defers,facts:=R'.facts,slot:=R'.slot,own:=λt ht hu=>(R'.own t ht hu).aU rfl λb hb=>⟨rfl,rfl,hb⟩,box:=?_,jU:=R'.jU,jR:=R'.jR,inj:=R'.inj,base:=R'.base,below:=R'.below,fresh:=R'.fresh,still:=R'.still,grown:=R'.grown,kept:=?_ }
 .intro i b hi;obtain⟨cs,vs,ty,h1,h2,h3,h4,h5,h6,h7,h8,h9⟩:=R'.box i b hi;exact⟨cs,vs,ty,h1,h2,h3,h4,h5,h6,h7,λj hj dZ=>(h8 j hj dZ).aU rfl λb hb=>⟨rfl,rfl,hb⟩,h9⟩
 .intro b ob h
  by_cases lr:b=w.heap.size
  .subst lr
   have:ob=o:=by simpa[au]using h.symm
   subst this;refine⟨hle,aew w _,(R.fresh _ (adF _)).1,(R.fresh _ (adF _)).2,λi hi=>?_⟩;obtain⟨_,_,_,_,_,h3,_⟩:=R.box i _ hi;have:=(adD.1 h3).1;omega
  .have h:g.old.aU b=some ob:=by simpa[au,lr]using h
   exact R'.kept b ob h
def rG(b:Nat)(ks vs:List AV):AV->AV
 |.val (.map (some b'))=>if b'=b then .map ks vs else .val (.map (some b'))
 |v=>v
def N6(b:Nat)(ks vs:List AV)(v:AV)(h:v.one=true):(rG b ks vs v).one=true:=by
 unfold rG;split
 .split<;>rfl
 .exact h
def Rel.To (R:Rel P w0 n bP g S H a w) {b:Nat} {es:Array MapEntry} {clock:Nat} (hk:g.old.aU b=some (.map es clock)) (ks vs:List AV) (gE:ks.length=es.size) (Zs:vs.length=es.size)
  (Yk:∀i (h:i<ks.length)(h':i<es.size),RD (λ_ _=>False) w ks[i] (es[i]).key) (xT:∀i (h:i<vs.length)(h':i<es.size),RD (λ_ _=>False) w vs[i] (es[i]).val)
  (hf:g.old.facts=[]):∃g',g'.old={ g.old with aU:=au g.old.aU b none }/\Rel P w0 n bP g' (λt=>match S t with|.box i o=>.box i o|_=>.bp) (λi=>(H i).map λcs=>cs.map (rG b ks vs)) a w:=by
 obtain⟨k1,k2,k3,k4,k5⟩:=R.kept b _ hk
 let g':Gh:={ g with old:={ g.old with aU:=au g.old.aU b none },hi:=au g.hi b 1 }
 have qJ:∀c k,g.Pr c k->g'.Pr c k:=by
  intro c k h;rcases h with h|h
  .exact .inl h
  .refine .inr ⟨h.1,?_⟩;show k<au g.hi b 1 c
   by_cases hc:c=b
   .subst hc;rw[k3]at h;omega
   .rw[aT _ _ hc];exact h.2
 have hK:bg g.Pr g'.Pr w w:=bg.same λc k _ h=>qJ c k h
 have Pj:RD g'.Pr w (.map ks vs) (.map (some b)):=by
  refine .map ks vs b es clock (.inr ⟨k1,by show 0<au g.hi b 1 b;rw[aO];omega⟩) k2 gE Zs (λi h h'=>(Yk i h h').mono (bg.same λ_ _ _ h=>h.elim)) (λi h h'=>(xT i h h').mono (bg.same λ_ _ _ h=>h.elim))
 have YE:∀{v:AV}{c:Value},RD g.Pr w v c->RD g'.Pr w (rG b ks vs v) c:=by
  intro v c h;unfold rG;split
  .rename_i b';split
   .rename_i hb;subst hb;cases h;exact Pj
   .exact h.mono hK
  .exact h.mono hK
 refine⟨g',rfl,{ size:=R.size,defers:=R.defers,facts:=λp hp=>(by rw[show g'.old.facts=g.old.facts from rfl,hf]at hp;cases hp),slot:=?_,own:=?_,box:=?_,jU:=?_,jR:=R.jR,inj:=R.inj,base:=R.base,below:=R.below,fresh:=?_,still:=R.still.trans hK,grown:=R.grown,kept:=?_ }⟩
 .intro t ht hu;have h:=R.slot t ht hu;show RV g'.Pr g'.al w (match S t with|.box i o=>.box i o|_=>.bp) _;split
  .rename_i i o hs;rw[hs]at h;generalize a.tmps.getD t undef=c at h
   cases h with
   |data _ _ h=>cases h
   |box _ _ b h=>exact .box _ _ _ h
  .exact .bp _
 .intro t ht hu;show eQ P w g' (.slot t) (match S t with|.box i o=>.box i o|_=>.bp) _
  split<;>trivial
 .intro i c hi;obtain⟨cs,lu,ty,h1,h2,h3,h4,h5,h6,h7,h8,h9⟩:=R.box i c hi
  have jJ:c≠b:=by rintro rfl;exact k5 i hi
  refine⟨cs.map (rG b ks vs),lu,ty,by simp[h1],h2,h3,by show au g.hi b 1 c=0;rw[aT _ _ jJ];exact h4,h5,by simpa using h6,λj hj dZ=>?_,λj hj dZ=>?_,λj hj=>?_⟩
  .simp only[adH]at hj;simp only[adR];exact YE (h7 j hj dZ)
  .simp only[adH]at hj;simp only[adR];have ho:=h8 j hj dZ;unfold rG;split
   .split<;>trivial
   .refine ho.aU rfl λb' il=>⟨rfl,?_,il⟩
    show au g.hi b 1 b'=g.hi b';exact aT _ _ (by rintro rfl;rw[k4]at il;cases il)
  .simp only[adH]at hj;simp only[adR];exact N6 _ _ _ _ (h9 j hj)
 .intro i cs h hu;obtain⟨fX,h1,_⟩:=adP.1 h;exact R.jU i fX h1 hu
 .intro c hc
  have jJ:c≠b:=by
   rintro rfl;have:=(adD.1 k2).1;omega
  exact⟨by show au g.hi b 1 c=0;rw[aT _ _ jJ];exact(R.fresh c hc).1,(R.fresh c hc).2⟩
 .intro c ob h
  have jJ:c≠b:=by rintro rfl;simp[g',au]at h
  have h:g.old.aU c=some ob:=by simpa[g',au,jJ]using h
  obtain⟨q1,q2,q3,q4,q5⟩:=R.kept c ob h;exact⟨q1,q2,by show au g.hi b 1 c=0;rw[aT _ _ jJ];exact q3,q4,q5⟩
end
def wQ(i:Nat)(cs:List AV):AV->AV
 |.box j off=>if j=i then .ref ((cs.map AV.aI).drop off)else .box j off
 |v=>cb i v
section
variable{P:Program}{w0:World}{n:Nat}{g:Gh}{S:an}{H:ao}{a:Act}{w:World}
def Rel.freeze (R:Rel P w0 n bP g S H a w) {i:Nat} {cs:List AV} (hH:H i=some cs) (hf:g.old.facts=[]) :
  ∃g',g'.old=g.old/\Rel P w0 n bP g' (λt=>wQ i cs (S t)) (au H i none) a w:=by
 obtain⟨b,hb⟩:=agb.1 (R.jU i cs hH id);obtain⟨fX,vs,ty,e0,b1,b2,b3,b4,b5,b6,b7,b8⟩:=R.box i b hb;rw[hH]at e0;cases e0
 let g':Gh:={ g with al:=au g.al i none,hi:=au g.hi b cs.length }
 have qJ:∀c k,g.Pr c k->g'.Pr c k:=by
  intro c k h;rcases h with h|h
  .exact .inl h
  .refine .inr ⟨h.1,?_⟩;show k<au g.hi b cs.length c
   by_cases hc:c=b
   .subst hc;rw[b3]at h;omega
   .rw[aT _ _ hc];exact h.2
 have hK:bg g.Pr g'.Pr w w:=bg.same λc k _ h=>qJ c k h
 have jC:∀j c,j≠i->g.al j=some c->g'.al j=some c:=λj c hj h=>by show au g.al i none j=_;rw[aT _ _ hj];exact h
 have XT:∀j c,j≠i->g.al j=some c->c≠b:=by
  rintro j c hj h rfl;exact hj (R.inj j i _ h hb)
 refine⟨g',rfl,{ size:=R.size,defers:=R.defers,facts:=λp hp=>(by rw[show g'.old.facts=g.old.facts from rfl,hf]at hp;cases hp),slot:=?_,own:=?_,box:=?_,jU:=?_,jR:=λ_ h=>h.elim,inj:=?_,base:=R.base,below:=R.below,fresh:=?_,still:=R.still.trans hK,grown:=R.grown,kept:=?_ }⟩
 .intro t ht hu;have h:=R.slot t ht hu;generalize a.tmps.getD t undef=c at h;have h2:=(h.cb i jC).mono hK (λ_ _ h=>h);show RV g'.Pr g'.al w (wQ i cs (S t)) c;generalize S t=v at h h2
  cases v<;>try exact h2
  rename_i j off;simp only[wQ];simp only[cb]at h2;split
  .rename_i hj;subst hj
   have lX:∃c',c=.pointer (some ⟨c',off,none⟩)/\g.al j=some c':=by
    cases h with
    |data _ _ h=>cases h
    |box _ _ c' h=>exact⟨c',rfl,h⟩
   obtain⟨c',rfl,vQ⟩:=lX;rw[hb]at vQ;cases vQ;refine .data _ _ (.ref _ b off (λk=>vs.getD (off+k) undef) (λk hk=>?_) (λk hk=>?_) (λk hk=>?_))
   .simp only[ae3,adR];simp only[ael,adH]at hk;exact(AV.pc _).trans (b8 _ zo)
   .simp only[ael,adH]at hk;refine⟨.inr ⟨b1,by show off+k<au g.hi b cs.length b;rw[aO];omega⟩,?_⟩
    have:off+k<vs.size:=zo
    simp[World.cell?,b2,this]
   .simp only[ael,adH]at hk;simp only[ae3,adR];have hh:=b6 (off+k) zo zo
    have:off+k<vs.size:=zo
    have:=hh.aI.mono hK;simpa[‹off+k<vs.size›]using this
  .rename_i hj;rw[if_neg hj]at h2;exact h2
 .intro t ht hu;have h:=R.own t ht hu;have h2:=DQ P w g (.slot t) i (S t) _ h
  have h3:eQ P w g' (.slot t) (cb i (S t)) (a.tmps.getD t undef):=h2.aU rfl λc hc=>⟨rfl,by show au g.hi b cs.length c=g.hi c;exact aT _ _ (by rintro rfl;rw[b4]at hc;cases hc),hc⟩
  show eQ P w g' (.slot t) (wQ i cs (S t)) _;generalize S t=v at h3
  cases v<;>try exact h3
  simp only[wQ]
  split<;>trivial
 .intro j c hj
  have fK:j≠i:=by rintro rfl;simp[g',au]at hj
  have dZ:g.al j=some c:=by simpa[g',au,fK]using hj
  have jJ:=XT j c fK dZ;obtain⟨VP,vs2,ty2,h1,h2,h3,h4,h5,h6,h7,h8,h9⟩:=R.box j c dZ;refine⟨VP,vs2,ty2,by rw[aT _ _ fK];exact h1,h2,h3,by show au g.hi b cs.length c=0;rw[aT _ _ jJ];exact h4,h5,h6,λk hk cz=>(h7 k hk cz).mono hK,λk hk cz=>?_,h9⟩
  refine(h8 k hk cz).aU rfl λb' il=>⟨rfl,?_,il⟩
  show au g.hi b cs.length b'=g.hi b';exact aT _ _ (by rintro rfl;rw[b4]at il;cases il)
 .intro j VP h hu
  have fK:j≠i:=by rintro rfl;simp[au]at h
  have h':H j=some VP:=by simpa[au,fK]using h
  show(au g.al i none j).isSome;rw[aT _ _ fK];exact R.jU j VP h' hu
 .intro j k c h1 h2
  have hj:j≠i:=by rintro rfl;simp[g',au]at h1
  have hk:k≠i:=by rintro rfl;simp[g',au]at h2
  exact R.inj j k c (by simpa[g',au,hj]using h1) (by simpa[g',au,hk]using h2)
 .intro c hc
  have jJ:c≠b:=by
   rintro rfl;have:=(adD.1 b2).1;omega
  exact⟨by show au g.hi b cs.length c=0;rw[aT _ _ jJ];exact(R.fresh c hc).1,(R.fresh c hc).2⟩
 .intro c ob h;obtain⟨q1,q2,q3,q4,q5⟩:=R.kept c ob h
  have jJ:c≠b:=by rintro rfl;exact q5 i hb
  refine⟨q1,q2,by show au g.hi b cs.length c=0;rw[aT _ _ jJ];exact q3,q4,λj=>?_⟩;show au g.al i none j≠some c
  by_cases hj:j=i
  .subst hj;simp[au]
  .rw[aT _ _ hj];exact q5 j
end
section
variable{P:Program}{GI:World->Prop}{n:Nat}{old:Old}{S:an}{H:ao}{Q:fa}{ro:Option Nat}
def SW.ghost{c:Code}{K:Old->an->ao->Prop}(h:∀w0 g a w,g.old=old->Rel P w0 n bP g S H a w->∃g2 S2 H2,Rel P w0 n bP g2 S2 H2 a w/\K g2.old S2 H2)(hc:∀o S H,K o S H->SW P GI n ro c Q o S H):SW P GI n ro c Q old S H:=by
 intro w0 g a w m hG ho R;obtain⟨g2,S2,H2,R2,hK⟩:=h w0 g a w ho R;exact hc _ _ _ hK w0 g2 a w m hG rfl R2
def SW.freeze{c:Code}{i:Nat}{cs:List AV}(hH:H i=some cs)(hf:old.facts=[])(hc:SW P GI n ro c Q old (λt=>wQ i cs (S t)) (au H i none)):SW P GI n ro c Q old S H:=by
 intro w0 g a w m hG ho R;obtain⟨g',h1,R'⟩:=R.freeze hH (by rw[ho];exact hf);exact hc w0 g' a w m hG (h1.trans ho) R'
def HQ(P:Program)(w0:World)(n:Nat)(K:Old->an->ao->Prop):Exit->Act->World->Prop
 |.normal,a,w=>∃g S H,Rel P w0 n bP g S H a w/\K g.old S H
 |_,_,_=>False
def SW.hand (hG:ar GI) {id p:Nat} {ops:Array Oper} {lm l2:List Nat} {jX oh mw:List Oper} (PH:ops.toList=jX++(oh++mw)) (hp:jX.length=p) (hr:List.range ops.size=List.range p++(lm++l2)) (uO:l2.map (ops[·]?)=mw.map some)
  (dO:ops.all (λo=>eK o.op)=true) (bK:∀d,¬old.bx d)
  {mS mf:List bI} (zi:jX.map (bu P n false ops)=mS) (LC:mw.map (bu P n false ops)=mf) (cN:mS.all (·.ok n)=true) (gj:mf.all (·.ok n)=true)
  {K1:an->ao->Prop} {K2 K3:Old->an->ao->Prop} (h1:bq P GI mS K1 (λ_=>False) S H)
  (hand:∀w0 g S1 H1 a w m,GI w0->g.old=old->Rel P w0 n bP g S1 H1 a w->K1 S1 H1->wpOpsIn (FR ro) m P ops (HQ P w0 n K2) lm a w)
  (h2:∀o S H,K2 o S H->(∀d,¬o.bx d)/\bq P GI mf (K3 o) (λ_=>False) S H) (hQ:∀o S H,K3 o S H->Q .normal o S H):SW P GI n ro (.region id ops false) Q old S H:=by
 intro w0 g a w m cm ho R;refine aea ?_;rw[hr]
 have Ir:(List.range p).map (ops[·]?)=jX.map some:=by
  apply ae5;intro i;simp only[ad9]
  by_cases hi:i<p
  .have h3:ops[i]? = jX[i]? := by
    rw[<-aeQ,PH,aeH zo]
   have h4:jX[i]?=some (jX[i]' zo):=adB zo;simp[hi,h3,h4]
  .have:jX[i]?=none:=ad3 zo;simp[hi,this]
 refine iI (Q1:=QQ P w0 n old (aN K1)) (fun e a w cD hq => ?_) (fun a1 w1 hq => ?_) _ _ _ (sU hG cm dO ho R (List.range p) jX Ir (fun o kE=>by
   subst zi;simp only[afl,adQ,Function.comp]at cN
   exact cN o kE) bK (by rw[zi];exact h1))
 .cases e with
  |normal=>exact absurd rfl cD
  |exit id=>obtain⟨_,_,_,_,_,h⟩:=hq;exact h.elim
  |ret=>obtain⟨_,_,_,_,_,h⟩:=hq;exact h.elim
  |panic ch=>obtain⟨_,_,_,_,_,_,_,_,_,_,h⟩:=hq;exact h.elim
  |goto l=>exact hq.elim
  |outgrown=>exact hq.elim
 .obtain⟨g1,S1,H1,Ai,R1,TD⟩:=hq;refine iI (Q1:=HQ P w0 n K2) (λe a w cD hq=>?_) (λa2 w2 hq=>?_) _ _ _ (hand w0 g1 S1 H1 a1 w1 m cm Ai R1 TD)
  .cases e with
   |normal=>exact absurd rfl cD
   |_=>exact hq.elim
  .obtain⟨g2,S2,H2,R2,ky⟩:=hq;obtain⟨iL,jE⟩:=h2 _ _ _ ky
   have:=sU (ro:=ro) (m:=m) hG cm dO (old:=g2.old) rfl R2 l2 mw uO (λo kE=>by
    subst LC;simp only[afl,adQ,Function.comp]at gj
    exact gj o kE) iL (by rw[LC];exact jE)
   refine gm (λe a w hq=>?_) _ _ _ this
   cases e with
   |normal=>
    obtain⟨g3,S3,H3,Af,R3,Du⟩:=hq;exact⟨g3,S3,H3,R3,by rw[Af];exact hQ _ _ _ Du⟩
   |exit id=>obtain⟨_,_,_,_,_,h⟩:=hq;exact h.elim
   |ret=>obtain⟨_,_,_,_,_,h⟩:=hq;exact h.elim
   |panic ch=>obtain⟨_,_,_,_,_,_,_,_,_,_,h⟩:=hq;exact h.elim
   |goto l=>exact hq.elim
   |outgrown=>exact hq.elim
end
section
variable{P:Program}{a:Act}{w:World}
def B4 {o:Oper} {t:TypeId} {x:Operand} {s:ByteArray} (ho:o.op = .range t x) (hu:P.underlying t=some .string) (hx:a.eval x = .string s) :
  (execOp a.eval o).run P w=.ok (.value (.pointer (some ⟨w.heap.size,0,none⟩))) (w.alloc (.stringIter s 0)):=by
 unfold execOp;simp only[ho,hx,adK,run_range_string w t s hu]
 rfl
def vm {o:Oper} {x:Operand} {b:Nat} {s:ByteArray} {pos:Nat} (ho:o.op = .next x true) (hx:a.eval x = .pointer (some ⟨b,0,none⟩)) (hb:w.heap[b]? = some (.stringIter s pos)) (h:¬ pos < s.size) :
  (execOp a.eval o).run P w=.ok (.value (.tuple #[.bool false])) w:=by
 unfold execOp;simp[ho,hx,Instr.next,getObj,Sem.run,hb,h]
end
section
variable{P:Program}{GI:World->Prop}{n:Nat}{old:Old}{S:an}{H:ao}{Q:fa}{ro:Option Nat}
def SW.SK{c:Code}(I:Old->an->ao->Prop)(μ:Old->an->ao->Nat)(h0:I old S H)(hr:∀o S H,I o S H->SW P GI n ro c (thenS (λo' S' H'=>I o' S' H'/\μ o' S' H'<μ o S H) Q) o S H):SW P GI n ro (.loop c) Q old S H:=by
 intro w0 g a w m hG ho R;subst ho
 have key:∀ (k:Nat) (g:Gh) (S:an) (H:ao) (a:Act) (w:World),Rel P w0 n bP g S H a w→I g.old S H→μ g.old S H=k→∀ (b:Frame) (kk:List Item) (cs:List Frame),b.roundOf=ro→(FR ro).room (cs.length+1+m) →
   ∃e a' w',QS P w0 n Q e a' w'/\ArrivesIn (Machine.fenced P (FR ro)) P (lone (b.atR a (.code c::.inLoop c::kk)) cs w) b kk cs e a' w':=by
  intro k
  induction k using Nat.strongRecOn with
  |_ k ih=>
   intro g S H a w R hI hk b kk cs wy iQ;obtain⟨e,jy,lR,hq,iq⟩:=hr g.old S H hI w0 g a w m hG rfl R b (.inLoop c::kk) cs wy trivial iQ
   cases e with
   |normal=>
    obtain⟨g',S',H',h2,h3,h4⟩:=hq;obtain⟨DJ,Dl,Ep,xI,qN⟩:=ih _ (by rw[<-hk];exact h4) g' S' H' jy lR h2 h3 rfl b kk cs wy iQ;exact⟨DJ,Dl,Ep,xI,.of_steps (ag1 iq (.one (afW (F:=FR ro) (fr:=b.atR jy (.inLoop c::kk)) trivial iQ rfl) ahL)) qN⟩
   |exit id=>exact⟨.exit id,jy,lR,hq,.pass (x:=.inLoop c) rfl (λ_ _=>.inl ahB) iq⟩
   |goto l=>exact hq.elim
   |ret=>exact⟨.ret,jy,lR,hq,.pass (x:=.inLoop c) rfl (λ_ _=>.inl ahB) iq⟩
   |panic ch=>exact⟨.panic ch,jy,lR,hq,.pass (x:=.inLoop c) rfl (λ_ _=>.inl ahB) iq⟩
   |outgrown=>exact hq.elim
 intro b kk cs wy hF iQ;obtain⟨e,a',w',hq,iq⟩:=key _ g S H a w R h0 rfl b kk cs wy iQ;exact⟨e,a',w',hq,.of_steps (.one (afW (F:=FR ro) (fr:=b.atR a (.code (.loop c)::kk)) trivial iQ rfl) stepR_loop) iq⟩
end
section
variable{P:Program}{GI:World->Prop}{call:CB}{n:Nat}{ro:Option Nat}{Q:fa}{old:Old}
def On{c:Code}{x y:af}(h:dK P n c=.seq x y):∃x' y',c=.seq x' y'/\dK P n x'=x/\dK P n y'=y:=by
 cases c with
 |seq x' y'=>simp only[dK,af.seq.injEq]at h;exact⟨x',y',rfl,h.1,h.2⟩
 |region id ops draw=>
  simp only[dK]at h;split at h
  .split at h<;>cases h
  .split at h<;>cases h
 |cond c x y=>simp only[dK]at h;split at h<;>cases h
 |_=>cases h
end
section
variable{P:Program}{GI:World->Prop}{n:Nat}{w0:World}
def BU(P:Program)(GI:World->Prop)(i:Nat):Nat->af->(dV->an->ao->Prop)->an->ao->Prop
 |0,ac,Q,S,H=>∃cs,H i=some cs/\bB P GI ac Q (λt=>wQ i cs (S t)) (au H i none)
 |k+1,.seq x y,Q,S,H=>bB P GI x (λe S' H'=>match e with
  |.normal=>BU P GI i k y Q S' H'
  |e=>Q e S' H') S H
 |_+1,_,_,_,_=>False
def LO(hG:ar GI)(cm:GI w0)(hm:P.follows .mixedOrders=true){old:Old}{i:Nat}(hf:old.facts=[])(bK:∀d,¬old.bx d):∀(k:Nat)(c:Code)(Q:dV->an->ao->Prop)(g:Gh)(S:an)(H:ao)(a:Act)(w:World),g.old=old->Rel P w0 n bP g S H a w->BU P GI i k (dK P n c) Q S H->c.wp P (QQ P w0 n old Q) a w
 |0,c,Q,g,S,H,a,w,ho,R,h=>by
  obtain⟨cs,hH,h⟩:=h;obtain⟨g',h1,R'⟩:=R.freeze hH (by rw[ho];exact hf);exact mP hG cm hm c _ g' _ _ a w (λd _=>bK d) (h1.trans ho) R' h
 |k+1,c,Q,g,S,H,a,w,ho,R,h=>by
  cases oL:dK P n c<;>rw[oL]at h<;>try (exact h.elim)
  rename_i xa ya;obtain⟨x,y,rfl,rfl,rfl⟩:=On oL;refine wp_seq (ag8 (mP hG cm hm x _ g S H a w (λd _=>bK d) ho R h) ?_);intro e a' w' he
  cases e with
  |normal=>
   obtain⟨g',S',H',e1,R',h'⟩:=he;exact LO hG cm hm hf bK k y Q g' S' H' a' w' e1 R' h'
  |_=>exact he
def AC.Q2 (hG:ar GI) (hm:P.follows .mixedOrders=true) {f:Nat} {fn:Func} {c:Code} {args:List AV} {out:iK} (i k:Nat) (hf:P.funcs[f]? = some fn) (hb:fn.body=some c) (hn:fn.ntmps=n) (hl:args.length≤n) {ac:af} (hc:dK P n c=ac)
  (h:BU P GI i k ac (post P n fn.results.toList out) (start args) (λ_=>none)):AC P GI f args out:=by
 intro w old bT gD hlen hr;refine afJ hf hb ?_;subst hc;have R:Rel P w n bP _ (start args) (λ_=>none) { tmps:=bT++Array.replicate (fn.ntmps-bT.size) undef,defers:=[] } w:=Rel.begin hn hl hlen hr;refine ag8 (LO hG gD hm (old:=Old.plain old w) rfl (λ_ h=>h) k c _ _ _ _ _ w rfl R h) ?_;intro e a' w' he
 have fin:(∃ g' S H,g'.old=Old.plain old w∧Rel P w n bP g' S H a' w'∧∃ v,cH P n fn.results.toList S H=some v∧out = .ret v) →
   a'.defers=[]/\∃v,(results fn a'.tmps).run P w'=.ok v w'/\Ends P old w out (.returned v) w':=by
  rintro⟨g',S,H,e1,R',v,hv,rfl⟩;obtain⟨c,r1,r2,r3⟩:=vG R' hv;refine⟨by rw[R'.defers,e1];rfl,c,r1,?_,g'.hi,λb hb=>(R'.fresh b hb).1,c,rfl,?_,?_⟩
  .have:=R'.below;rwa [R'.base]at this
  .have:g'.Pr=pU w.heap.size old g'.hi:=by
    funext b k
    simp only[Gh.Pr,pU,R'.base,e1,Old.plain]
   rw[this]at r2;exact .data _ _ r2
  .rwa [R'.base]at r3
 cases e with
 |normal=>exact fin he
 |ret=>exact fin he
 |exit id=>obtain⟨_,_,_,_,_,h⟩:=he;exact h.elim
 |panic chain=>
  obtain⟨hd,v,c,hi,S,H,h1,h2,h3,h4,h5⟩:=he;subst h1;cases(show out=.panic v from h5);exact⟨hd,h2,hi,h3,c,rfl,h4⟩
 |goto l=>exact he.elim
 |outgrown=>exact he.elim
def Rb{i k:Nat}{x y:af}{Q:dV->an->ao->Prop}{S:an}{H:ao}(K:an->ao->Prop)(hx:bB P GI x (λe S H=>e=.normal/\K S H) S H)(rW:∀{Q Q':dV->an->ao->Prop},(∀e S H,Q e S H->Q' e S H)->bB P GI x Q S H->bB P GI x Q' S H)(hy:∀S' H',K S' H'->BU P GI i k y Q S' H'):BU P GI i (k+1) (.seq x y) Q S H:=
 rW (λe S' H' h=>by obtain⟨rfl,h⟩:=h;exact hy S' H' h) hx
def O7{i:Nat}{ac:af}{Q:dV->an->ao->Prop}{S:an}{H:ao}(cs:List AV)(K:an->ao->Prop)(hH:H i=some cs)(hK:K (λt=>wQ i cs (S t)) (au H i none))(hc:∀S' H',K S' H'->bB P GI ac Q S' H'):BU P GI i 0 ac Q S H:=⟨cs,hH,hc _ _ hK⟩
end
section
variable{P:Program}{GI:World->Prop}{w0:World}{n:Nat}{g:Gh}{S:an}{H:ao}{a:Act}{w:World}
def Rel.IT (R:Rel P w0 n bP g S H a w) {w':World} (hb:Below w.heap.size w w') {b:Nat} (hle:w.heap.size≤b) {o:Obj} (ho:w'.heap[b]? = some o) :
  Rel P w0 n bP { g with old:={ g.old with aU:=au g.old.aU b (some o) } } S H a w':=by
 have R':=Rel.jV R hb
 have gP:g.base<=w.heap.size:=by rw[R.base];exact R.below.size
 refine{ size:=R'.size,defers:=R'.defers,facts:=R'.facts,slot:=R'.slot,own:=λt ht hu=>(R'.own t ht hu).aU rfl λb hb=>⟨rfl,rfl,hb⟩,box:=?_,jU:=R'.jU,jR:=R'.jR,inj:=R'.inj,base:=R'.base,below:=R'.below,fresh:=R'.fresh,still:=R'.still,grown:=R'.grown,kept:=?_ }
 .intro i c hi;obtain⟨cs,vs,ty,h1,h2,h3,h4,h5,h6,h7,h8,h9⟩:=R'.box i c hi;exact⟨cs,vs,ty,h1,h2,h3,h4,h5,h6,h7,λj hj dZ=>(h8 j hj dZ).aU rfl λb hb=>⟨rfl,rfl,hb⟩,h9⟩
 .intro c ob h
  by_cases lr:c=b
  .subst lr
   have:ob=o:=by simpa[au]using h.symm
   subst this;refine⟨aeL gP hle,ho,(R.fresh _ hle).1,(R.fresh _ hle).2,λi hi=>?_⟩;obtain⟨_,_,_,_,_,h3,_⟩:=R.box i _ hi;have:=(adD.1 h3).1;omega
  .have h:g.old.aU c=some ob:=by simpa[au,lr]using h
   exact R'.kept c ob h
def RD.flat{Pr:Nat->Nat->Prop}{v:AV}{c:Value}(h:RD Pr w v c):Go.AL.flat v=true/\∀d,cb d v=v:=by
 have:=h.b_
 cases v<;>first|exact⟨rfl,λ_=>rfl⟩|cases this
def Rel.hand (R:Rel P w0 n bP g S H a w) {b:Nat} {o:Obj} (hk:g.old.aU b=some o) (m:Nat) :
  ∃g',g'.old={ g.old with aU:=au g.old.aU b none }/\g'.base=g.base/\Rel P w0 n bP g' S H a w/\(∀c k,g.Pr c k->g'.Pr c k)/\∀k,k<m->g'.Pr b k:=by
 obtain⟨k1,k2,k3,k4,k5⟩:=R.kept b o hk
 have R1:Rel P w0 n bP { g with old:={ g.old with aU:=au g.old.aU b none } } S H a w:=by
  refine{ size:=R.size,defers:=R.defers,facts:=R.facts,slot:=R.slot,own:=λt ht hu=>(R.own t ht hu).aU rfl λb hb=>⟨rfl,rfl,hb⟩,box:=?_,jU:=R.jU,jR:=R.jR,inj:=R.inj,base:=R.base,below:=R.below,fresh:=R.fresh,still:=R.still,grown:=R.grown,kept:=?_ }
  .intro i c hi;obtain⟨cs,vs,ty,h1,h2,h3,h4,h5,h6,h7,h8,h9⟩:=R.box i c hi;exact⟨cs,vs,ty,h1,h2,h3,h4,h5,h6,h7,λj hj dZ=>(h8 j hj dZ).aU rfl λb hb=>⟨rfl,rfl,hb⟩,h9⟩
  .intro c ob h
   have hc:c≠b:=by rintro rfl;simp[au]at h
   exact R.kept c ob (by simpa[au,hc]using h)
 have aq:=(adD.1 k2).1;have R2:=R1.k_ (G:=λc=>c=b) (λ_=>m) (λc hc=>by subst hc;exact⟨⟨k1,k3,k4,k5⟩,aq,aO _ _ _⟩);refine⟨Gh.k_ { g with old:={ g.old with aU:=au g.old.aU b none } } (λc=>c=b) (λ_=>m),rfl,rfl,R2,λc k hp=>?_,λk hkm=>.inr ⟨k1,?_⟩⟩
 .rcases hp with hp|hp
  .exact .inl hp
  .refine .inr ⟨hp.1,?_⟩;simp only[Gh.k_]
   by_cases hc:c=b
   .subst hc;rw[k3]at hp;omega
   .rw[if_neg hc];exact hp.2
 .simp only[Gh.k_];rw[if_pos trivial];exact hkm
end
section
variable{P:Program}{GI:World->Prop}{md:Region.Mode}{ops:Array Oper}{n:Nat}
def Hx(P:Program)(GI:World->Prop)(o:bI)(S:an)(H:ao)(v:AV):Prop:=
 aF S o.guard=some true/\match o.op with
 |.call f args=>(args.any λy=>cW (ev S y))=false/\ee P f=true/\AC P GI f (args.map λy=>fz H (ev S y)) (.panic v)
 |_=>False
def LR{x y:bI}{S:an}{H:ao}{ex:aP}{v:AV}(ha:x.apart y=true)(hx:eA P GI x S H ex)(hy:Hx P GI y (ex.S S x.dst) (ex.H H) v):Hx P GI y S H v:=by
 obtain⟨h1,h2,h3⟩:=apart_spec ha;obtain⟨d1,d2⟩:=fw hx
 have hS:∀t∈y.reads,ex.S S x.dst t=S t:=λt ht=>aP.vP (λh=>(h1 t (ft (.inl h))).1 ht) (λh=>(h1 t (ft (.inr (d1 t h)))).1 ht)
 unfold Hx at hy⊢;obtain⟨hw,hy⟩:=hy;refine⟨by rw[<-hw];exact(uW λt b Dj=>hS t (by simp[bI.reads,Dj])).symm,?_⟩;generalize dn:y.op=op at hy
 cases op<;>try (exact hy.elim)
 rename_i f args;simp only at hy⊢
 have qZ:∀z∈args,∀t∈z.tmps,ex.S S x.dst t=S t:=λz hz t ht=>hS t (by
  simp only[bI.reads,dn,eG.rd,adG,aei]
  exact .inl ⟨z,hz,ht⟩)
 have e1:(args.any λy=>cW (ev (ex.S S x.dst) y))=(args.any λy=>cW (ev S y)):=by
  rw[aep];simp only[ae8]
  constructor
  .rintro⟨y,hy,hb⟩;exact⟨y,hy,by rw[<-bL (qZ y hy)];exact hb⟩
  .rintro⟨y,hy,hb⟩;exact⟨y,hy,by rw[bL (qZ y hy)];exact hb⟩
 obtain⟨hb,hc,oL⟩:=hy
 have e2:(args.map λy=>fz (ex.H H) (ev (ex.S S x.dst) y))=(args.map λy=>fz H (ev S y)):=aez λy hy=>by
  simp only[aeE,afn]at hb;rw[An (hb y hy) (H':=H),bL (qZ y hy)]
 rw[e1]at hb;rw[e2]at oL;exact⟨hb,hc,oL⟩
def Gz(P:Program)(GI:World->Prop)(n:Nat)(ops:Array Oper)(i:Nat)(K:an->ao->Prop)(Qp:AV->Prop)(S:an)(H:ao):Prop:=
 match ju P n ops i with
 |none=>False
 |some o=>(∃e,eA P GI o S H e/\K (e.S S o.dst) (e.H H))\/∃v,Hx P GI o S H v/\Qp v
def GL(P:Program)(GI:World->Prop)(n:Nat)(md:Region.Mode)(ops:Array Oper)(QA:an->ao->Prop)(Qp:AV->Prop):Nat->Array Bool->an->ao->Prop
 |0,listed,S,H=>Region.ready md ops listed=[]/\QA S H
 |fuel+1,listed,S,H=>(Region.ready md ops listed=[]->QA S H)/\∀i∈Region.ready md ops listed,Gz P GI n ops i (GL P GI n md ops QA Qp fuel (listed.setIfInBounds i true)) Qp S H
def KV {QA:an→ao→Prop} {Qp:AV→Prop} {i:Nat} {oi:bI} {e:aP} (hi:ju P n ops i=some oi) :
  ∀(fuel:Nat)(listed:Array Bool)(S:an)(H:ao),
   (∀j o aj,ops[j]?=some o->ju P n ops j=some aj->j≠i->listed.getD j true=false->(∀ed∈o.after,Region.binds md ed=true->ed.on≠i)->oi.apart aj=true)->
   i∈Region.ready md ops listed->eA P GI oi S H e->
   GL P GI n md ops QA Qp fuel (listed.setIfInBounds i true) (e.S S oi.dst) (e.H H)->GL P GI n md ops QA Qp (fuel+1) listed S H:=by
 intro fuel
 induction fuel with
 |zero=>
  intro listed S H _ hr hy hK;refine⟨λh=>(by rw[h]at hr;cases hr),λj hj=>?_⟩
  by_cases fK:j=i
  .subst fK;unfold Gz;rw[hi];exact .inl ⟨e,hy,hK⟩
  .have:=afG hj fK;rw[hK.1]at this;cases this
 |succ fuel ih=>
  intro listed S H mX hr hy hK;refine⟨λh=>(by rw[h]at hr;cases hr),λj hj=>?_⟩
  by_cases fK:j=i
  .subst fK;unfold Gz;rw[hi];exact .inl ⟨e,hy,hK⟩
  .have h1:=hK.2 j (afG hj fK);obtain⟨y6,o,ho,eH⟩:=afA.1 hj
   have sf:ju P n ops j=some (bu P n true ops o):=by simp[ju,ho]
   have L6:∀ed∈o.after,Region.binds md ed=true->ed.on≠i:=λed Tz hb heq=>by
    have h1:=eH ed Tz hb;have h0:=(afA.1 hr).1;rw[heq]at h1;rcases ae6 i listed.size with h'|h'
    .simp[h']at h0 h1;rw[h0]at h1;cases h1
    .simp[afa h']at h1
   have j3:=mX j o _ ho sf fK y6 L6;unfold Gz at h1⊢;rw[sf]at h1⊢
   rcases h1 with h1|⟨v,hg,hq⟩
   case inr=>exact .inr ⟨v,LR j3 hy hg,hq⟩
   obtain⟨ej,Fh,Ry⟩:=h1;have vM:=tV j3 hy Fh;refine .inl ⟨ej,vM,?_⟩
   have vU:∀k o' ak,ops[k]?=some o'->ju P n ops k=some ak->k≠i->(listed.setIfInBounds j true).getD k true=false->(∀ed∈o'.after,Region.binds md ed=true->ed.on≠i)->oi.apart ak=true:=by
    intro k o' ak hk Na AN fB gQ;refine mX k o' ak hk Na AN ?_ gQ
    by_cases tN:j=k
    .subst tN;exact y6
    .rw[afV true tN]at fB;exact fB
   refine ih (listed.setIfInBounds j true) _ _ vU (afG hr (aeq fK)) (te j3 vM hy) ?_;rw[afK _ _ fK];rw[<-xE j3 (fw hy).1 (fw Fh).1,<-xX j3 (fw hy).2 (fw vM).2];exact Ry
def DZ(md:Region.Mode)(ops:Array Oper)(al:List bI)(ps:List Nat):List Nat->Array Bool->Bool
 |[],listed=>(Region.ready md ops listed).isEmpty
 |k::ord,listed=>(Region.ready md ops listed).contains k&&I3 md ops al listed k&&(!ps.contains k||Region.ready md ops listed==[k])&&DZ md ops al ps ord (listed.setIfInBounds k true)
def I'(P:Program)(GI:World->Prop)(op:eG)(dst:Option Nat)(K:an->ao->Prop)(Qp:AV->Prop)(S:an)(H:ao):Prop:=
 match op with
 |.call f args=>(args.any λy=>cW (ev S y))=false/\ba P GI (.call f args) dst K Qp S H
 |_=>False
def tR(P:Program)(GI:World->Prop)(al:List bI)(ps:List Nat):List Nat->(an->ao->Prop)->(AV->Prop)->an->ao->Prop
 |[],K,_,S,H=>K S H
 |k::ord,K,Qp,S,H=>match al[k]? with
  |none=>False
  |some o=>match aF S o.guard with
   |some true=>if ps.contains k then I' P GI o.op o.dst (tR P GI al ps ord K Qp) Qp S H else jB P GI o.op o.dst (tR P GI al ps ord K Qp) S H
   |some false=>tR P GI al ps ord K Qp (aW S o.dst cy) H
   |none=>False
def F_ {QA:an→ao→Prop} {Qp:AV→Prop} {ps:List Nat}:∀ (ord:List Nat) (listed:Array Bool) (S:an) (H:ao),
  DZ md ops (bh P n true ops) ps ord listed=true->tR P GI (bh P n true ops) ps ord QA Qp S H->GL P GI n md ops QA Qp ord.length listed S H
 |[],_,_,_,hB,h=>⟨by simpa[DZ]using hB,h⟩
 |k::ord,listed,S,H,hB,h=>by
  simp only[DZ,adE]at hB;obtain⟨⟨⟨hr,hf⟩,hp⟩,NX⟩:=hB;simp only[tR]at h;split at h
  case h_1=>exact h.elim
  rename_i o ho
  have ha:ju P n ops k=some o:=by rw[<-fG];exact ho
  have ir:k∈Region.ready md ops listed:=by simpa using hr
  have step:∀e,eA P GI o S H e->tR P GI (bh P n true ops) ps ord QA Qp (e.S S o.dst) (e.H H)->GL P GI n md ops QA Qp (k::ord).length listed S H:=λe hy hK=>
   KV ha ord.length listed S H (B9 ha hf) ir hy (F_ ord _ _ _ NX hK)
  split at h
  .rename_i hw;split at h
   .rename_i kn;simp only[kn,ahx,Bool.false_or,aej]at hp;unfold I' at h;split at h
    case h_2=>exact h.elim
    rename_i f args dn;obtain⟨hb,out,h1,h2,h3,h4⟩:=h
    cases out with
    |ret v=>
     refine step { v:=v } ?_ h4;unfold eA;rw[hw];simp only[dn];exact⟨hb,.ret v,h1,h2,h3,rfl⟩
    |panic v=>
     refine⟨λhn=>(by rw[hn]at ir;cases ir),λj hj=>?_⟩;rw[hp,ad2]at hj;subst hj;unfold Gz;rw[ha];refine .inr ⟨v,⟨hw,?_⟩,h4⟩;rw[dn];exact⟨hb,h1,h2⟩
   .obtain⟨e,he,hK⟩:=uS h;exact step e (by unfold eA;rw[hw];exact he) hK
  .rename_i hw;exact step { v:=cy } (by unfold eA;rw[hw]) h
  .exact h.elim
variable{w0:World}{g:Gh}{S:an}{H:ao}{a:Act}{w:World}
def Sr (hG:ar GI) (cm:GI w0) {old:Old} {Q:dV→an→ao→Prop} {S0:an} {H0:ao} (hA:∀ o∈ops,∀ t z,(bu P n true ops o).op ≠ .alloc t z) (bV:∀ o∈ops,(bu P n true ops o).ok n=true) :
  ∀(fuel:Nat)(listed:Array Bool)(g:Gh)(S:an)(H:ao)(a:Act)(w:World),g.old=old->Rel P w0 n bP g S H a w->
   GL P GI n .any ops (Q .normal) (λv=>Q (.panic v) S0 H0) fuel listed S H->wpAny P .any ops (QQ P w0 n old Q) fuel listed a w:=by
 intro fuel
 induction fuel with
 |zero=>
  intro listed g S H a w ho R h;exact⟨h.1,g,S,H,ho,R,h.2⟩
 |succ fuel ih=>
  intro listed g S H a w ho R h;refine⟨λhr=>⟨g,S,H,ho,R,h.1 hr⟩,λi hi=>?_⟩;have hd:=h.2 i hi;obtain⟨o,jZ,zR⟩:=wZ (P:=P) (n:=n) hi;unfold Gz at hd;rw[zR]at hd;have Gj:=aeK jZ;have uB:=bV o Gj;have abS:=hA o Gj
  have tB:∀t,o.dst=some t->t<n/\t∉(bu P n true ops o).op.rd:=by
   intro t ht;simp only[bI.ok,adE]at uB;have h1:=uB.1;rw[show(bu P n true ops o).dst=o.dst from rfl,ht]at h1;simpa using h1
  unfold wpOp;simp only[jZ]
  rcases hd with⟨e,hy,hK⟩|⟨v,⟨Aj,hv⟩,hq⟩
  case inr=>
   rw[tf R (λ_ _ _=>id) uB Aj];simp only[aed];refine .inl ?_;generalize dn:(bu P n true ops o).op=op at hv;have vq:comp P n (match o.dst with|some d=>taken ops d|none=>false) (PN ops o) o=op:=dn
   cases op<;>try (exact hv.elim)
   rename_i f args;obtain⟨hb,h1,h2⟩:=hv;refine t_ R hG cm vq (λt ht=>⟨(tB t ht).1,id⟩) (λ_ _=>id) (KA:=λ_=>False) (Qp:=λv'=>v'=v) ⟨.panic v,h1,h2,⟨λh=>absurd (hb.symm.trans h) zd,rfl⟩⟩ (λ_ _ _ _ _ _ _ hf=>hf.elim) ?_;intro v' c du w' k1 k2 k3 k4;subst k4;exact⟨by rw[<-ho];exact R.defers,v',c,du,S0,H0,rfl,k1,k2,by rw[<-ho];exact k3,hq⟩
  unfold eA at hy
  cases Aj:aF S (bu P n true ops o).guard with
  |none=>rw[Aj]at hy;exact hy.elim
  |some b=>
   rw[tf R (λ_ _ _=>id) uB Aj];rw[Aj]at hy
   cases b with
   |false=>
    simp only at hy;subst hy;simp only[adM,ad1];exact ih _ g _ _ _ _ ho (R.aW o.dst _ _ (λt ht=>(tB t ht).1) (.data _ _ (uV _ _)) λ_ _=>trivial) hK
   |true=>
    simp only at hy;simp only[aed];refine .inl ?_
    have next:∀(g':Gh)(a':Act)(w':World),g'.old=g.old->Rel P w0 n bP g' (e.S S o.dst) (e.H H) a' w'->wpAny P .any ops (QQ P w0 n old Q) fuel (listed.setIfInBounds i true) a' w':=
     λg' a' w' h2 R'=>ih _ g' _ _ _ _ (h2.trans ho) R' hK
    by_cases bU:(bu P n true ops o).op.calm=true
    .exact(yn R rfl bU (λt ht=>⟨(tB t ht).1,id⟩) (λ_ _=>id) (λt ht=>(tB t ht).2) (C1 bU hy)).wp λg' a' w' e1 e2 R'=>next g' a' w' e2 R'
    .generalize dn:(bu P n true ops o).op=op at bU hy;have vq:comp P n (match o.dst with|some d=>taken ops d|none=>false) (PN ops o) o=op:=dn
     cases op<;>try (exact absurd rfl bU)
     case alloc t cs=>exact absurd dn (abS t cs)
     case call f args=>
      exact t_ R hG cm vq (λt ht=>⟨(tB t ht).1,id⟩) (λ_ _=>id) hy.2 (λv g' a' w' e1 e2 R' hk=>by subst hk;exact next g' a' w' e2 R') (λ_ _ _ _ _ _ _ hf=>hf.elim)
     case gy f args=>
      simp only[ln]at hy;split at hy
      case h_2=>exact hy.elim
      rename_i k first cap zw;exact vF R hG cm vq (λt ht=>⟨(tB t ht).1,id⟩) (λ_ _=>id) zw hy.2 (λv g' a' w' e1 e2 R' hk=>by subst hk;exact next g' a' w' e2 R') (λ_ _ _ _ _ _ _ hf=>hf.elim)
     case box=>exact hy.elim
     case panic=>exact hy.elim
     case other=>exact hy.elim
def Kl(l:List bI):Bool:=l.all λo=>match o.op with|.alloc ..=>false|_=>true
def UM(P:Program)(n:Nat)(ops:Array Oper)(ps ord:List Nat):Bool:=
 (bh P n true ops).all (·.ok n)&&Kl (bh P n true ops)&&decide (ord.length=ops.size)&&DZ .any ops (bh P n true ops) ps ord (Array.replicate ops.size false)
def SW.Ye (hG:ar GI) (hm:P.follows .mixedOrders=true) {ro:Option Nat} {old:Old} {Q:fa} {id:Nat} {ps ord:List Nat} (dO:ops.all (fun o=>eK o.op)=true) (bV:UM P n ops ps ord=true)
  {l:List bI} (hl:bh P n true ops=l) (h:tR P GI l ps ord (Q .normal old) (λv=>Q (.panic v) old S H) S H):SW P GI n ro (.region id ops true) Q old S H:=by
 subst hl;intro w0 g a w m cm ho R;simp only[UM,adE,adL]at bV;obtain⟨⟨⟨h1,h2⟩,h3⟩,h4⟩:=bV;have R0:Rel P w0 n bP g S H a { w with drawn:=w.drawn+1 }:=R.jV ((aeC _ w).drew)
 refine afo (afi hm (wk dO qo _ _ _ _ (Sr hG cm (old:=old) (Q:=Q.bB old) (S0:=S) (H0:=H) (λo kE t z hz=>?_) (λo kE=>?_) ops.size (Array.replicate ops.size false) g S H a _ ho R0 ?_))) λ_ _ _ hq=>Ag hq
 .have:=adQ.1 h2 (bu P n true ops o) (afM (by simpa using kE));rw[hz]at this;cases this
 .simp only[bh,afl,adQ,Function.comp]at h1;exact h1 o (by simpa using kE)
 .rw[<-h3];exact F_ ord _ S H (by rw[h3];exact h4) h
def oO(P:Program)(GI:World->Prop):List (Bool×bI)->(an->ao->Prop)->(AV->Prop)->an->ao->Prop
 |[],K,_,S,H=>K S H
 |(b,o)::L,K,Qp,S,H=>match aF S o.guard with
  |some true=>if b then I' P GI o.op o.dst (oO P GI L K Qp) Qp S H else jB P GI o.op o.dst (oO P GI L K Qp) S H
  |some false=>oO P GI L K Qp (aW S o.dst cy) H
  |none=>False
def Ga{al:List bI}{ps:List Nat}{K:an->ao->Prop}{Qp:AV->Prop}:∀(ord:List Nat)(L:List (Bool×bI)),(ord.map λk=>(ps.contains k,al[k]?))=(L.map λx=>(x.1,some x.2))->tR P GI al ps ord K Qp=oO P GI L K Qp
 |[],[],_=>rfl
 |[],_::_,h=>by simp at h
 |_::_,[],h=>by simp at h
 |k::ord,(b,o)::L,h=>by
  simp only[adU,ae1,af8]at h;obtain⟨⟨h1,h2⟩,h3⟩:=h
  funext S H
  simp only[tR,oO,h1,h2,Ga ord L h3]
def tj{op:eG}{dst:Option Nat}{K K':an->ao->Prop}(hK:∀S H,K S H->K' S H){S:an}{H:ao}(h:jB P GI op dst K S H):jB P GI op dst K' S H:=by
 cases op<;>simp only[jB,ba]at h⊢<;>(try exact h)
 case alloc=>cases dst<;>first|exact h|exact hK _ _ h
 case call f args=>
  obtain⟨hb,out,h1,h2,h3,h4⟩:=h;refine⟨hb,out,h1,h2,h3,?_⟩
  cases out with
  |ret v=>exact hK _ _ h4
  |panic v=>exact h4
 case gy f args=>
  refine⟨h.1,?_⟩;have h:=h.2;split at h
  .obtain⟨out,h1,h2,h3,h4⟩:=h;refine⟨out,h1,h2,h3,?_⟩
   cases out with
   |ret v=>exact hK _ _ h4
   |panic v=>exact h4
  .exact h.elim
 all_goals
  split at h
  .exact hK _ _ h
  .exact h.elim
def lP{K:an->ao->Prop}{Qp:AV->Prop}{L:List (Bool×bI)}:∀(l:List bI){S:an}{H:ao},cV P GI l (oO P GI L K Qp) S H->oO P GI (l.map (λo=>(false,o))++L) K Qp S H
 |[],_,_,h=>h
 |o::l,S,H,h=>by
  simp only[adU,List.cons_append,oO,cV]at h⊢
  cases hw:aF S o.guard with
  |none=>rw[hw]at h;exact h.elim
  |some b=>
   rw[hw]at h
   cases b with
   |true=>exact tj (λS H h=>lP l h) h
   |false=>exact lP l h
def jM {K:an→ao→Prop} {Qp:AV→Prop} {L:List (Bool×bI)} {d:Option Nat} {f:Nat} {args:List cT} {S:an} {H:ao} (hb:(args.any fun y=>cW (ev S y))=false) (hc:ee P f=true) {out:iK} (h:AC P GI f (args.map fun y=>fz H (ev S y)) out)
  (hk:match(generalizing:=false) out with|.ret v=>oO P GI L K Qp (aW S d v) H|.panic v=>Qp v):oO P GI ((true,⟨d,none,.call f args⟩)::L) K Qp S H:=by
 simp only[oO,aF,aed,I'];refine⟨hb,out,hc,h,λh=>absurd (hb.symm.trans h) zd,?_⟩
 cases out<;>exact hk
def tJ{K:an->ao->Prop}{Qp:AV->Prop}(l:List bI){S:an}{H:ao}(h:cV P GI l K S H):oO P GI (l.map (λo=>(false,o))) K Qp S H:=by
 have:=lP (P:=P) (GI:=GI) (K:=K) (Qp:=Qp) (L:=[]) l h;rwa [aeI]at this
def SW.Hl (hG:ar GI) (hm:P.follows .mixedOrders=true) {ro:Option Nat} {old:Old} {Q:fa} {id:Nat} (ps ord:List Nat) (dO:ops.all (fun o=>eK o.op)=true) (bV:UM P n ops ps ord=true)
  {l:List bI} (hl:bh P n true ops=l) (L:List (Bool×bI)) (hL:(ord.map λk=>(ps.contains k,l[k]?))=(L.map λx=>(x.1,some x.2))) (h:oO P GI L (Q .normal old) (λv=>Q (.panic v) old S H) S H):SW P GI n ro (.region id ops true) Q old S H:=
 SW.Ye hG hm dO bV hl (by rw[Ga ord L hL];exact h)
end
section
variable{P:Program}{GI:World->Prop}{n:Nat}{a:Act}{w:World}{S:an}{H:ao}
def pB {o:Oper} {s el:TypeId} {i:TypeInfo} {x1 x2:Operand} {b m cap k:Nat} (ho:o.op = .indexAddr s x1 x2) (hs:P.underlying s=some (.slice el)) (hi:P.info? el=some i)
  (h1:a.eval x1=.slice (some ⟨b,0,none⟩) m cap) (h2:a.eval x2=.int .i64 k) (hk:k<m):(execOp a.eval o).run P w=.ok (.value (.pointer (some ⟨b,k*i.size,none⟩))) w:=by
 have Ji:(0:Int)<=k:=zo
 have gE:(k:Int)<m:=zo
 simp[execOp,ho,h1,h2,Instr.indexAt,asIntOf,adW hs,Ji,gE,sizeOf,typeInfo,hi,aeA,hk]
def Cb {o:Oper} {s:TypeId} {fs:Array Field} {f:Field} {i:TypeInfo} {j:Nat} {x:Operand} {b off:Nat} (ho:o.op = .fieldAddr s x j) (hs:P.underlying s=some (.struct fs)) (hf:fs[j]? = some f) (hi:P.info? f.type=some i) (hz:i.size≠0)
  (hx:a.eval x=.pointer (some ⟨b,off,none⟩)):(execOp a.eval o).run P w=.ok (.value (.pointer (some ⟨b,off+f.offset,none⟩))) w:=by
 simp[execOp,ho,hx,Instr.fieldAt,adW hs,hf,Instr.sureAddr,fieldPlace,sizeOf,typeInfo,hi,hz,aeA]
def nI(w:World){b:Nat}{cs fX:Array Value}{ty:TypeId}(h:w.heap[b]?=some (.cells cs ty (0,0))):w.setRow b fX=w.putObj b (.cells fX ty (0,0)):=by
 unfold World.setRow World.putObj
 congr 1
 apply agY;intro k;rw[Array.getElem?_modify,aeG];have aq:=(adD.1 h).1
 by_cases hk:b=k
 .subst hk;have e:=(adD.1 h).2;simp[aq,e]
 .simp[hk]
def Kj {o:Oper} {t:TypeId} {x y:Operand} {b off:Nat} {v:Value} {ty:TypeId} {i:TypeInfo} {arr:Array Value} (ho:o.op = .store t x y) (hx:a.eval x = .pointer (some ⟨b,off,none⟩)) (hi:P.info? t=some i) (hs:i.size=1) (hb:w.heap[b]? = some (.cells arr ty (0,0)))
  (PT:off<arr.size) (hv:(a.eval y)=v) (h1:v.oneCell'=true):∃Up:Array Value,(execOp a.eval o).run P w=.ok .skip (w.putObj b (.cells Up ty (0,0)))/\Up.size=arr.size/\∀k,Up.getD k undef=if k=off then v else arr.getD k undef:=by
 have j5:v.cells=#[v]:=by cases v<;>first|rfl|cases h1
 have dE:=agt P b off ty [v] 0 arr w hb (by simp;omega) (λx hx=>by simp at hx;subst hx;exact h1)
 have he:(arr.toList.take off++[v]++arr.toList.drop (off+1)).toArray=arr.setIfInBounds off v:=by
  apply Array.toList_inj.1;rw[Array.toList_setIfInBounds,List.set_eq_take_append_cons_drop,if_pos (by simpa using PT)];simp
 refine⟨arr.setIfInBounds off v,?_,ahB,λk=>?_⟩
 .rw[<-nI w hb,<-he];unfold execOp;simp only[ho,hx,hv,Instr.storeAt,Instr.sureAddr,storeVar,sizeOf,typeInfo,adK,Sem.run_pure,Result.andThen_ok,run_program,hi,hs,j5,ne_eq,ae4,ad1];have bl:(#[v]:Array Value).size=1:=rfl;simp only[bl,ae4,ad1];rw[show storeCells ⟨b,off,none⟩ (#[v]:Array Value).toList=storeCells ⟨b,off,none⟩ [v] 0 from rfl];simp only[Nat.add_zero,List.length_singleton]at dE;rw[dE]
  rfl
 .simp only[adY,aeG]
  by_cases hk:off=k
  .subst hk;simp[PT]
  .rw[if_neg hk,if_neg (aeq hk)]
end
def Bx{κ:Type}(enc:κ->Value)(es:Array MapEntry)(l:List (κ×Value)):Prop:=es.size=l.length/\∀i (h:i<es.size)(h':i<l.length),(es[i]).key=enc l[i].1/\(es[i]).val=l[i].2
def oN{κ:Type}[BEq κ](k:κ):List (κ×Value)->Nat->Option (Nat×Value)
 |[],_=>none
 |(k',v)::l,i=>if(k==k')=true then some (i,v)else oN k l (i+1)
def Bx.push{κ:Type}{enc:κ->Value}{es:Array MapEntry}{l:List (κ×Value)}(h:Bx enc es l)(k:κ)(v:Value)(born:Nat):Bx enc (es.push { key:=enc k,val:=v,born:=born }) (l++[(k,v)]):=by
 refine⟨by simp[h.1],λi hi du=>?_⟩;rw[Array.getElem_push,List.getElem_append];have hs:=h.1
 by_cases aq:i<es.size
 .rw[dif_pos aq,dif_pos zo];exact h.2 i aq zo
 .rw[dif_neg aq,dif_neg zo];simp
def Bx.list{κ:Type}{enc:κ->Value}{es:Array MapEntry}{l:List (κ×Value)}(h:Bx enc es l):∀i (h:i<es.toList.length)(h':i<l.length),(es.toList[i]).key=enc l[i].1/\(es.toList[i]).val=l[i].2:=λi hi du=>by
 have:=h.2 i (by simpa using hi) du;simpa using this
def tS(k:Int):∀(es:List MapEntry)(l:List (Int×Value))(i:Nat),es.length=l.length->(∀j (h:j<es.length)(h':j<l.length),(es[j]).key=.int .i64 l[j].1/\(es[j]).val=l[j].2)->Instr.findNow (.int .i64) (.int .i64 k) es i=some (oN k l i)
 |[],[],_,_,_=>rfl
 |[],_::_,_,h,_=>by simp at h
 |_::_,[],_,h,_=>by simp at h
 |e::es,(k',v)::l,i,hl,h=>by
  obtain⟨h1,h2⟩:=h 0 ahB ahB;simp only[List.getElem_cons_zero]at h1 h2;unfold Instr.findNow oN;rw[h1];simp only[Instr.sameNow,aed]
  by_cases hk:k=k'
  .subst hk;simp[h2]
  .have:(k==k')=false:=by simpa using hk
   rw[this];simp only[adM,ad1]
   exact tS k es l (i+1) (by simpa using hl) λj hj dZ=>h (j+1) (agy hj) (agy dZ)
section
variable{P:Program}{a:Act}{w:World}
def GY {o:Oper} {t kt el:TypeId} {x1 x2 x3:Operand} {b clock:Nat} {es:Array MapEntry} {k:Int} {l:List (Int×Value)} (ho:o.op = .mapUpdate t x1 x2 x3) (fB:P.underlying t=some (.map kt el)) (hu:P.underlying kt=some (.int .i64)) (h1:a.eval x1 = .map (some b)) (h2:a.eval x2 = .int .i64 k)
  (hb:w.heap[b]?=some (.map es clock)) (he:Bx (.int .i64) es l) (gQ:oN k l 0=none):(execOp a.eval o).run P w=.ok .skip (w.putObj b (.map (es.push { key:=.int .i64 k,val:=a.eval x3,born:=clock }) (clock+1))):=by
 have hf:=tS k es.toList l 0 (by simpa using he.1) he.list;rw[gQ]at hf;have yf:=MapKept.run_findKey (P:=P) (w:=w) hu hf
 have zq:(Instr.checkKey false 10000 kt (.int .i64 k)).run P w=.ok () w:=by
  unfold Instr.checkKey;simp[adK,adW hu]
 unfold execOp;simp only[ho,h1,h2,Instr.mapUpdate,adK,adW fB,Result.andThen_ok,afU hb,zq,yf,ahk _ hb]
 rfl
def HN {o:Oper} {t kt el:TypeId} {ie:TypeInfo} {z:Value} {x1 x2:Operand} {b clock:Nat} {es:Array MapEntry} {k:Int} {l:List (Int×Value)} (ho:o.op = .lookup t x1 x2 false) (fB:P.underlying t=some (.map kt el)) (hu:P.underlying kt=some (.int .i64)) (hi:P.info? el=some ie) (hz:ie.zero=some z)
  (h1:a.eval x1=.map (some b)) (h2:a.eval x2=.int .i64 k) (hb:w.heap[b]?=some (.map es clock)) (he:Bx (.int .i64) es l):(execOp a.eval o).run P w=.ok (.value (((oN k l 0).map (·.2)).getD z)) w:=by
 have hf:=tS k es.toList l 0 (by simpa using he.1) he.list;have yf:=MapKept.run_findKey (P:=P) (w:=w) hu hf
 have zq:∀e,(Instr.checkKey e 10000 kt (.int .i64 k)).run P w=.ok () w:=λe=>by
  unfold Instr.checkKey;simp[adK,adW hu]
 unfold execOp;simp only[ho,h1,h2,Instr.lookup,adK,adW fB,Result.andThen_ok,afU hb,Sem.run_pure,zq,yf]
 cases oN k l 0 with
 |none=>simp[zeroValue,typeInfo,hi,hz]
 |some q=>simp
end
def F9(x y:bI):Bool:=match x.dst,x.guard,x.op,y.dst,y.guard,y.op with
 |some d,none,.loadT _ a,some d',none,.loadT _ a'=>d !=d'&&!a'.tmps.contains d&&!a.tmps.contains d'
 |_,_,_,_,_,_=>false
def rT(S:an)(x y:bI):Prop:=match x.op,y.op with
 |.loadT _ a,.loadT _ a'=>∃i o i' o',ev S a=.box i o/\ev S a'=.box i' o'/\(i≠i'\/o≠o')
 |_,_=>False
section
variable{P:Program}{GI:World->Prop}{md:Region.Mode}{ops:Array Oper}{n:Nat}
def Qo {x y:bI} {S:an} {H:ao} {ex ey:aP} (hs:F9 x y=true) (hA:rT S x y) (hx:eA P GI x S H ex) (hy:eA P GI y (ex.S S x.dst) (ex.H H) ey) :
  ∃I4 y7,eA P GI y S H I4/\eA P GI x (I4.S S y.dst) (I4.H H) y7/\y7.S (I4.S S y.dst) x.dst=ey.S (ex.S S x.dst) y.dst/\y7.H (I4.H H)=ey.H (ex.H H)/\I4.dm=none:=by
 obtain⟨xd,xg,xo⟩:=x;obtain⟨yd,yg,yo⟩:=y;unfold F9 at hs;split at hs
 case h_2=>cases hs
 rename_i d h a d' h' a' q1 q2 q3 q4 q5 q6;simp only at q1 q2 q3 q4 q5 q6;subst q1 q2 q3 q4 q5 q6;simp only[adE,agn,ne_eq,aeF,af5,afP]at hs;obtain⟨⟨hd,E_⟩,vA⟩:=hs;obtain⟨i,o,i',o',e1,e2,cD⟩:=hA;simp only[eA,aF,ln,aD,e1]at hx;split at hx
 case isFalse=>cases hx
 rename_i bV;split at hx
 case h_2=>cases hx
 rename_i cs qM;split at hx
 case h_2=>cases hx
 rename_i v hv;cases hx;simp only[aP.S,aW,aP.H]at hy
 have Nd:ev (au S d v) a'=.box i' o':=by
  rw[<-e2];exact bL λt ht=>aT _ _ (by rintro rfl;exact E_ ht)
 simp only[eA,aF,ln,aD,Nd]at hy;split at hy
 case isFalse=>cases hy
 rename_i CF;split at hy
 case h_2=>cases hy
 rename_i fX Pw;split at hy
 case h_2=>cases hy
 rename_i v' pP;cases hy
 have wO:ev (au S d' v') a=.box i o:=by
  rw[<-e1];exact bL λt ht=>aT _ _ (by rintro rfl;exact vA ht)
 have hSc:au (au S d' v') d v=au (au S d v) d' v':=by
  funext t
  simp only[au]
  by_cases h1:t=d
  .subst h1;simp[hd]
  .simp[h1]
 by_cases hi:i=i'
 .subst hi
  have ho:o≠o':=by rcases cD with h|h;exact absurd rfl h;exact h
  rw[aO]at Pw;cases Pw;rw[aht ho]at pP;refine⟨{ v:=v',hw:=some (i,cs.set o' v'.aI) },{ v:=v,hw:=some (i,(cs.set o' v'.aI).set o v.aI) },?_,?_,hSc,?_,rfl⟩
  .simp[eA,aF,ln,aD,e2,CF,qM,pP]
  .have:(cs.set o' v'.aI)[o]?=some v:=by rw[aht (aeq ho)];exact hv
   simp[eA,aF,ln,aD,aP.S,aP.H,aW,wO,bV,aO,this]
  .simp only[aP.H];rw[List.set_comm _ _ (aeq ho)]
   funext t
   simp only[au]
   split<;>rfl
 .rw[aT _ _ (aeq hi)]at Pw;refine⟨{ v:=v',hw:=some (i',fX.set o' v'.aI) },{ v:=v,hw:=some (i,cs.set o v.aI) },?_,?_,hSc,?_,rfl⟩
  .simp[eA,aF,ln,aD,e2,CF,Pw,pP]
  .simp[eA,aF,ln,aD,aP.S,aP.H,aW,wO,bV,aT _ _ hi,qM,hv]
  .simp only[aP.H]
   funext t
   simp only[au]
   by_cases h1:t=i
   .subst h1;simp[hi]
   .simp[h1]
def rT.aU{S S':an}{x y:bI}(h:rT S x y)(hS:∀t∈x.op.rd++y.op.rd,S' t=S t):rT S' x y:=by
 obtain⟨xd,xg,xo⟩:=x;obtain⟨yd,yg,yo⟩:=y;unfold rT at h⊢;simp only at h hS⊢;split at h
 case h_2=>exact h.elim
 obtain⟨i,o,i',o',e1,e2,cD⟩:=h;refine⟨i,o,i',o',?_,?_,cD⟩
 .rw[<-e1];exact bL λt ht=>hS t (afH _ ht)
 .rw[<-e2];exact bL λt ht=>hS t (af2 _ ht)
def stay(P:Program)(n:Nat)(ops:Array Oper)(listed:Array Bool)(ts:List Nat):Prop:=∀k ak,ju P n ops k=some ak->listed.getD k true=false->∀t∈ts,t∉ak.writes
def Hd {QA:an→ao→Prop} {i:Nat} {oi:bI} (hi:ju P n ops i=some oi) :
  ∀(fuel:Nat)(listed:Array Bool)(S:an)(H:ao)(e:aP),
   (∀j o aj,ops[j]?=some o->ju P n ops j=some aj->j≠i->listed.getD j true=false->(∀ed∈o.after,Region.binds md ed=true->ed.on≠i)->oi.apart aj=true\/(F9 oi aj=true/\rT S oi aj/\stay P n ops listed (oi.op.rd++aj.op.rd)))->
   i∈Region.ready md ops listed->eA P GI oi S H e->
   y3 P GI n md ops QA fuel (listed.setIfInBounds i true) (e.S S oi.dst) (e.H H)->y3 P GI n md ops QA (fuel+1) listed S H:=by
 intro fuel
 induction fuel with
 |zero=>
  intro listed S H e _ hr hy hK;refine⟨λh=>(by rw[h]at hr;cases hr),λj hj=>?_⟩
  by_cases fK:j=i
  .subst fK;unfold Le;rw[hi];exact⟨e,hy,hK⟩
  .have:=afG hj fK;rw[hK.1]at this;cases this
 |succ fuel ih=>
  intro listed S H e mX hr hy hK;refine⟨λh=>(by rw[h]at hr;cases hr),λj hj=>?_⟩
  by_cases fK:j=i
  .subst fK;unfold Le;rw[hi];exact⟨e,hy,hK⟩
  .have h1:=hK.2 j (afG hj fK);obtain⟨y6,o,ho,eH⟩:=afA.1 hj
   have sf:ju P n ops j=some (bu P n true ops o):=by simp[ju,ho]
   have L6:∀ed∈o.after,Region.binds md ed=true->ed.on≠i:=λed Tz hb heq=>by
    have h1:=eH ed Tz hb;have h0:=(afA.1 hr).1;rw[heq]at h1;rcases ae6 i listed.size with h'|h'
    .simp[h']at h0 h1;rw[h0]at h1;cases h1
    .simp[afa h']at h1
   have j3:=mX j o _ ho sf fK y6 L6;unfold Le at h1⊢;rw[sf]at h1⊢;obtain⟨ej,Fh,Ry⟩:=h1
   have Xz:∀k,(listed.setIfInBounds j true).getD k true=false->listed.getD k true=false:=λk hk=>by
    by_cases tN:j=k
    .subst tN;exact y6
    .rwa [afV true tN]at hk
   have vU:∀ ej':aP,(∀ t,ej'.dm=some t→t∈(bu P n true ops o).op.wr)→∀ k o' ak,ops[k]? = some o'→ju P n ops k=some ak→k≠i→(listed.setIfInBounds j true).getD k true=false→(∀ ed∈o'.after,Region.binds md ed=true→ed.on≠i) →
     oi.apart ak=true\/(F9 oi ak=true/\rT (ej'.S S (bu P n true ops o).dst) oi ak/\stay P n ops (listed.setIfInBounds j true) (oi.op.rd++ak.op.rd)):=by
    intro ej' IF k o' ak hk Na AN fB gQ
    rcases mX k o' ak hk Na AN (Xz k fB) gQ with h|⟨h1,h2,h3⟩
    .exact .inl h
    .refine .inr ⟨h1,h2.aU λt ht=>?_,λm am hm hu=>h3 m am hm (Xz m hu)⟩;have:=h3 j _ sf y6 t ht;exact aP.vP (λh=>this (ft (.inl h))) (λh=>this (ft (.inr (IF t h))))
   rcases j3 with j3|⟨hs,hA,_⟩
   .have vM:=tV j3 hy Fh;refine⟨ej,vM,?_⟩;refine ih (listed.setIfInBounds j true) _ _ e (vU ej (fw Fh).1) (afG hr (aeq fK)) (te j3 vM hy) ?_;rw[afK _ _ fK];rw[<-xE j3 (fw hy).1 (fw Fh).1,<-xX j3 (fw hy).2 (fw vM).2];exact Ry
   .obtain⟨I4,y7,q1,q2,q3,q4,q5⟩:=Qo hs hA hy Fh;refine⟨I4,q1,?_⟩;refine ih (listed.setIfInBounds j true) _ _ y7 (vU I4 (λt h=>by rw[q5]at h;cases h)) (afG hr (aeq fK)) q2 ?_;rw[afK _ _ fK,q3,q4];exact Ry
def Jm(md:Region.Mode)(ops:Array Oper)(al:List bI)(p q:Nat)(listed:Array Bool)(i:Nat):Bool:=
 match al[i]? with
 |none=>false
 |some oi=>(List.range ops.size).all fun j=>j==i || listed.getD j true || match ops[j]?,al[j]? with
   |some oj,some aj=>oj.after.any (fun e=>Region.binds md e && e.on==i) || oi.apart aj ||
     (i==p&&j==q&&F9 oi aj&&(List.range ops.size).all λk=>listed.getD k true||match al[k]? with
      |some ak=>(oi.op.rd++aj.op.rd).all λt=>!ak.writes.contains t
      |none=>true)
   |_,_=>true
def DO(md:Region.Mode)(ops:Array Oper)(al:List bI)(p q:Nat):List Nat->Array Bool->Bool
 |[],listed=>(Region.ready md ops listed).isEmpty
 |k::r,listed=>(Region.ready md ops listed).contains k&&Jm md ops al p q listed k&&DO md ops al p q r (listed.setIfInBounds k true)
def IY {p q i:Nat} {oi:bI} {listed:Array Bool} {S:an} (hi:ju P n ops i=some oi) (h:Jm md ops (bh P n true ops) p q listed i=true) (hS:i=p→∀ aj,ju P n ops q=some aj→rT S oi aj) (j:Nat) (o:Oper) (aj:bI)
  (hj:ops[j]?=some o) (sf:ju P n ops j=some aj) (cD:j≠i) (fB:listed.getD j true=false) (gQ:∀e∈o.after,Region.binds md e=true->e.on≠i):oi.apart aj=true\/(F9 oi aj=true/\rT S oi aj/\stay P n ops listed (oi.op.rd++aj.op.rd)):=by
 simp only[Jm,fG,hi,adQ,aeb]at h;have h1:=h j (adD.1 hj).1;simp only[hj,sf,aeZ,aej,cD,ahb,fB,adM,adE]at h1
 rcases h1 with(h1|h1)|⟨⟨⟨h1,h2⟩,h3⟩,h4⟩
 .obtain⟨e,he,hb⟩:=agc.1 h1;simp only[adE,aej]at hb;exact absurd hb.2 (gQ e he hb.1)
 .exact .inl h1
 .subst h1 h2;refine .inr ⟨h3,hS rfl aj sf,λk ak hk hu t ht hw=>?_⟩
  have gE:k<ops.size:=by
   unfold ju at hk
   cases ho:ops[k]? with
   |none=>rw[ho]at hk;cases hk
   |some x=>exact(adD.1 ho).1
  have h5:=adQ.1 h4 k (aeb.2 gE);simp only[hu,Bool.false_or,hk]at h5;have:=adQ.1 h5 t ht;simp[hw]at this
def vd{K K':an->ao->Prop}(hK:∀S H,K S H->K' S H):∀(l:List bI)(S:an)(H:ao),cV P GI l K S H->cV P GI l K' S H
 |[],_,_,h=>hK _ _ h
 |o::rest,S,H,h=>by
  simp only[cV]at h⊢;split
  .rename_i hw;simp only[hw]at h;exact tj (λS H=>vd hK rest S H) h
  .rename_i hw;simp only[hw]at h;exact vd hK rest _ _ h
  .rename_i hw;simp only[hw]at h
def Av(P:Program)(GI:World->Prop)(al:List bI)(p q:Nat)(K:an->ao->Prop):List Nat->an->ao->Prop
 |[],S,H=>K S H
 |k::r,S,H=>∃o,al[k]?=some o/\(k=p->∀aj,al[q]?=some aj->rT S o aj)/\cV P GI [o] (Av P GI al p q K r) S H
def DY {QA:an→ao→Prop} {p q:Nat}:∀ (ord:List Nat) (listed:Array Bool) (S:an) (H:ao),
  DO md ops (bh P n true ops) p q ord listed=true->Av P GI (bh P n true ops) p q QA ord S H->y3 P GI n md ops QA ord.length listed S H
 |[],_,_,_,hB,h=>⟨by simpa[DO]using hB,h⟩
 |k::r,listed,S,H,hB,h=>by
  obtain⟨o,ha,hS,h⟩:=h;rw[fG]at ha;simp only[DO,adE]at hB;obtain⟨⟨hr,hf⟩,NX⟩:=hB;obtain⟨e,hy,hK⟩:=uq h
  exact Hd ha r.length listed S H e (IY ha hf (λhk aj sf=>hS hk aj (by rw[fG];exact sf))) (by simpa using hr) hy
   (DY r _ _ _ NX hK)
def Xg(P:Program)(n:Nat)(ops:Array Oper)(p q:Nat)(ord:List Nat):Bool:=
 (bh P n true ops).all (·.ok n)&&oQ .any ops (bh P n true ops)&&Kl (bh P n true ops)&&decide (ord.length=ops.size)&&DO .any ops (bh P n true ops) p q ord (Array.replicate ops.size false)
def EO{al:List bI}{p q:Nat}{K:an->ao->Prop}{r:List Nat}:∀(ks:List Nat)(l:List bI){S:an}{H:ao},ks.map (al[·]?)=l.map some->(∀k∈ks,k≠p)->cV P GI l (Av P GI al p q K r) S H->Av P GI al p q K (ks++r) S H
 |[],[],_,_,_,_,h=>h
 |[],_::_,_,_,h,_,_=>by simp at h
 |_::_,[],_,_,h,_,_=>by simp at h
 |k::ks,o::l,S,H,he,hp,h=>by
  simp only[adU,ae1]at he;refine⟨o,he.1,λhk=>absurd hk (hp k ahB),?_⟩
  have hm:∀S H,cV P GI l (Av P GI al p q K r) S H->Av P GI al p q K (ks++r) S H:=λS H h=>EO ks l he.2 (λk hk=>hp k (adO _ hk)) h
  simp only[cV]at h⊢;split
  .rename_i hw;simp only[hw]at h;exact tj hm h
  .rename_i hw;simp only[hw]at h;exact hm _ _ h
  .rename_i hw;simp only[hw]at h
end
section
variable{P:Program}{GI:World->Prop}{n:Nat}{ops:Array Oper}{S:an}{H:ao}
end
section
variable{P:Program}{GI:World->Prop}{n m:Nat}{Q:Exit->Act->World->Prop}
section
variable{ops:Array Oper}{p:Nat}{la l:Array Bool}(hp:p<=ops.size)
 (hw:∀i o,ops[i]?=some o->if i<p then∀e∈o.after,Region.binds .any e=true->e.on<i else∀j,j<p->∃e∈o.after,Region.binds .any e=true/\e.on=j)
include hp hw
end
end
section
variable{P:Program}{Q:Exit->Act->World->Prop}{ro:Option Nat}{m n:Nat}{ops:Array Oper}
structure AI(ops:Array Oper)(n:Nat)(a0:Act)(val:Nat->Value)(l:Array Bool)(a:Act):Prop where
 size:a.tmps.size=n
 defers:a.defers=a0.defers
 old:∀t:Nat,(∀(i:Nat)(o:Oper),ops[i]?=some o->o.dst≠some t)->a.tmps.getD t undef=a0.tmps.getD t undef
 got:∀(i:Nat)(o:Oper)(t:Nat),ops[i]?=some o->o.dst=some t->l.getD i false=true->a.tmps.getD t undef=val t
section
variable{a:Act}{w:World}
def Oq {i:Nat} {rest:List Nat} {o:Oper} (ho:ops[i]? = some o) (hw:Region.wanted o (yielded ops a.tmps)=true) (dO:eK o.op=true) {v:Value} {w':World}
  (hr:(execOp a.eval o).run P w=.ok (.value v) w') (hk:wpOpsIn (FR ro) m P ops Q rest (a.put o.dst v) w'):wpOpsIn (FR ro) m P ops Q (i::rest) a w:=by
 simp only[wpOpsIn,ho];rw[if_pos hw];refine⟨λ_ _=>trivial,?_⟩;rw[ae_ _ _ _ (λc hc=>by rw[hc]at dO;cases dO),hr];exact hk
end
end
section
variable{P:Program}{GI:World->Prop}{w0:World}{n:Nat}{g:Gh}{S:an}{H:ao}{a:Act}{w:World}
def Rel.VZ (R:Rel P w0 n bP g S H a w) (d:Nat) (hd:d < n) (bK:¬ g.old.bx d) (cs:List AV) (vs:Array Value) (ty:TypeId) (hr:pE g.Pr w cs vs)
  (ho:∀(g':Gh) j (h:j<cs.length)(h':j<vs.size),(cs[j]).my/\eQ P w g' (.cell d j) cs[j] vs[j]):
  ∃g',g'.base=g.base/\g'.old=g.old/\g'.hi=g.hi/\g'.owner=g.owner/\g'.al d=some w.heap.size/\Rel P w0 n bP g' (au (λt=>cb d (S t)) d (.box d 0)) (au H d (some cs)) (a.put (some d) (.pointer (some ⟨w.heap.size,0,none⟩))) (w.alloc (.cells vs ty)):=by
 have R1:=R.suspend d bK (.box d 0) cs;have R2:=R1.Jb d (.inr rfl) hd cs vs ty (aO _ _ _) (aO _ _ _) hr.1 hr.2.1 (λj h h'=>ho _ j h h') hr.2.2;rw[FO]at R2;exact⟨{ g with al:=au (au g.al d none) d (some w.heap.size) },rfl,rfl,rfl,rfl,aO _ _ _,R2⟩
def J4{o:Oper}{t:TypeId}{it:TypeInfo}{z:Value}(ho:o.op=.alloc t)(hi:P.info? t=some it)(hz:it.zero=some z):(execOp a.eval o).run P w=.ok (.value (.pointer (some ⟨w.heap.size,0,none⟩))) (w.alloc (.cells z.cells t)):=by
 unfold execOp;simp[ho,Instr.alloc,zeroValue,typeInfo,hi,hz,newVar,newRow]
def Ft {o:Oper} {t:TypeId} {x y:Operand} {b:Nat} {c:Value} {vs:Array Value} {ty:TypeId} {i:TypeInfo} (ho:o.op = .store t x y) (hx:a.eval x = .pointer (some ⟨b,0,none⟩)) (hi:P.info? t=some i) (hb:w.heap[b]? = some (.cells vs ty (0,0))) (hy:a.eval y=c)
  (bl:c.cells.size=i.size) (xT:vs.size=i.size) (oB:∀u∈c.cells.toList,u.oneCell'=true):(execOp a.eval o).run P w=.ok .skip (w.setRow b c.cells):=by
 have dE:=agt P b 0 ty c.cells.toList 0 vs w hb (by simp;omega) oB
 have e:(vs.toList.take 0++c.cells.toList++vs.toList.drop (0+c.cells.toList.length)).toArray=c.cells:=by
  simp[aeU,bl,xT]
 simp only[Nat.add_zero]at dE;rw[e]at dE;unfold execOp;simp only[ho,hx,hy,Instr.storeAt,Instr.sureAddr,storeVar,sizeOf,typeInfo,adK,Sem.run_pure,Result.andThen_ok,run_program,hi,bl,ne_eq,ae4,ad1];rw[show storeCells ⟨b,0,none⟩ c.cells.toList=storeCells ⟨b,0,none⟩ c.cells.toList 0 from rfl,dE]
 rfl
end
end Go.AL
namespace Go.Proofs.Tryz
open Go.AL
noncomputable def codeOf(f:Go.Func):Go.Code:=match f.body with|some c=>c|none=>f.body.get!
abbrev Ev(n:Nat)(f:Go.Func):={c:af//dK prog n (codeOf f)=c}
def _root_.Go.Code.cA:Go.Code->Go.Code
 |.seq x _=>x
 |.cond _ x _=>x
 |c=>c
def _root_.Go.Code.cB:Go.Code->Go.Code
 |.seq _ y=>y
 |.cond _ _ y=>y
 |.block _ c=>c
 |.loop c=>c
 |c=>c
noncomputable def _root_.Go.Func.cO(f:Go.Func):Go.Code:=match f.body with|some c=>c|none=>f.body.get!
@[simp] noncomputable def bc(n:Nat)(c:Go.Code){a:af}(_h:dK prog n c=a:=by conv=>lhs;cbv):af:=a
end Go.Proofs.Tryz
namespace Go.AL
def aQ{n:Int}(h: -9223372036854775808<=n/\n<9223372036854775808):IntKind.i64.wrap n=n:=by
 have key:∀m:Int,m=n % 18446744073709551616->(if decide (m>=9223372036854775808)=true then m-18446744073709551616 else m)=n:=by
  intro m hm;split
  .rename_i hd;have:=afD hd;omega
  .rename_i hd
   have Zb:¬m>=9223372036854775808:=λhh=>hd (agq hh)
   omega
 exact key _ rfl
def ints(l:List Int):List AV:=l.map (.int .i64)
def cU(l:List Int):(ints l).length=l.length:=by simp[ints]
def d_(l:List Int)(i:Nat)(h:i<(ints l).length):(ints l)[i]=.int .i64 (l[i]'(by simpa[ints]using h)):=by simp[ints]
def vI(l:List Int):AV:=.slice .view (ints l)
def int(n:Int):AV:=.int .i64 n
def bg.of_eq{Pr e_:Nat->Nat->Prop}{w w':World}(h:∀b k,Pr b k->e_ b k/\w'.heap[b]?=w.heap[b]?):bg Pr e_ w w':={
 cell b k hp u hu:=⟨(h b k hp).1,by rw[afr (w:=w) (h b k hp).2];exact hu⟩
 map b hp es c hm:=⟨(h b 0 hp).1,by rw[(h b 0 hp).2];exact hm⟩ }
def RV.fN{Pr:Nat->Nat->Prop}{al:Nat->Option Nat}{w:World}{b:Bool}{c:Value}(h:RV Pr al w (.bool b) c):c=.bool b:=by
 cases h;rename_i h;cases h;rfl
def RV.int_eq{Pr:Nat->Nat->Prop}{al:Nat->Option Nat}{w:World}{k:IntKind}{n:Int}{c:Value}(h:RV Pr al w (.int k n) c):c=.int k n:=by
 cases h;rename_i h;cases h;rfl
def RV.iA{Pr:Nat->Nat->Prop}{al:Nat->Option Nat}{w:World}{v c:Value}(h:RV Pr al w (.val v) c):c=v:=by
 cases h;rename_i h;cases h;rfl
def ik{P:Program}{ro:Option Nat}{m:Nat}{c:Code}{Q:Exit->Act->World->Prop}{a:Act}{w:World}(A:Act->Prop)(ha:A a)(h:∀a,A a->c.wpIn (FR ro) m P Q a w):c.wpIn (FR ro) m P Q a w:=h a ha
def pd {P:Program} {a:Act} {w:World} {ro:Option Nat} {m:Nat} {Q:Exit→Act→World→Prop} {ops:Array Oper} {i:Nat} {rest:List Nat} {o:Oper} (ho:ops[i]? = some o) (hg:o.guard=none) (dO:eK o.op=true) {f:Nat} {args:Array Value} {w':World}
    (hr:(execOp a.eval o).run P w=.ok (.enter f args) w') {R:Ending->World->Prop} (hc:Calls P f args w' R)
    (hk:∀e jv,R e jv->match e with|.returned v=>wpOpsIn (FR ro) m P ops Q rest (a.put o.dst v) jv|.panicked ch=>Q (.panic ch) a jv|.outgrown=>False):wpOpsIn (FR ro) m P ops Q (i::rest) a w:=by
  simp only[wpOpsIn,ho]
  have:Region.wanted o (yielded ops a.tmps)=true:=by simp[Region.wanted,hg]
  rw[if_pos this];refine⟨λ_ _=>trivial,?_⟩;rw[ae_ _ _ _ (λc hc=>by rw[hc]at dO;cases dO),hr];refine⟨λh=>by simp[FR,Fence.wide]at h,iV.2 (hc.mono λe jv hh=>?_)⟩;have:=hk e jv hh
  cases e with
  |returned v=>exact this
  |panicked ch=>exact this
  |outgrown=>exact this.elim
def Bp {P:Program} {a:Act} {w:World} {m:Nat} {Q:Exit→Act→World→Prop} {ops:Array Oper} {i:Nat} {rest:List Nat} {o:Oper} (ho:ops[i]? = some o) (hg:o.guard=none) {d:Deferred} {w':World}
    (hr:(execOp a.eval o).run P w=.ok (.defer d) w') (hk:wpOpsIn (FR none) m P ops Q rest ({ a with defers:=d::a.defers }.put o.dst undef) w'):wpOpsIn (FR none) m P ops Q (i::rest) a w:=by
  simp only[wpOpsIn,ho]
  have:Region.wanted o (yielded ops a.tmps)=true:=by simp[Region.wanted,hg]
  rw[if_pos this];refine⟨λ_ _=>trivial,?_⟩;show Oper.uponIn _ _ _ _ _ _ _ ((Oper.semAt none a.eval o).run P w);rw[Oper.semAt_none,hr];exact hk
section
variable{P:Program}{GI:World->Prop}{n:Nat}{ro:Option Nat}{old:Old}{S:an}{H:ao}{Q:fa}
def SW.cut (hG:ar GI) (hm:P.follows .mixedOrders=true) {x y:Code} (hc:kW x=true) {ac:af} (oL:dK P n x=ac) (bK:∀ d∈ac.names,¬ old.bx d) (K:an→ao→Prop) (h:bB P GI ac (aN K) S H)
  (hy:∀S' H',K S' H'->SW P GI n ro y Q old S' H'):SW P GI n ro (.seq x y) Q old S H:=by
 subst oL;intro w0 g a w m cm ho R;refine adT (afo (iX hG cm hm x (aN K) g S H a w hc bK ho R h) ?_);intro e a' w' hq
 cases e with
 |normal=>
  obtain⟨g',S',H',h1,h2,h3⟩:=hq;exact hy S' H' h3 w0 g' a' w' m cm h1 h2
 |exit id=>obtain⟨_,_,_,_,_,h⟩:=hq;exact h.elim
 |ret=>obtain⟨_,_,_,_,_,h⟩:=hq;exact h.elim
 |panic ch=>obtain⟨_,_,_,_,_,_,_,_,_,_,h⟩:=hq;exact h.elim
 |goto l=>exact hq.elim
 |outgrown=>exact hq.elim
end
section
def gq {P:Program} {a:Act} {o:Oper} {cl:Call} {k:Nat} {args:Array Value} (w:World) (ho:o.op = .call cl) (hc:cl.callee = .value (.func k)) (ha:cl.args.map a.eval=args) (hk:ee P k=true) :
  (execOp a.eval o).run P w=.ok (.enter k args) w:=by
 unfold execOp;simp only[ho,fk hc,show a.eval (.func k)=.func (.func k) #[] #[]from rfl,Deferred.ofValue,adK,Sem.run_pure,Result.andThen_ok,invoke,ahJ,ahK,ha];rw[gp hk]
def cg(a:Act)(d t:Nat)(c:Value)(hd:d<a.tmps.size):(a.put (some d) c).eval (.tmp t)=if t=d then c else a.eval (.tmp t):=i_ a d t c hd
def l5(a:Act)(d:Option Nat)(c:Value):(a.put d c).tmps.size=a.tmps.size:=by cases d<;>simp[Act.put]
end
end Go.AL
namespace Go.AL
open Go.RowKit
section
variable{P:Program}{GI:World->Prop}{n:Nat}{a:Act}{w w0:World}{m:Nat}{Q:Exit->Act->World->Prop}{g:Gh}{S:an}{H:ao}{ro:Option Nat}
def jP (R:Rel P w0 n bP g S H a w) (hG:ar GI) (cm:GI w0) (hm:P.follows .mixedOrders=true) {id:Nat} {ops:Array Oper} {draw:Bool} (hc:kW (.region id ops draw)=true) {ac:af} (oL:dK P n (.region id ops draw)=ac) {W:Nat→Bool} (hW:jQ ops W=true)
  (bK:∀d,¬g.old.bx d) {K:an->ao->Prop} (h:bB P GI ac (aN K) S H)
  (hk:∀g' S' H' a' w',g'.old=g.old->Rel P w0 n bP g' S' H' a' w'->K S' H'->eI W a a'->Q .normal a' w'):(Code.region id ops draw).wpIn (FR ro) m P Q a w:=by
 subst oL
 have fin:∀e a' w',AK W a (QQ P w0 n g.old (aN K)) e a' w'->Q e a' w':=by
  intro e a' w' hq
  cases e with
  |normal=>
   obtain⟨⟨g',S',H',h1,h2,h3⟩,h4⟩:=hq;exact hk g' S' H' a' w' h1 h2 h3 h4
  |exit id=>obtain⟨_,_,_,_,_,h⟩:=hq;exact h.elim
  |ret=>obtain⟨_,_,_,_,_,h⟩:=hq;exact h.elim
  |panic ch=>obtain⟨_,_,_,_,_,_,_,_,_,_,h⟩:=hq;exact h.elim
  |goto l=>exact hq.elim
  |outgrown=>exact hq.elim
 simp only[dK]at h
 cases draw with
 |true=>
  simp only[aed]at h;split at h
  case isFalse=>exact h.elim
  rename_i bV;exact afi hm (fL fin _ _ _ _ (jd hW _ _ _ _ (l6 hG cm hm hc bV (λ_ _ _ _=>bK _) rfl R h)))
 |false=>
  simp only[adM,ad1]at h;split at h
  case isFalse=>exact h.elim
  rename_i bV;exact aea (gm fin _ _ _ (jf hW _ _ _ (rr hG cm hc bV (λ_ _ _ _=>bK _) rfl R h)))
def lA{o:Oper}{t:TypeId}{z:Value}(ho:o.op=.alloc t)(hz:(P.info? t).bind (·.zero)=some z):(execOp a.eval o).run P w=.ok (.value (.pointer (some ⟨w.heap.size,0,none⟩))) (w.alloc (.cells z.cells t)):=by
 obtain⟨it,h1,h2⟩:=ae7.1 hz;unfold execOp;simp[ho,Instr.alloc,zeroValue,typeInfo,h1,h2,newVar,newRow]
def mB{o:Oper}{fn:Fn}{c:Array Operand}(ho:o.op=.makeFunc fn #[] c):(execOp a.eval o).run P w=.ok (.value (.func fn #[] (c.map a.eval))) w:=by
 simp[execOp,ho,Instr.makeFunc]
end
section
variable{P:Program}{GI:World->Prop}{n:Nat}{ro:Option Nat}{old:Old}{S:an}{H:ao}{Q:fa}{a:Act}{w:World}
def run_makeMap{o:Oper}{t:TypeId}(ho:o.op=.makeMap t none):(execOp a.eval o).run P w=.ok (.value (.map (some w.heap.size))) (w.alloc (.map #[] 0)):=by
 unfold execOp;simp[ho,Instr.makeMap,run_newObj_alloc]
def Ma {o:Oper} {t kt el:TypeId} {fs:Array Field} {k:Nat} {x1 x2 x3:Operand} {b clock:Nat} {es:Array MapEntry} {key:List Int} {val:Value} {ks vs:List AV} {Pr:Nat→Nat→Prop} (ho:o.op = .mapUpdate t x1 x2 x3)
  (fB:P.underlying t=some (.map kt el)) (hu:P.underlying kt=some (.struct fs)) (hk:mm P 10000 kt=some k) (h1:a.eval x1=.map (some b)) (h2:a.eval x2=.agg (gu key)) (h3:a.eval x3=val)
  (hb:w.heap[b]?=some (.map es clock)) (hl:key.length=k) (gE:ks.length=es.size) (Zs:vs.length=es.size) (Yk:∀i (h:i<ks.length)(h':i<es.size),RD Pr w ks[i] (es[i]).key) (xT:∀i (h:i<vs.length)(h':i<es.size),RD Pr w vs[i] (es[i]).val)
  (gQ:oT key ks vs=some none):(execOp a.eval o).run P w=.ok .skip (w.putObj b (.map (es.push { key:=.agg (gu key),val:=val,born:=clock }) (clock+1))):=by
 have xK:(match P.underlying kt with|some (.array _ _)|some (.struct _)=>true|_=>false)=true:=by rw[hu]
 have zq:=vD (P:=P) (w:=w) false 10000 kt k hk key hl;simp only[oA,hu]at zq;obtain⟨q,q1,q2⟩:=lJ (w:=w) (Pr:=Pr) hu hk key hl ks vs es.toList 0 none (by simpa using gE) (by simpa using Zs) (λj h h'=>by simpa using Yk j h (by simpa using h')) (λj h h'=>by simpa using xT j h (by simpa using h')) gQ
 have hq:q=none:=by cases q with|none=>rfl|some p=>exact q2.elim
 subst hq;have yf:=(run_findKey_eq (P:=P) (w:=w) xK (.agg (gu key)) es.toList).trans q1;unfold execOp;simp only[ho,h1,h2,h3,Instr.mapUpdate,adK,adW fB,Result.andThen_ok,afU hb,zq,yf,ahk _ hb]
 rfl
end
section
variable{P:Program}{GI:World->Prop}{n m:Nat}{a:Act}{w w0:World}{Q:Exit->Act->World->Prop}{g:Gh}{S:an}{H:ao}{ro:Option Nat}
def Cl {o:Oper} {s el:TypeId} {len:Nat} {i:TypeInfo} {x1 x2:Operand} {b off k:Nat} (ho:o.op = .indexAddr s x1 x2) (hs:P.underlying s=some (.array len el)) (hi:P.info? el=some i)
  (h1:a.eval x1=.pointer (some ⟨b,off,none⟩)) (h2:a.eval x2=.int .i64 k) (hk:k<len):(execOp a.eval o).run P w=.ok (.value (.pointer (some ⟨b,off+k*i.size,none⟩))) w:=by
 have Ji:(0:Int)<=k:=zo
 have gE:(k:Int)<len:=zo
 simp[execOp,ho,h1,h2,Instr.indexAt,asIntOf,adW hs,Ji,gE,sizeOf,typeInfo,hi,aeA,hk,Instr.sureAddr]
def BT {o:Oper} {t:TypeId} {d:TypeDesc} {x:Operand} {b off:Nat} {v:Value} {vs:Array Value} {ty:TypeId} (ho:o.op = .load t x) (hx:a.eval x = .pointer (some ⟨b,off,none⟩)) (hd:P.underlying t=some d) (Zb:eh d=false) (hb:w.heap[b]? = some (.cells vs ty (0,0))) (hv:vs[off]? = some v) :
  (execOp a.eval o).run P w=.ok (.value v) w:=by
 refine jT ho hx hd Zb ?_;simp[World.cell?,hb,hv]
def AI.aU{ops:Array Oper}{a0:Act}{val:Nat->Value}{l:Array Bool}(h:AI ops n a0 val l a){t:Nat}(ht:ops.all (λo=>o.dst !=some t)=true):a.tmps.getD t undef=a0.tmps.getD t undef:=
 h.old t λi o ho hd=>by
  have:=aeP.1 ht o (aeK ho);simp[hd]at this
def AI.at{ops:Array Oper}{a0:Act}{val:Nat->Value}{l:Array Bool}(h:AI ops n a0 val l a)(i t:Nat)(ho:∃o,ops[i]?=some o/\o.dst=some t)(hl:l.getD i false=true):a.tmps.getD t undef=val t:=by
 obtain⟨o,h1,h2⟩:=ho;exact h.got i o t h1 h2 hl
end
section
variable{P:Program}{GI:World->Prop}{n m:Nat}{a:Act}{w w0:World}{Q:Exit->Act->World->Prop}{g:Gh}{S:an}{H:ao}{ro:Option Nat}
def Bf{κ:Type}[BEq κ][LawfulBEq κ]{k:κ}:∀{l:List (κ×Value)}{i:Nat},(∀x∈l,x.1≠k)->oN k l i=none
 |[],_,_=>rfl
 |(k',v)::l,i,h=>by
  have h1:k'≠k:=h (k',v) ahB;unfold oN;rw[if_neg (by simpa using aeq h1)]
  exact Bf λx hx=>h x (adO _ hx)
end
section
variable{P:Program}{GI:World->Prop}{n m:Nat}{a:Act}{w:World}{Q:Exit->Act->World->Prop}{S:an}{ro:Option Nat}
end
section
variable{P:Program}{n m:Nat}{a:Act}{w:World}{Q:Exit->Act->World->Prop}{ro:Option Nat}
def Cw(P:Program)(t j:Nat):Option (Nat×Nat):=match P.underlying t with
 |some (.struct fs)=>match fs[j]? with
  |some f=>match P.info? f.type with
   |some i=>some (f.offset,i.size)
   |none=>none
  |none=>none
 |_=>none
def uo{o:Oper}{s j Xa sz:Nat}{x:Operand}{b off:Nat}(h:Cw P s j=some (Xa,sz))(hz:sz≠0)(ho:o.op=.fieldAddr s x j)(hx:a.eval x=.pointer (some ⟨b,off,none⟩)):(execOp a.eval o).run P w=.ok (.value (.pointer (some ⟨b,off+Xa,none⟩))) w:=by
 unfold Cw at h;split at h
 .rename_i fs fH;split at h
  .rename_i f hf;split at h
   .rename_i i hi;simp only[ad8,af8]at h;obtain⟨rfl,rfl⟩:=h;exact Cb ho fH hf hi hz hx
   .cases h
  .cases h
 .cases h
end
section
variable{P:Program}{GI:World->Prop}{n m:Nat}{a:Act}{w:World}{Q:Exit->Act->World->Prop}{ro:Option Nat}
def lL(o:Oper):List Nat:=(o.after.toList.filter (Region.binds .any ·)).map (·.on)
def IU(ops:Array Oper):Nat->List Nat->List Nat
 |0,s=>s
 |k+1,s=>IU ops k (if s.contains k then s++((ops[k]?).map lL).getD []else s)
def xi{ops:Array Oper}{L:Nat->Prop}:∀(n:Nat),(∀k,k<n->∀o,ops[k]?=some o->L k->∀y∈lL o,L y)->∀s,(∀y∈s,L y)->∀y∈IU ops n s,L y
 |0,_,s,hs,y,hy=>hs y hy
 |k+1,h,s,hs,y,hy=>by
  refine xi k (λk' cz=>h k' zo) _ (λz hz=>?_) y hy;split at hz
  .rename_i hc;rcases adG.1 hz with hz|hz
   .exact hs z hz
   .cases ho:ops[k]? with
    |none=>rw[ho]at hz;cases hz
    |some o=>
     rw[ho]at hz;exact h k zo o ho (hs k (by simpa using hc)) z hz
  .exact hs z hz
def Im(ops:Array Oper)(p:Nat):Bool:=
 decide (p<=ops.size)&&(ops.extract 0 p).all (λo=>match o.guard with|none=>true|some (j,_)=>decide (j<p))&&
 (List.range ops.size).all (λi=>((ops[i]?).map λo=>if i<p then(lL o).all (λy=>decide (y<i))else let c:=IU ops i (lL o);(List.range p).all λj=>c.contains j).getD true)&&
 oW ops (ops.size-p) p ((List.range ops.size).map λi=>decide (i<p)).toArray
def wX{F:Fence}{ops:Array Oper}(x:Nat):∀(k i:Nat)(l:Array Bool)(a:Act)(w:World),oW ops k i l=true->wpOpsIn F m P ops Q (List.range' i k) a w->wpAnyIn F m P .any ops Q (x+k) l a w
 |0,i,l,a,w,h,hh=>by
  have h0:Region.ready .any ops l=[]:=by simpa[oW]using h
  cases x with
  |zero=>exact⟨h0,hh⟩
  |succ x=>exact⟨λ_=>hh,λi hi=>by rw[h0]at hi;cases hi⟩
 |k+1,i,l,a,w,h,hh=>by
  simp only[oW,adE,aej]at h;refine⟨λhr=>(by rw[hr]at h;cases h.1),λj hj=>?_⟩;rw[h.1,ad2]at hj;subst hj;simp only[aff]at hh;rw[wpOpsIn_cons]at hh;exact wpOpIn_mono (λa w hq=>wX x k _ _ a w h.2 hq) hh
structure LW(ops:Array Oper)(p:Nat)(la l:Array Bool):Prop where
 Ud:la.size=p
 sl:l.size=ops.size
 front:∀i,i<p->l[i]?=la[i]?
 back:∀i,p<=i->i<ops.size->l[i]?=some false
 closed:∀(i:Nat)(o:Oper),ops[i]?=some o->l.getD i false=true->∀y∈lL o,l.getD y false=true
section
variable{ops:Array Oper}{p:Nat}{la l:Array Bool}(hp:p<=ops.size)
 (hw:∀i o,ops[i]?=some o->if i<p then∀e∈o.after,Region.binds .any e=true->e.on<i else∀j,j<p->j∈IU ops i (lL o))
include hp hw
def LS(h:LW ops p la l){j:Nat}(hj:j<p)(E7:la[j]?=some false):Region.ready .any ops l=Region.ready .any (ops.extract 0 p) la:=by
 unfold Region.ready
 have bl:(ops.extract 0 p).size=p:=by simp;omega
 rw[bl]
 have hr:List.range ops.size=List.range p++List.range' p (ops.size-p):=by
  rw[aft,aft];have:=agI (s:=0) (m:=p) (n:=ops.size-p);rw[aeh]at this;rw[this]
  congr 1;omega
 rw[hr,ahM]
 have hb:(List.range' p (ops.size-p)).filter (λi=>!l.getD i true&&((ops[i]?).map (·.after.all λe=>!Region.binds .any e||l.getD e.on false)).getD false)=[]:=by
  rw[ahl];intro i hi;have hi:=af0.1 hi;have QU:p<=i:=hi.1
  have sY:i<ops.size:=zo
  have ho:ops[i]?=some ops[i]:=ad4 sY;have wD:=hw i _ ho;rw[if_neg zo]at wD;rw[ho];simp only[Option.map_some,Option.getD_some,adE,not_and];intro _ eH;have eH:=aeP.1 eH
  have hL:=xi (L:=λy=>l.getD y false=true) (ops:=ops) i (λk _ o ho hLk=>h.closed k o ho hLk) (lL ops[i]) (λy hy=>by
   simp only[lL,adZ,afT,agJ]at hy;obtain⟨e,⟨he,AE⟩,rfl⟩:=hy
   simpa[AE]using eH e he) j (wD j hj)
  rw[adY,h.front j hj,E7]at hL;cases hL
 rw[hb,aeI]
 refine List.filter_congr λi hi=>?_
 have hi:=aeb.1 hi;have ho:ops[i]?=some (ops[i]' zo):=ad4 zo;have wD:=hw i _ ho;rw[if_pos hi]at wD
 have hoe:(ops.extract 0 p)[i]?=ops[i]?:=by
  rw[afm]
  have:i<min p ops.size-0:=zo
  rw[if_pos this,aeh]
 rw[hoe,ho];simp only[Option.map_some,Option.getD_some,adY,h.front i hi]
 congr 1
 rw[aep,aeP,aeP]
 refine forall_congr' λe=>forall_congr' λhe=>?_
 cases AE:Region.binds .any e with
 |false=>simp
 |true=>
  have:=wD e he AE;rw[h.front e.on zo]
def va(h:LW ops p la l){j:Nat}(hj:j<p)(E7:la[j]?=some false):Region.ready .any (ops.extract 0 p) la≠[]:=by
 have bl:(ops.extract 0 p).size=p:=by simp;omega
 have ex:∃j,j<p/\la[j]?=some false/\∀i,i<j->la[i]?=some true:=by
  induction j using Nat.strongRecOn with
  |_ j ih=>
   by_cases hx:∃i,i<j/\la[i]?=some false
   .obtain⟨i,hi,hiu⟩:=hx;exact ih i hi zo hiu
   .refine⟨j,hj,E7,λi hi=>?_⟩
    have dk:i<la.size:=by rw[h.Ud];omega
    rw[ad4 dk]
    cases hb:la[i]with
    |true=>rfl
    |false=>exact absurd ⟨i,hi,by rw[ad4 dk,hb]⟩ hx
 obtain⟨j,hj,E7,Uk⟩:=ex;intro uC
 have:j∈Region.ready .any (ops.extract 0 p) la:=by
  unfold Region.ready;rw[afT];refine⟨aeb.2 zo,?_⟩;have ho:ops[j]?=some (ops[j]' zo):=ad4 zo;have wD:=hw j _ ho;rw[if_pos hj]at wD
  have hoe:(ops.extract 0 p)[j]?=ops[j]?:=by
   rw[afm]
   have:j<min p ops.size-0:=zo
   rw[if_pos this,aeh]
  rw[hoe,ho];simp only[Option.map_some,Option.getD_some,adE,adY,E7,agU,aha];rw[aeP];intro e he
  cases AE:Region.binds .any e with
  |false=>rfl
  |true=>
   rw[Uk e.on (wD e he AE)];rfl
 rw[uC]at this;cases this
def Kk {F:Fence} (hg:(ops.extract 0 p).all (fun o=>match o.guard with | none=>true | some (j,_)=>decide (j < p))=true) (HB:oW ops (ops.size - p) p ((List.range ops.size).map fun i=>decide (i < p)).toArray=true):∀ (k:Nat) (la l:Array Bool) (a:Act) (w:World),LW ops p la l →
  wpAnyIn F m P .any (ops.extract 0 p) (Ml (wpOpsIn F m P ops Q (List.range' p (ops.size-p))) Q) k la a w->wpAnyIn F m P .any ops Q (k+(ops.size-p)) l a w:=by
 have bl:(ops.extract 0 p).size=p:=by simp;omega
 have final:∀(k:Nat)(la l:Array Bool)(a:Act)(w:World),LW ops p la l->(¬∃j,j<p/\la[j]?=some false)->wpOpsIn F m P ops Q (List.range' p (ops.size-p)) a w->wpAnyIn F m P .any ops Q (k+(ops.size-p)) l a w:=by
  intro k la l a w h eH hh
  have hl:l=((List.range ops.size).map λi=>decide (i<p)).toArray:=by
   apply agY;intro i
   by_cases hi:i<ops.size
   .simp only[agA,ad9,ahC hi,Option.map_some]
    by_cases yE:i<p
    .rw[h.front i yE]
     have dk:i<la.size:=by rw[h.Ud];omega
     rw[ad4 dk]
     cases hb:la[i]with
     |true=>simp[yE]
     |false=>exact absurd ⟨i,yE,by rw[ad4 dk,hb]⟩ eH
    .rw[h.back i zo hi];simp[yE]
   .have Wn:=h.sl;rw[afa zo,afa (by simp;omega)]
  rw[hl];exact wX k _ _ _ a w HB hh
 intro k
 induction k with
 |zero=>
  intro la l a w h hh;refine final 0 la l a w h ?_ hh.2;rintro⟨j,hj,E7⟩;exact va hp hw h hj E7 hh.1
 |succ k ih=>
  intro la l a w h hh
  by_cases eH:∃j,j<p/\la[j]?=some false
  case neg=>
   have h0:Region.ready .any (ops.extract 0 p) la=[]:=by
    unfold Region.ready;rw[ahl];intro i hi;have hi:=aeb.1 hi
    have dk:i<la.size:=by rw[h.Ud];omega
    cases hb:la[i]with
    |true=>simp[adY,ad4 dk,hb]
    |false=>exact absurd ⟨i,zo,by rw[ad4 dk,hb]⟩ eH
   exact final (k+1) la l a w h eH (hh.1 h0)
  obtain⟨j,hj,E7⟩:=eH;have h1:=va hp hw h hj E7;have h2:=LS hp hw h hj E7;rw[show k+1+(ops.size-p)=(k+(ops.size-p))+1 by omega];refine⟨λhr=>absurd (h2▸hr) h1,λi hi=>?_⟩
  have du:i∈Region.ready .any (ops.extract 0 p) la:=by rw[<-h2];exact hi
  have yE:i<p:=by
   have:=aeb.1 (afT.1 du).1;omega
  have hI:LW ops p (la.setIfInBounds i true) (l.setIfInBounds i true):=by
   have WC:∀o,ops[i]?=some o->∀y∈lL o,l.getD y false=true:=λo ho y hy=>by
    obtain⟨_,o',nM,eH⟩:=afA.1 hi;rw[ho]at nM;cases nM;simp only[lL,adZ,afT,agJ]at hy;obtain⟨e,⟨he,AE⟩,rfl⟩:=hy;exact eH e he AE
   have rW:∀y,l.getD y false=true->(l.setIfInBounds i true).getD y false=true:=λy hy=>by
    rw[adY,aeG]
    by_cases hiy:i=y
    .subst hiy;rw[adY]at hy;split
     .split
      .rfl
      .rename_i h1 h2;rw[afa zo]at hy;cases hy
     .exact hy
    .rw[if_neg hiy,<-adY];exact hy
   refine⟨by simpa using h.Ud,by simpa using h.sl,λq hq=>?_,λq hq OY=>?_,λq o ho hLq y hy=>?_⟩
   .rw[aeG,aeG,h.front q hq];have e1:=h.Ud;have e2:=h.sl
    by_cases Ri:i=q
    .subst Ri;rw[if_pos rfl,if_pos rfl,if_pos zo,if_pos zo]
    .rw[if_neg Ri,if_neg Ri]
   .rw[aeG,if_neg zo];exact h.back q hq OY
   .by_cases Ri:q=i
    .subst Ri;exact rW y (WC o ho y hy)
    .refine rW y (h.closed q o ho ?_ y hy);rw[adY,aeG,if_neg (aeq Ri),<-adY]at hLq;exact hLq
  have hs:=hh.2 i du;unfold wpOpIn at hs⊢
  have im:∀i,i<p->(ops.extract 0 p)[i]?=ops[i]?:=λi yE=>by
   rw[afm]
   have:i<min p ops.size-0:=zo
   rw[if_pos this,aeh]
  have Fk:=im i yE;rw[Fk]at hs
  cases ho:ops[i]? with
  |none=>rw[ho]at hs;exact ih _ _ a w hI hs
  |some o=>
   rw[ho]at hs Fk
   have hw:Region.wanted o (yielded (ops.extract 0 p) a.tmps)=Region.wanted o (yielded ops a.tmps):=by
    have:=aeP.1 hg o (aeK Fk);unfold Region.wanted
    cases qg:o.guard with
    |none=>rfl
    |some q=>
     obtain⟨j,b⟩:=q;rw[qg]at this;simp only[adL]at this;simp only[yielded,im j this]
   simp only[hw]at hs;simp only;split
   .rename_i KW;rw[if_pos KW]at hs;exact agp (λa w hq=>ih _ _ a w hI hq) (Di hs)
   .rename_i KW;rw[if_neg KW]at hs;exact⟨hs.1,ih _ _ _ w hI hs.2⟩
end
def MD (hm:P.follows .mixedOrders=true) {F:Fence} {id p:Nat} {ops:Array Oper} {a:Act} {w:World} (h:Im ops p=true)
  (hh:wpAnyIn F m P .any (ops.extract 0 p) (Ml (wpOpsIn F m P ops Q (List.range' p (ops.size-p))) Q) p (Array.replicate p false) a { w with drawn:=w.drawn+1 }):(Code.region id ops true).wpIn F m P Q a w:=by
 simp only[Im,adE,adL]at h;obtain⟨⟨⟨h1,h2⟩,h3⟩,h4⟩:=h;refine afi hm ?_
 have:=Kk (P:=P) (Q:=Q) (m:=m) h1 (λi o ho=>by
  have hi:=(adD.1 ho).1;have:=adQ.1 h3 i (aeb.2 hi);rw[ho]at this;simp only[Option.map_some,Option.getD_some]at this;split
  .rename_i yE;rw[if_pos yE,adQ]at this;intro e he hb
   have:=this e.on (by
    simp only[lL,adZ,afT,agJ]
    exact⟨e,⟨he,hb⟩,rfl⟩)
   simpa using this
  .rename_i yE;rw[if_neg yE]at this;intro j hj;have:=adQ.1 this j (aeb.2 hj)
   simpa using this) (F:=F) h2 h4 p (Array.replicate p false) (Array.replicate ops.size false) a _ ⟨ahB,ahB,λi hi=>by
    rw[afL,afL,if_pos zo,if_pos hi],λi hi du=>by rw[afL,if_pos du],λi o ho hL=>by
    rw[adY,afL]at hL
    split at hL<;>cases hL⟩ hh
 rwa [show p+(ops.size-p)=ops.size by omega]at this
end
def RO{α:Type}(P:Program)(x:Sem α):Prop:=∀w r w',x.run P w=.ok r w'->w'=w
def NK{α:Type}(P:Program)(x:Sem α):Prop:=∀w r w',x.run P w≠.ok r w'
section
variable{P:Program}{α β:Type}
def RO.pure(a:α):RO P (Pure.pure a:Sem α):=λw r w' h=>by
 have:(Pure.pure a:Sem α).run P w=.ok a w:=rfl;rw[this]at h;cases h;rfl
def RO.bind{x:Sem α}{f:α->Sem β}(hx:RO P x)(hf:∀a,RO P (f a)):RO P (x >>= f):=λw r w' h=>by
 rw[adK]at h
 cases hr:x.run P w with
 |ok a w1=>
  rw[hr]at h;have h1:=hf a w1 r w' h;rw[h1,hx w a w1 hr]
 |halt e w1=>rw[hr]at h;cases h
def NK.ro{x:Sem α}(h:NK P x):RO P x:=λw r w' hh=>absurd hh (h w r w')
def NK.bind{x:Sem α}{f:α->Sem β}(hf:∀a,NK P (f a)):NK P (x >>= f):=λw r w' h=>by
 rw[adK]at h
 cases hr:x.run P w with
 |ok a w1=>rw[hr]at h;exact hf a w1 r w' h
 |halt e w1=>rw[hr]at h;cases h
def NK.aae{x:Sem α}{f:α->Sem β}(hx:NK P x):NK P (x >>= f):=λw r w' h=>by
 rw[adK]at h
 cases hr:x.run P w with
 |ok a w1=>exact hx w a w1 hr
 |halt e w1=>rw[hr]at h;cases h
def NK.halt(e:Halt):NK P (.halt e:Sem α):=λw r w' h=>by cases h
def RO.load(m:Mode)(a:Addr):RO P (.load m a .pure):=λw r w' h=>by
 simp only[Sem.run]at h;split at h
 .cases h;rfl
 .split at h
  .cases h;rfl
  .cases h
def RO.underlying(t:TypeId):RO P (Go.underlying t):=λw r w' h=>by
 simp only[Go.underlying,program]at h;rw[adK]at h;simp only[Sem.run,Result.andThen]at h;split at h
 .cases h;rfl
 .cases h
def RO.typeInfo(t:TypeId):RO P (Go.typeInfo t):=λw r w' h=>by
 simp only[Go.typeInfo,program]at h;rw[adK]at h;simp only[Sem.run,Result.andThen]at h;split at h
 .cases h;rfl
 .cases h
def RO.sizeOf(t:TypeId):RO P (Go.sizeOf t):=(RO.typeInfo t).bind λ_=>RO.pure _
def RO.isAgg(t:TypeId):RO P (Go.isAgg t):=(RO.underlying t).bind λd=>by split<;>exact RO.pure _
def RO.loadCellsFrom(a:Addr):∀(n i:Nat)(acc:Array Value),RO P (Go.loadCellsFrom a i n acc)
 |0,_,_=>RO.pure _
 |n+1,i,acc=>(RO.load _ _).bind λ_=>RO.loadCellsFrom a n _ _
def RO.loadVar(t:TypeId)(a:Addr):RO P (Go.loadVar t a):=by
 unfold Go.loadVar
 refine(RO.isAgg t).bind λb=>?_
 cases b
 .exact RO.load _ _
 .exact(RO.sizeOf t).bind λn=>(RO.loadCellsFrom a n 0 #[]).bind λ_=>RO.pure _
def RO.sureAddr(v:Value):RO P (Instr.sureAddr v):=by
 unfold Instr.sureAddr;split
 .exact RO.pure _
 .exact(NK.halt _).ro
def RO.loadAt(t:TypeId)(v:Value):RO P (Instr.loadAt t v):=(RO.sureAddr v).bind λa=>RO.loadVar t a
def RO.asIntOf(v:Value):RO P (Go.asIntOf v):=by
 unfold Go.asIntOf;split
 .exact RO.pure _
 .exact(NK.halt _).ro
 .exact(NK.halt _).ro
def NK.bounds(k:IntKind)(x y:Int)(c:BoundsCode):NK P (boundsPanic k x y c:Sem α):=by
 have h:∀s:Bool,NK P (runtimePanic (.bounds (IntKind.i64.wrap x) y s c):Sem α):=λs=>NK.bind λp=>NK.halt _
 unfold boundsPanic;dsimp only;split
 .exact NK.bind h
 .exact NK.bind h
def RO.indexAt(t:TypeId)(x ix:Value):RO P (Instr.indexAt t x ix):=by
 have key:∀ (k:IntKind) (i:Int) (b:Option Addr) (len:Nat) (elem:TypeId),RO P (do
   let d<-Go.underlying t
   let ace:Bool:=decide (len<=1)&&(match d with|.array ..=>true|_=>false)
   match b with
   |some a=>
    if 0<=i/\i<(len:Int)then do
     let sz<-Go.sizeOf elem
     Pure.pure (Value.pointer (some (a.add (i.toNat*sz))))
    else if ace=true then unsupported (Unsupported.noEntry "op/indexAddr.an index out of range at an array of length 0 or 1 (ledger 616)")
    else boundsPanic k i len BoundsCode.index
   |none=>boundsPanic k i 0 BoundsCode.index):=by
  intro k i b len elem
  refine(RO.underlying t).bind λd=>?_
  cases b with
  |some a=>
   simp only;split
   .exact(RO.sizeOf _).bind λ_=>RO.pure _
   .generalize(decide (len<=1)&&_)=tn;cases tn
    .exact(NK.bounds _ _ _ _).ro
    .exact(NK.halt _).ro
  |none=>exact(NK.bounds _ _ _ _).ro
 unfold Instr.indexAt
 refine(RO.asIntOf ix).bind λ⟨k,i⟩=>?_
 refine(RO.underlying t).bind λd=>?_
 dsimp only;split
 .exact(RO.sureAddr _).bind λ_=>(RO.pure _).bind λ⟨base,len,elem⟩=>key k i base len elem
 .exact(RO.pure _).bind λ⟨base,len,elem⟩=>key k i base len elem
 .exact(NK.aae (NK.halt _)).ro
def YA{ρ:Operand->Value}{o:Oper}(h:match o.op with|.move _|.assign _|.load ..|.indexAddr ..=>true|_=>false):RO P (execOp ρ o):=by
 unfold execOp
 split at h<;>try cases h
 .rename_i x e;simp only[e];exact RO.pure _
 .rename_i x e;simp only[e];exact RO.pure _
 .rename_i t x e;simp only[e];exact(RO.loadAt _ _).bind λ_=>RO.pure _
 .rename_i t x ix e;simp only[e];exact(RO.indexAt _ _ _).bind λ_=>RO.pure _
def rn{ρ:Operand->Value}{o:Oper}(h:match o.op with|.move _|.assign _|.load ..|.indexAddr ..=>true|_=>false){w w':World}{x:Next}(hr:(execOp ρ o).run P w=.ok x w'):w'=w/\∃v,x=.value v:=by
 refine⟨YA h w x w' hr,?_⟩
 have key:∀(s:Sem Value),(do let v<-s;pure (Next.value v):Sem Next).run P w=.ok x w'->∃v,x=.value v:=λs hs=>by
  rw[adK]at hs
  cases hq:s.run P w with
  |ok a w1=>rw[hq]at hs;cases hs;exact⟨_,rfl⟩
  |halt e w1=>rw[hq]at hs;cases hs
 unfold execOp at hr
 split at h<;>try cases h
 .rename_i x e;simp only[e]at hr;cases hr;exact⟨_,rfl⟩
 .rename_i x e;simp only[e]at hr;cases hr;exact⟨_,rfl⟩
 .rename_i t x e;simp only[e]at hr;exact key _ hr
 .rename_i t x ix e;simp only[e]at hr;exact key _ hr
end
section
variable{P:Program}{ops ops':Array Oper}{Q:Exit->Act->World->Prop}{m:Nat}
structure Ew(ops ops':Array Oper):Prop where
 size:ops'.size=ops.size
 each:∀(i:Nat)(o:Oper),ops[i]?=some o->∃o',ops'[i]?=some o'/\o'.dst=o.dst/\o'.after=o.after/\o'.guard=none/\o.guard=none
def Ew.ready(h:Ew ops ops')(l:Array Bool):Region.ready .any ops' l=Region.ready .any ops l:=by
 unfold Region.ready;rw[h.size]
 refine List.filter_congr λi hi=>?_
 have hi:=aeb.1 hi;obtain⟨o',nM,_,ha,_⟩:=h.each i _ (ad4 hi);rw[nM,ad4 hi];simp only[Option.map_some,Option.getD_some,ha]
def E2 (bn:Ew ops ops') (I:Array Bool→Act→World→Prop)
  (mg:∀(i:Nat)(o o':Oper)(l:Array Bool)(a:Act)(w:World),ops[i]?=some o->ops'[i]?=some o'->l.size=ops.size->l.getD i true=false->I l a w->(∀e∈o.after,Region.binds .any e=true->l.getD e.on false=true)->
   (o.semAt none a.eval).run P w=(o'.semAt none a.eval).run P w/\((∀a' w',I (l.setIfInBounds i true) a' w')\/
    ∀x w',(o.semAt none a.eval).run P w=.ok x w'->∃v,x=.value v/\I (l.setIfInBounds i true) (a.put o.dst v) w')):
  ∀(fuel:Nat)(l:Array Bool)(a:Act)(w:World),l.size=ops.size->I l a w->wpAnyIn (FR none) m P .any ops' Q fuel l a w->wpAnyIn (FR none) m P .any ops Q fuel l a w:=by
 intro fuel
 induction fuel with
 |zero=>
  intro l a w _ _ h;exact⟨(bn.ready l)▸h.1,h.2⟩
 |succ fuel ih=>
  intro l a w hl hI h;refine⟨λhr=>h.1 (by rw[bn.ready];exact hr),λi hi=>?_⟩;have h1:=h.2 i (by rw[bn.ready];exact hi);obtain⟨fB,o,ho,eH⟩:=afA.1 hi;obtain⟨o',nM,hd,ha,Aw,hg⟩:=bn.each i o ho;obtain⟨he,hx⟩:=mg i o o' l a w ho nM hl fB hI eH
  have o_:(l.setIfInBounds i true).size=ops.size:=by simpa using hl
  have hw:Region.wanted o (yielded ops a.tmps)=true:=by simp[Region.wanted,hg]
  have KW:Region.wanted o' (yielded ops' a.tmps)=true:=by simp[Region.wanted,Aw]
  simp only[wpOpIn,nM,KW,aed]at h1;simp only[wpOpIn,ho,hw,aed]
  have hu:∀K r,o'.uponIn (FR none) m P a K Q r=o.uponIn (FR none) m P a K Q r:=λK r=>by unfold Oper.uponIn;rw[hd]
  have h2:o.wpIn (FR none) m P a w (wpAnyIn (FR none) m P .any ops' Q fuel (l.setIfInBounds i true)) Q:=by
   refine⟨λ_ _=>trivial,?_⟩;have h3:=h1.2;rw[hu]at h3
   change o.uponIn (FR none) m P a _ Q ((o'.semAt none a.eval).run P w)at h3
   change o.uponIn (FR none) m P a _ Q ((o.semAt none a.eval).run P w)
   rw[he];exact h3
  rcases hx with hx|hx
  .exact agp (λa' w' hh=>ih _ _ _ o_ (hx a' w') hh) h2
  .refine⟨h2.1,?_⟩;have h3:=h2.2
   change o.uponIn (FR none) m P a _ Q ((o.semAt none a.eval).run P w)at h3
   change o.uponIn (FR none) m P a _ Q ((o.semAt none a.eval).run P w)
   cases hr:(o.semAt none a.eval).run P w with
   |ok x w'=>
    rw[hr]at h3;obtain⟨v,rfl,hv⟩:=hx x w' hr;simp only[Oper.uponIn_value]at h3⊢;exact ih _ _ _ o_ hv h3
   |halt x w'=>
    rw[hr]at h3
    cases x<;>exact h3
def yN(h:Nat->Op->Op)(ops:Array Oper):Array Oper:=ops.mapIdx λi o=>{ o with op:=h i o.op }
def A_(h:Nat->Op->Op)(i:Nat):(yN h ops)[i]?=(ops[i]?).map λo=>{ o with op:=h i o.op }:=by
 simp[yN]
def I6(h:Nat->Op->Op)(hg:ops.all (λo=>o.guard.isNone)=true):Ew ops (yN h ops):=by
 refine⟨by simp[yN],λi o ho=>⟨{ o with op:=h i o.op },by rw[A_,ho];rfl,rfl,rfl,?_,?_⟩⟩
 all_goals
  have:=aeP.1 hg o (aeK ho);simpa using this
end
section
variable{P:Program}{GI:World->Prop}{n:Nat}{ops ops':Array Oper}{S:an}{H:ao}
def SW.aai (hG:ar GI) (hm:P.follows .mixedOrders=true) {old:Old} {Q:fa} {id:Nat} (bn:Ew ops ops') (dO:ops'.all (fun o=>eK o.op)=true) (bV:Xg P n ops' ops'.size ops'.size (List.range ops'.size)=true)
  {l:List bI} (hl:bh P n true ops'=l)
  (hI:∀(w0:World)(g:Gh)(a:Act)(w:World),g.old=old->Rel P w0 n bP g S H a w->∃I:Array Bool->Act->World->Prop,I (Array.replicate ops.size false) a { w with drawn:=w.drawn+1 }/\
   ∀(i:Nat)(o o':Oper)(l:Array Bool)(a:Act)(w:World),ops[i]?=some o->ops'[i]?=some o'->l.size=ops.size->l.getD i true=false->I l a w->(∀e∈o.after,Region.binds .any e=true->l.getD e.on false=true)->
    (o.semAt none a.eval).run P w=(o'.semAt none a.eval).run P w/\((∀a' w',I (l.setIfInBounds i true) a' w')\/
     ∀x w',(o.semAt none a.eval).run P w=.ok x w'->∃v,x=.value v/\I (l.setIfInBounds i true) (a.put o.dst v) w'))
  (h:cV P GI l (λS H=>Q .normal old S H) S H):SW P GI n none (.region id ops true) Q old S H:=by
 subst hl;intro w0 g a w m cm ho R;simp only[Xg,adE,adL]at bV;obtain⟨⟨⟨⟨q1,q2⟩,q3⟩,q4⟩,q5⟩:=bV
 have gQ:∀j o d z,ju P n ops' j=some o->bD o=some (d,z)->False:=λj o d z hj hz=>by
  rw[<-fG]at hj;have:=adQ.1 q3 o (aeN hj);unfold bD at hz;split at hz
  .rename_i h _;rw[h]at this;cases this
  .cases hz
 have R0:Rel P w0 n bP g S H a { w with drawn:=w.drawn+1 }:=R.jV ((aeC _ w).drew)
 have hU:UU P n ops' (Array.replicate ops'.size false)=bP:=by
  funext t
  simp only[UU,bP,ago,iff_false];rintro⟨j,o,z,k1,k2,_⟩;exact gQ j o t z k1 k2
 obtain⟨I,i0,mg⟩:=hI w0 g a w ho R;refine afi hm (E2 bn I mg ops.size _ a _ ahB i0 ?_);rw[<-bn.size];refine fL (Q:=QQ P w0 n old (Q.bB old)) (λ_ _ _ hq=>Ag hq) _ _ _ _ (wk dO qo _ _ _ _ (HH (Q:=Q.bB old) (old:=old) hG cm q2 (λo kE=>?_) ops'.size (Array.replicate ops'.size false) g S H a _ ahB ho (by rw[hU];exact R0) (λj o d z k1 k2 k3=>(gQ j o d z k1 k2).elim) ?_))
 .simp only[bh,afl,adQ,Function.comp]at q1;exact q1 o (by simpa using kE)
 .have:=DY (P:=P) (GI:=GI) (n:=n) (md:=.any) (ops:=ops') (QA:=Q.bB old .normal) (p:=ops'.size) (q:=ops'.size) (List.range ops'.size) (Array.replicate ops'.size false) S H q5 ?_
  .rw[q4]at this;exact this
  .have:=EO (P:=P) (GI:=GI) (al:=bh P n true ops') (p:=ops'.size) (q:=ops'.size) (K:=Q.bB old .normal) (r:=[]) (List.range ops'.size) (bh P n true ops') (by
    apply ae5;intro k
    by_cases hk:k<ops'.size
    .simp[hk,bh]
    .simp[hk,bh]) (λk hk=>by have:=aeb.1 hk;omega) (S:=S) (H:=H) (vd (λS H h=>h) _ _ _ h)
   simpa using this
end
def Jo:AV->Value
 |.bool b=>.bool b
 |.int k n=>.int k n
 |_=>undef
def Py:AV->Bool
 |.bool _|.int _ _=>true
 |_=>false
def RD.zF{Pr:Nat->Nat->Prop}{w:World}{v:AV}{c:Value}(h:RD Pr w v c)(hv:Py v=true):c=Jo v:=by
 cases h<;>first|rfl|cases hv
def RD.aaE{Pr:Nat->Nat->Prop}{w:World}{v:AV}(hv:Py v=true):RD Pr w v (Jo v):=by
 cases v<;>first|exact .bool _|exact .int _ _|cases hv
def Gr{v:AV}(hv:Py v=true):v.one=true:=by cases v<;>first|rfl|cases hv
def oC(es:List AV):List Value:=(es.flatMap AV.cells).map Jo
def ke(size:Nat)(es:List AV):Prop:=∀x∈es,x.storable=true/\x.cells.length=size/\∀c∈x.cells,Py c=true
def ke.elems{size:Nat}{es:List AV}(h:ke size es):aG size es=true:=nW.2 λv hv=>⟨(h v hv).1,(h v hv).2.1⟩
def GG{size:Nat}:∀{es:List AV},ke size es->(es.flatMap AV.cells).length=es.length*size
 |[],_=>ahB
 |x::es,h=>by
  rw[aeY,adV,GG λy hy=>h y (adO _ hy),(h x adX).2.1,List.length_cons,afg];omega
def sI{size:Nat}{es:List AV}(h:ke size es):(oC es).length=es.length*size:=by
 rw[oC,adH,GG h]
def Rx(es fs:List AV):oC (es++fs)=oC es++oC fs:=by simp[oC]
def flat_get{size:Nat}:∀{es:List AV},ke size es->∀j (h:j<es.length) k (hk:k<(es[j]).cells.length),(es.flatMap AV.cells)[j*size+k]?=some (es[j]).cells[k]
 |[],_,_,h,_,_=>by simp at h
 |x::es,ho,0,h,k,hk=>by
  rw[aeY,Nat.zero_mul,aeh];exact(aeH hk).trans (adB hk)
 |x::es,ho,j+1,h,k,hk=>by
  have hx:=(ho x adX).2.1;rw[aeY,aeS (by rw[hx,afg];omega),hx,show(j+1)*size+k-size=j*size+k by rw[afg];omega];exact flat_get (λy hy=>ho y (adO _ hy)) j (by simpa using h) k hk
def qp{size:Nat}{es:List AV}(ho:ke size es){j:Nat}(h:j<es.length){k:Nat}(hk:k<(es[j]).cells.length):(oC es)[j*size+k]?=some (Jo (es[j]).cells[k]):=by
 rw[oC,ad9,flat_get ho j h k hk];rfl
def ke.flat{size:Nat}{es:List AV}(ho:ke size es)(Pr:Nat->Nat->Prop)(w:World):jo Pr w size es (oC es):=
 ⟨λx hx=>⟨(ho x hx).2.1,(ho x hx).1,λc hc=>Gr ((ho x hx).2.2 c hc)⟩,λj h k hk=>⟨_,qp ho h hk,RD.aaE ((ho _ (adC h)).2.2 _ (adC hk))⟩⟩
def ke.app{size:Nat}{es fs:List AV}(h:ke size es)(h':ke size fs):ke size (es++fs):=λx hx=>by
 rcases adG.1 hx with hx|hx
 .exact h x hx
 .exact h' x hx
structure KO(cc:Nat->Nat->Prop)(e:TypeId)(size:Nat)(es:List AV)(o:Old)(v:Value):Prop where
 c:o.c=cc
 ds:o.ds=[]
 bx:∀d,¬o.bx d
 ok:ke size es
 row:((∃a0,v=.slice a0 0 0)/\es=[])\/∃b cap cur,v=.slice (some ⟨b,0,none⟩) es.length cap/\o.aU b=some (.cells cur e (0,0))/\es.length<=cap/\cap<=maxLen/\cur.size=cap*size/\cur.toList.take (es.length*size)=oC es
section
variable{P:Program}{GI:World->Prop}{w0:World}{n:Nat}{g:Gh}{S:an}{H:ao}{a:Act}{w:World}{cc:Nat->Nat->Prop}{e:TypeId}{size:Nat}{es:List AV}{v:Value}
def Rel.V9 (R:Rel P w0 n bP g S H a w) {b:Nat} (hf:xx g b) {o:Obj} (ho:w.heap[b]? = some o) :
  Rel P w0 n bP { g with old:={ g.old with aU:=au g.old.aU b (some o) } } S H a w:=by
 refine{ size:=R.size,defers:=R.defers,facts:=R.facts,slot:=R.slot,own:=λt ht hu=>(R.own t ht hu).aU rfl λb hb=>⟨rfl,rfl,hb⟩,box:=?_,jU:=R.jU,jR:=R.jR,inj:=R.inj,base:=R.base,below:=R.below,fresh:=R.fresh,still:=R.still,grown:=R.grown,kept:=?_ }
 .intro i c hi;obtain⟨cs,vs,ty,h1,h2,h3,h4,h5,h6,h7,h8,h9⟩:=R.box i c hi;exact⟨cs,vs,ty,h1,h2,h3,h4,h5,h6,h7,λj hj dZ=>(h8 j hj dZ).aU rfl λb hb=>⟨rfl,rfl,hb⟩,h9⟩
 .intro c ob h
  by_cases lr:c=b
  .subst lr
   have:ob=o:=by simpa[au]using h.symm
   subst this;exact⟨hf.1,ho,hf.2.1,hf.2.2.1,hf.2.2.2⟩
  .exact R.kept c ob (by simpa[au,lr]using h)
def Rel.PV (R:Rel P w0 n bP g S H a w) {b:Nat} {o:Obj} (hk:g.old.aU b=some o) :
  Rel P w0 n bP { g with old:={ g.old with aU:=au g.old.aU b none } } S H a w/\xx { g with old:={ g.old with aU:=au g.old.aU b none } } b/\w.heap[b]?=some o:=by
 obtain⟨k1,k2,k3,k4,k5⟩:=R.kept b o hk;refine⟨?_,⟨k1,k3,k4,k5⟩,k2⟩;refine{ size:=R.size,defers:=R.defers,facts:=R.facts,slot:=R.slot,own:=λt ht hu=>(R.own t ht hu).aU rfl λb hb=>⟨rfl,rfl,hb⟩,box:=?_,jU:=R.jU,jR:=R.jR,inj:=R.inj,base:=R.base,below:=R.below,fresh:=R.fresh,still:=R.still,grown:=R.grown,kept:=?_ }
 .intro i c hi;obtain⟨cs,vs,ty,h1,h2,h3,h4,h5,h6,h7,h8,h9⟩:=R.box i c hi;exact⟨cs,vs,ty,h1,h2,h3,h4,h5,h6,h7,λj hj dZ=>(h8 j hj dZ).aU rfl λb hb=>⟨rfl,rfl,hb⟩,h9⟩
 .intro c ob h
  have hc:c≠b:=by rintro rfl;simp[au]at h
  exact R.kept c ob (by simpa[au,hc]using h)
def Rel.C7 (R:Rel P w0 n bP g S H a w) (hp:g.old.c=cc∧g.old.ds=[]∧∀ d,¬ g.old.bx d) {w':World} (hb:Below w.heap.size w w') (bV:ke size es) (cZ:w'.ownsRow w.heap.size e size v es.length (oC es)) :
  ∃g',Rel P w0 n bP g' S H a w'/\KO cc e size es g'.old v:=by
 rcases cZ.2 with⟨rfl,h0⟩|⟨b,cap,cur,rfl,lX,hg,h1,h2,h3,h4⟩
 .exact⟨g,R.jV hb,hp.1,hp.2.1,hp.2.2,bV,.inl ⟨⟨_,rfl⟩,aem h0⟩⟩
 .exact⟨_,R.IT hb lX hg,hp.1,hp.2.1,hp.2.2,bV,.inr ⟨b,cap,cur,rfl,aO _ _ _,h1,h2,h3,h4⟩⟩
def KO.append (R:Rel P w0 n bP g S H a w) {i:TypeInfo} (hK:KO cc e i.size es g.old v) {o:Oper} {cl:Call} {t:TypeId} {z:Value} {x1 x2:Operand} (ho:o.op = .call cl) (kH:cl.callee = .builtin .append) (Cd:cl.args = #[x1,x2]) (DB:cl.argTypes = #[t,t])
  (fB:P.underlying t=some (.slice e)) (hi:P.info? e=some i) (hz:i.zero=some z) (pY:z.cells.size=i.size) (E1:i.bytes<=65536) (hv:a.eval x1=v) {y2:cT} (mJ:dz n x2=some y2) {oo:Ow} {x:AV} (hS:ev S y2=.slice oo [x]) (hx:ke i.size [x]) (hlen:es.length+1<=2097152):
  ∃v' w' g',(execOp a.eval o).run P w=.ok (.value v') w'/\Rel P w0 n bP g' S H a w'/\KO cc e i.size (es++[x]) g'.old v':=by
 have hle:g.base<=w.heap.size:=by rw[R.base];exact R.below.size
 have fh:=R.ev mJ (λ_ _=>id);rw[hS]at fh
 have run:∀v' w',(Builtin.append_ #[t,t] o.type #[v,a.eval x2]).run P w=.ok v' w'->(execOp a.eval o).run P w=.ok (.value v') w':=by
  intro v' w' h;rw[<-hv]at h;unfold execOp;simp[ho,kH,Cd,DB,resolve,invoke,builtin,h]
 have bytes:∀m,m<=2097152->m*i.bytes<=140737488355328:=λm hm=>aeL (agT hm E1) zd
 rcases(fh.dX rfl).nf i.size hx.elems with⟨h0,_⟩|⟨b,off,cap,news,jS,hl,hn,h1,hr⟩
 .cases h0
 have tg:news=oC [x]:=by
  apply ae5;intro j
  by_cases hj:j<i.size
  .have Fu:([x][0]).cells.length=i.size:=(hx x ahB).2.1;obtain⟨u,u1,u2⟩:=hr 0 ahB j (by rw[Fu];exact hj);have e1:=qp hx (j:=0) ahB (k:=j) (by rw[Fu];exact hj);rw[Nat.zero_mul,aeh]at u1 e1;rw[u1,e1,u2.zF ((hx x ahB).2.2 _ (adC _))]
  .rw[ad3 (by rw[hl];simp;omega),ad3 (by rw[sI hx];simp;omega)]
 have CF:ke i.size (es++[x]):=hK.ok.app hx
 have yl:(es++[x]).length=es.length+1:=ahB
 rcases hK.row with⟨⟨a0,rfl⟩,rfl⟩|⟨bk,abo,cur,hvk,hk,q1,q2,q3,q4⟩
 .obtain⟨v',w',r1,r2,r3,r4,r5⟩:=sX (P:=P) (w:=w) w.heap.size t o.type e i z fB hi hz pY a0 ⟨b,off,none⟩ 1 cap news (by rw[hl];rfl) (λj u hu=>by rw[aeA];exact hn j u hu) zo zo (bytes _ zo) (adF _);rw[tg]at r2;obtain⟨g',R',Z9⟩:=R.C7 (es:=[x]) ⟨hK.c,hK.ds,hK.bx⟩ ⟨r4.os,r4.tape,r4.output,r4.size,λk hk=>r4.block k hk ahB⟩ hx r2;exact⟨v',w',g',run _ _ (by rw[jS];exact r1),R',Z9⟩
 .have cD:es≠[]\/es=[]:=(Decidable.em _).symm;obtain⟨k1,k2,k3,k4,k5⟩:=R.kept bk _ hk
  have cZ:w.ownsRow g.base e i.size v es.length (oC es):=⟨sI hK.ok,.inr ⟨bk,abo,cur,hvk,k1,k2,q1,q2,q3,q4⟩⟩
  obtain⟨v',w',b',r1,r2,r3,r4⟩:=rK (P:=P) (w:=w) g.base t o.type e i z fB hi hz pY v es.length (oC es) bk cZ (by rw[hvk];rfl) ⟨b,off,none⟩ 1 cap news (by rw[hl];rfl) (λj u hu=>by rw[aeA];exact hn j u hu) h1 hlen (bytes _ hlen) hle;rw[tg,<-Rx]at r2
  have pL:∃Eo GQ,v'=.slice (some ⟨b',0,none⟩) (es++[x]).length Eo/\w'.heap[b']?=some (.cells GQ e (0,0))/\(es++[x]).length<=Eo/\Eo<=maxLen/\GQ.size=Eo*i.size/\GQ.toList.take ((es++[x]).length*i.size)=oC (es++[x]):=by
   rcases r2.2 with⟨_,h0⟩|⟨gg,cp,cu,rfl,_,m1,m2,m3,m4,m5⟩
   .omega
   .have:gg=b':=by simpa[Value.ownBlock]using r3
    subst this;rw[yl];exact⟨cp,cu,rfl,m1,m2,m3,m4,m5⟩
  obtain⟨Eo,GQ,pP,il,m2,m3,m4,m5⟩:=pL
  rcases r4 with⟨rfl,iH⟩|⟨rfl,iH,bl⟩
  .obtain⟨R1,hf,_⟩:=R.PV hk;have R2:=R1.dS (M:=λc=>c=b') (w':=w') ⟨iH.os,iH.tape,iH.output,iH.size,λk hk hm=>iH.block k hk (by simpa using hm)⟩ (λc hc=>by subst hc;exact hf) (λc hc=>by subst hc;exact aO _ _ _);have R3:=R2.V9 hf il;exact⟨v',w',_,run _ _ (by rw[jS];exact r1),R3,hK.c,hK.ds,hK.bx,CF,.inr ⟨b',Eo,GQ,pP,aO _ _ _,m2,m3,m4,m5⟩⟩
  .have R2:=R.IT (w':=w') ⟨iH.os,iH.tape,iH.output,iH.size,λk hk=>iH.block k hk ahB⟩ (adF _) il;exact⟨v',w',_,run _ _ (by rw[jS];exact r1),R2,hK.c,hK.ds,hK.bx,CF,.inr ⟨w.heap.size,Eo,GQ,pP,aO _ _ _,m2,m3,m4,m5⟩⟩
def KO.cell (hK:KO cc e size es g.old v) (R:Rel P w0 n bP g S H a w) {j:Nat} (hj:j < es.length) :
  ∃b cap cur,v=.slice (some ⟨b,0,none⟩) es.length cap/\g.old.aU b=some (.cells cur e (0,0))/\w.heap[b]?=some (.cells cur e (0,0))/\∀k (hk:k<(es[j]).cells.length),j*size+k<cur.size/\cur[j*size+k]?=some (Jo (es[j]).cells[k]):=by
 rcases hK.row with⟨_,rfl⟩|⟨b,cap,cur,hv,hk,h1,h2,h3,h4⟩
 .simp at hj
 refine⟨b,cap,cur,hv,hk,(R.kept b _ hk).2.1,λk z_=>?_⟩;have hg:=qp hK.ok hj z_;rw[<-h4,age]at hg;split at hg
 .have nQ:cur[j*size+k]?=some (Jo (es[j]).cells[k]):=by rw[<-hg,aeQ]
  exact⟨(adD.1 nQ).1,nQ⟩
 .cases hg
def KO.set (hK:KO cc e size es g.old v) {j k:Nat} (hj:j < es.length) (hk:k < (es[j]).cells.length) {x:AV} (hx:ke size [x]) {u:AV} (hu:x.cells=(es[j]).cells.set k u) {b cap:Nat} {cur DC:Array Value} (hv:v = .slice (some ⟨b,0,none⟩) es.length cap) (zX:g.old.aU b=some (.cells cur e (0,0)))
  (bl:DC.size=cur.size) (hc:∀m,DC.getD m undef=if m=j*size+k then Jo u else cur.getD m undef):KO cc e size (es.set j x) { g.old with aU:=au g.old.aU b (some (.cells DC e (0,0))) } v:=by
 have bV:ke size (es.set j x):=λy hy=>by
  rcases ae2 hy with h|h
  .exact hK.ok y h
  .subst h;exact hx y ahB
 refine⟨hK.c,hK.ds,hK.bx,bV,.inr ⟨b,cap,DC,by rw[aeM];exact hv,aO _ _ _,?_⟩⟩;rw[aeM]
 rcases hK.row with⟨_,rfl⟩|⟨b2,adm,ado,fh,ky,h1,h2,h3,h4⟩
 .simp at hj
 rw[hv]at fh;cases fh;rw[zX]at ky;cases ky;refine⟨h1,h2,by rw[bl];exact h3,?_⟩
 have hle:es.length*size<=cur.size:=by rw[h3];exact ae0 _ h1
 apply ae5;intro m
 by_cases hm:m<es.length*size
 case neg=>rw[ad3 (by rw[adS];omega),ad3 (by rw[sI bV,aeM];omega)]
 have Vh:0<size:=by
  rcases afy size with h|h
  .rw[h,Nat.mul_zero]at hm;omega
  .exact h
 obtain⟨q,r,hr,rfl⟩:∃q r,r<size/\m=q*size+r:=⟨m/size,m % size,af3 _ Vh,by rw[afs];exact(agD m size).symm⟩
 have hq:q<es.length:=by
  rcases ae6 q es.length with h|h
  .exact h
  .have:=ae0 size h;omega
 have OY:q<(es.set j x).length:=by rw[aeM];exact hq
 have hlen:((es.set j x)[q]).cells.length=size:=(bV _ (adC OY)).2.1;rw[qp bV OY (by rw[hlen];exact hr),age,if_pos hm,aeQ];have wP:=hc (q*size+r)
 have mu:q*size+r<DC.size:=by rw[bl];omega
 have XB:q*size+r<cur.size:=zo
 rw[adY,ad4 mu,Option.getD_some,adY,ad4 XB,Option.getD_some]at wP;rw[ad4 mu,wP]
 have hold:cur[q*size+r]?=some (Jo ((es[q]).cells[r]'(by rw[(hK.ok _ (adC hq)).2.1];exact hr))):=by
  have hg:=qp hK.ok hq (k:=r) (by rw[(hK.ok _ (adC hq)).2.1];exact hr);rw[<-h4,age,if_pos hm,aeQ]at hg;exact hg
 rw[ad4 XB]at hold;have hold:=ad7 hold
 by_cases hqj:q=j
 .subst hqj
  have Q3:(es.set q x)[q]=x:=ahB
  by_cases hrk:r=k
  .subst hrk;rw[if_pos rfl];simp only[Q3,hu,ahq]
  .rw[if_neg zo];simp only[Q3,hu];rw[ahD zo,hold]
 .have Q3:(es.set j x)[q]=es[q]:=ahD zo _;rw[if_neg,hold]
  .simp only[Q3]
  .intro h
   have cz:k<size:=by rw[<-(hK.ok _ (adC hj)).2.1];exact hk
   apply hqj;have:=congrArg (·/size) h;simp only[afs _ size,Nat.mul_add_div Vh,ag_ hr,ag_ cz]at this;simpa using this
def FX{a:Act}{t:Nat}{c:Value}(ht:t<a.tmps.size)(h:a.tmps.getD t undef=c):a.put (some t) c=a:=by
 cases a;simp only[Act.put,Act.mk.injEq,agd]at h ht⊢;apply afc
 .simp
 .intro i h1 h2;rw[Array.getElem_setIfInBounds];split
  .rename_i hi;subst hi;rw[<-h];simp[adY,h2]
  .rfl
def KO.done (hK:KO cc e size es g.old v) (R:Rel P w0 n bP g S H a w) {t:Nat} (ht:t < n) (hS:S t = .val v) :
  ∃g',Rel P w0 n bP g' (au S t (.slice .view es)) H a w/\g'.old.c=cc/\g'.old.ds=[]/\∀d,¬g'.old.bx d:=by
 have hv:a.tmps.getD t undef=v:=by
  have:=R.slot t ht id;rw[hS]at this;exact this.iA
 have Dd:∀{c},a.tmps.getD t undef=c->a.put (some t) c=a:=λh=>FX (by rw[R.size];exact ht) h
 rcases hK.row with⟨⟨a0,rfl⟩,rfl⟩|⟨b,cap,cur,fh,hk,h1,h2,h3,h4⟩
 .have dh:RD g.Pr w (.slice .view []) (.slice a0 0 0):=by
   cases a0 with
   |none=>exact .iB _
   |some b=>exact .jz _ _
  have R2:=R.put t (.slice .view []) _ ht (.data _ _ dh) trivial;rw[Dd hv]at R2;exact⟨g,R2,hK.c,hK.ds,hK.bx⟩
 .obtain⟨k1,k2,_⟩:=R.kept b _ hk;obtain⟨g',q1,q2,R1,q3,q4⟩:=R.hand hk (es.length*size)
  have dh:RD g'.Pr w (.slice .view es) v:=by
   refine RD.ofRow (base:=g.base) ⟨sI hK.ok,.inr ⟨b,cap,cur,fh,k1,k2,h1,h2,h3,h4⟩⟩ (hK.ok.flat _ _) λb' il k z_=>?_
   have:b=b':=by rw[fh]at il;simpa[Value.ownBlock]using il
   subst this;exact q4 k z_
  have R2:=R1.put t (.slice .view es) v ht (.data _ _ dh) trivial;rw[Dd hv]at R2;exact⟨g',R2,by rw[q1];exact hK.c,by rw[q1];exact hK.ds,by rw[q1];exact hK.bx⟩
def KO.start(R:Rel P w0 n bP g S H a w)(hp:g.old.c=cc/\g.old.ds=[]/\∀d,¬g.old.bx d){t:Nat}(ht:t<n)(hS:S t=.slice .nil []):∃v,Rel P w0 n bP g (au S t (.val v)) H a w/\KO cc e size [] g.old v:=by
 obtain⟨ad,hc⟩:∃ad,a.tmps.getD t undef=.slice ad 0 0:=by
  have hq:=R.slot t ht id;rw[hS]at hq;have hq:=hq.dX rfl;generalize a.tmps.getD t undef=c at hq
  cases hq with
  |iB=>exact⟨_,rfl⟩
  |jz=>exact⟨_,rfl⟩
  |slice _ _ b off cap size cs fl uN=>rw[uN rfl];exact⟨_,rfl⟩
 have R2:=R.put t (.val (.slice ad 0 0)) (.slice ad 0 0) ht (.data _ _ (.val _ rfl)) trivial;rw[FX (by rw[R.size];exact ht) hc]at R2;exact⟨_,R2,hp.1,hp.2.1,hp.2.2,(λx hx=>by cases hx),.inl ⟨⟨_,rfl⟩,rfl⟩⟩
end
section
variable{P:Program}{GI:World->Prop}{w0:World}{n:Nat}{g:Gh}{S:an}{H:ao}{a:Act}{w:World}{cc:Nat->Nat->Prop}{e:TypeId}{size:Nat}{es:List AV}{v:Value}
def Rel.Ph (R:Rel P w0 n bP g S H a w) {t u:Nat} (ht:t < n) (hu:u < n) (cD:t≠u) (hS:S t = .slice (.own e) es) (hv:a.tmps.getD u undef=a.tmps.getD t undef) :
  ∃g',g'.old=g.old/\Rel P w0 n bP g' (au (au S t (.slice .view es)) u (.slice (.own e) es)) H a w:=by
 let g':Gh:={ g with owner:=λb=>if g.owner b=some (.slot t)then some (.slot u)else if g.owner b=some (.slot u)then none else g.owner b }
 have qJ:g'.Pr=g.Pr:=rfl
 have cZ:∀b loc,loc≠.slot t->loc≠.slot u->g.owner b=some loc->g'.owner b=some loc:=by
  intro b loc h1 h2 h;show(if g.owner b=some (.slot t)then _ else if g.owner b=some (.slot u)then none else g.owner b)=_;rw[h,if_neg (by simpa using h1),if_neg (by simpa using h2)]
 have Er:∀b,g.owner b=none->g'.owner b=none:=by
  intro b h;show(if g.owner b=some (.slot t)then _ else if g.owner b=some (.slot u)then none else g.owner b)=_;rw[h];simp
 have SI:∀{loc:Loc}{v:AV}{c:Value},loc≠.slot t->loc≠.slot u->eQ P w g loc v c->eQ P w g' loc v c:=λh1 h2 h=>h.aU rfl λb hb=>⟨rfl,rfl,cZ b _ h1 h2 hb⟩
 have eJ:=R.slot t ht id;have hot:=R.own t ht id;rw[hS]at eJ hot;refine⟨g',rfl,{ size:=R.size,defers:=R.defers,facts:=R.facts,slot:=?_,own:=?_,box:=?_,jU:=R.jU,jR:=R.jR,inj:=R.inj,base:=R.base,below:=R.below,fresh:=λb hb=>⟨(R.fresh b hb).1,Er b (R.fresh b hb).2⟩,still:=R.still,grown:=R.grown,kept:=λb o h=>let⟨k1,k2,k3,k4,k5⟩:=R.kept b o h;⟨k1,k2,k3,Er b k4,k5⟩ }⟩
 .intro x hx _;show RV g.Pr g.al w _ _
  by_cases P0:x=u
  .subst P0;rw[aO,hv];exact eJ
  .rw[aT _ _ P0]
   by_cases P5:x=t
   .subst P5;rw[aO];exact .data _ _ (eJ.dX rfl).aI
   .rw[aT _ _ P5];exact R.slot x hx id
 .intro x hx _
  by_cases P0:x=u
  .subst P0;rw[aO,hv];obtain⟨i,xs,b,k1,k2,k3,k4,k5⟩:=hot;refine⟨i,xs,b,k1,k2,k3,?_,k5⟩;show(if g.owner b=some (.slot t)then _ else _)=_;rw[if_pos k4]
  .rw[aT _ _ P0]
   by_cases P5:x=t
   .subst P5;rw[aO];trivial
   .rw[aT _ _ P5];exact SI (by simpa using P5) (by simpa using P0) (R.own x hx id)
 .intro i b hi;obtain⟨cs,vs,ty,h1,h2,h3,h4,h5,h6,h7,h8,h9⟩:=R.box i b hi;exact⟨cs,vs,ty,h1,h2,h3,h4,Er b h5,h6,h7,λj hj dZ=>SI ahB ahB (h8 j hj dZ),h9⟩
def FI (R:Rel P w0 n bP g S H a w) (hp:g.old.c=cc∧g.old.ds=[]∧∀ d,¬ g.old.bx d) {i:TypeInfo} (hi:P.info? e=some i) {old:Nat→Nat→Prop} {en:Ending} {w':World} (bV:ke i.size es) (h:Ends P old w (.ret (.slice (.own e) es)) en w') :
  ∃v g',en=.returned v/\Rel P w0 n bP g' S H a w'/\KO cc e i.size es g'.old v:=by
 obtain⟨hb,du,_,c,rfl,hv,i',xs,b,k1,k2,k3,_⟩:=h;rw[hi]at k1;cases k1
 have hf:=jo.NL (hv.dX rfl) k2 (λx hx=>⟨(bV x hx).2.1,(bV x hx).1,λc hc=>Gr ((bV x hx).2.2 c hc)⟩) (λx hx c hc=>by
  have:=(bV x hx).2.2 c hc
  cases c<;>first|rfl|cases this)
 have qU:xs=oC es:=by
  apply ae5;intro m
  by_cases hm:m<es.length*i.size
  case neg=>rw[ad3 (by rw[k2.1];omega),ad3 (by rw[sI bV];omega)]
  have Vh:0<i.size:=by
   rcases afy i.size with h|h
   .rw[h,Nat.mul_zero]at hm;omega
   .exact h
  obtain⟨q,r,hr,rfl⟩:∃q r,r<i.size/\m=q*i.size+r:=⟨m/i.size,m % i.size,af3 _ Vh,by rw[afs];exact(agD m i.size).symm⟩
  have hq:q<es.length:=by
   rcases ae6 q es.length with h|h
   .exact h
   .have:=ae0 i.size h;omega
  have hl:=(bV _ (adC hq)).2.1;obtain⟨u,u1,u2⟩:=hf.2 q hq r (by rw[hl];exact hr);rw[u1,qp bV hq (by rw[hl];exact hr),u2.zF ((bV _ (adC hq)).2.2 _ (adC _))]
 rw[qU]at k2;obtain⟨g',R',hK⟩:=R.C7 hp hb bV k2;exact⟨c,g',rfl,R',hK⟩
end
section
variable{P:Program}{w0:World}{n:Nat}{g:Gh}{S:an}{H:ao}{a:Act}{w:World}{cc:Nat->Nat->Prop}{e:TypeId}
def KO.make(R:Rel P w0 n bP g S H a w)(hp:g.old.c=cc/\g.old.ds=[]/\∀d,¬g.old.bx d){m:Nat}(hm:m<=1000):∃g',Rel P w0 n bP g' S H a (w.alloc (.cells (madeCells #[.int .i64 0] m) e))/\KO cc e 1 (List.replicate m (.int .i64 0)) g'.old (.slice (some ⟨w.heap.size,0,none⟩) m m):=by
 refine R.C7 hp (Below.alloc (aeC _ _) (adF _) _) (λx hx=>?_) ⟨?_,.inr ⟨w.heap.size,m,madeCells #[.int .i64 0] m,ahB,adF _,(by show(w.heap.push _)[w.heap.size]?=_;simp),ahB,by simp[maxLen];omega,by simp[size_madeCells],?_⟩⟩
 .rw[List.mem_replicate]at hx;rw[hx.2];exact⟨rfl,rfl,λc hc=>by simp[AV.cells]at hc;subst hc;rfl⟩
 .simp[oC,AV.cells]
 .have hc:(madeCells #[Value.int .i64 0] m).toList=List.replicate m (.int .i64 0):=by
   apply agx
   .simp[size_madeCells]
   .intro j h1 h2;simp[madeCells,Nat.mod_one]
  have hr:∀k,oC (List.replicate k (AV.int .i64 0))=List.replicate k (.int .i64 0):=by
   intro k
   induction k with
   |zero=>rfl
   |succ k ih=>rw[List.replicate_succ,List.replicate_succ,<-ih];rfl
  rw[hc,hr,List.length_replicate,afk,adI ahB]
end
def Ku {P:Program} {w:World} {base:Nat} {t ty e:TypeId} {i:TypeInfo} {z:Value} (ht:P.underlying t=some (.slice e)) (hi:P.info? e=some i) (hz:i.zero=some z) (pY:z.cells.size=i.size) (hs:i.size=1) (E1:i.bytes≤65536)
  {u:Value} {n:Nat} {xs:List Value} (cZ:w.ownsRow base e 1 u n xs) (hlen:n+1<=2097152) (gP:base<=w.heap.size) {ad:Addr} {cap:Nat} {c:Value} (hc:w.cell? ad=some c) (h1:c.oneCell'=true):
  ∃u' w' b',(Builtin.append_ #[t,t] ty #[u,.slice (some ad) 1 cap]).run P w=.ok u' w'/\w'.ownsRow base e 1 u' (n+1) (xs++[c])/\u'.ownBlock=some b'/\l8 (λb=>u.ownBlock=some b) w w'/\(u.ownBlock=some b'\/w.heap.size<=b'):=by
 have bytes:∀m,m<=2097152->m*i.bytes<=140737488355328:=λm hm=>aeL (agT hm E1) zd
 have hn1:∀j x,[c][j]?=some x->w.cell? (ad.add j)=some x:=λj x hx=>by
  match j,hx with
  |0,hx=>cases hx;rw[show ad.add 0=ad by simp[Addr.add]];exact hc
 have Ai:∀x∈[c],x.oneCell'=true:=λx hx=>by simp at hx;subst hx;exact h1
 rcases cZ.2 with⟨hu,hn⟩|⟨g,adl,cur,hv,r_,hg,rest⟩
 .subst hn;have hx:xs=[]:=aem (by have:=cZ.1;simpa using this);subst hx;obtain⟨v',w',r1,r2,r3,r4,r5⟩:=sX (P:=P) (w:=w) base t ty e i z ht hi hz pY none ad 1 cap [c] (by rw[hs];rfl) hn1 zo zo (bytes _ zo) gP;rw[hs]at r2;rw[hu];exact⟨v',w',_,r1,by simpa using r2,r3,⟨r4.os,r4.tape,r4.output,r4.size,λk hk _=>r4.block k hk ahB⟩,.inr (adF _)⟩
 .have Lw:u.ownBlock=some g:=by rw[hv];rfl
  obtain⟨v',w',b',r1,r2,r3,r4⟩:=rK (P:=P) (w:=w) base t ty e i z ht hi hz pY u n xs g (by rw[hs];exact cZ) Lw ad 1 cap [c] (by rw[hs];rfl) hn1 Ai hlen (bytes _ hlen) gP;rw[hs]at r2
  rcases r4 with⟨rfl,iH⟩|⟨rfl,iH,bl⟩
  .exact⟨v',w',_,r1,r2,r3,⟨iH.os,iH.tape,iH.output,iH.size,λk hk hm=>iH.block k hk (λe=>hm (by rw[Lw];exact e.symm))⟩,.inl Lw⟩
  .exact⟨v',w',_,r1,r2,r3,⟨iH.os,iH.tape,iH.output,iH.size,λk hk _=>iH.block k hk ahB⟩,.inr (adF _)⟩
section
variable{P:Program}{ro:Option Nat}{m:Nat}{Q:Exit->Act->World->Prop}{a:Act}{w:World}{K:Act->World->Prop}
def zJ {ops:Array Oper} {i:Nat} {o:Oper} (ho:ops[i]? = some o) (hg:o.guard=none) (dO:eK o.op=true) {v:Value} {w':World}
  (hr:(execOp a.eval o).run P w=.ok (.value v) w') (hk:K (a.put o.dst v) w'):wpOpIn (FR ro) m P ops Q i K a w:=by
 simp only[wpOpIn,ho]
 have:Region.wanted o (yielded ops a.tmps)=true:=by simp[Region.wanted,hg]
 rw[if_pos this];refine⟨λ_ _=>trivial,?_⟩;rw[ae_ _ _ _ (λc hc=>by rw[hc]at dO;cases dO),hr];exact hk
def QP {ops:Array Oper} {i:Nat} {o:Oper} (ho:ops[i]? = some o) (hg:o.guard=none) (dO:eK o.op=true) {w':World}
  (hr:(execOp a.eval o).run P w=.ok .skip w') (hk:K (a.put o.dst undef) w'):wpOpIn (FR ro) m P ops Q i K a w:=by
 simp only[wpOpIn,ho]
 have:Region.wanted o (yielded ops a.tmps)=true:=by simp[Region.wanted,hg]
 rw[if_pos this];refine⟨λ_ _=>trivial,?_⟩;rw[ae_ _ _ _ (λc hc=>by rw[hc]at dO;cases dO),hr];exact hk
def Ro {ops:Array Oper} {i:Nat} {o:Oper} (ho:ops[i]? = some o) (hg:o.guard=none) (dO:eK o.op=true) {f:Nat} {args:Array Value} {w':World}
  (hr:(execOp a.eval o).run P w=.ok (.enter f args) w') {R:Ending->World->Prop} (hc:Calls P f args w' R) (hk:∀e jv,R e jv->∃v,e=.returned v/\K (a.put o.dst v) jv):wpOpIn (FR ro) m P ops Q i K a w:=by
 simp only[wpOpIn,ho]
 have:Region.wanted o (yielded ops a.tmps)=true:=by simp[Region.wanted,hg]
 rw[if_pos this];refine⟨λ_ _=>trivial,?_⟩;rw[ae_ _ _ _ (λc hc=>by rw[hc]at dO;cases dO),hr];refine⟨λh=>by simp[FR,Fence.wide]at h,iV.2 (hc.mono λe jv hh=>?_)⟩;obtain⟨v,rfl,h⟩:=hk e jv hh;exact h
def sO{F:Fence}{ops:Array Oper}{l:Array Bool}{i fuel:Nat}(hr:Region.ready .any ops l=[i])(h:wpOpIn F m P ops Q i (wpAnyIn F m P .any ops Q fuel (l.setIfInBounds i true)) a w):wpAnyIn F m P .any ops Q (fuel+1) l a w:=by
 refine⟨λh=>(by rw[hr]at h;cases h),λj hj=>?_⟩;rw[hr]at hj
 obtain rfl:j=i:=by simpa using hj
 exact h
def CZ{F:Fence}{ops:Array Oper}{l:Array Bool}{i j fuel:Nat}(hr:Region.ready .any ops l=[i,j])(h:wpOpIn F m P ops Q i (wpAnyIn F m P .any ops Q fuel (l.setIfInBounds i true)) a w)(h':wpOpIn F m P ops Q j (wpAnyIn F m P .any ops Q fuel (l.setIfInBounds j true)) a w):wpAnyIn F m P .any ops Q (fuel+1) l a w:=by
 refine⟨λh=>(by rw[hr]at h;cases h),λk hk=>?_⟩;rw[hr]at hk;rcases ad_.1 hk with rfl|hk
 .exact h
 .obtain rfl:k=j:=by simpa using hk
  exact h'
def QY{c:Value}(h:c.oneCell'=true):c.cells=#[c]:=by cases c<;>first|rfl|cases h
def JL {o:Oper} {t e:TypeId} {ie:TypeInfo} {z:Value} {x:Operand} {c:Value} (ho:o.op = .buildSlice t 1 #[(0,x)]) (hu:P.underlying t=some (.slice e)) (IK:P.info? e=some ie) (hz:ie.zero=some z) (hs:ie.size=1) (hc:a.eval x=c) (h1:c.oneCell'=true) :
  (execOp a.eval o).run P w=.ok (.value (.slice (some ⟨w.heap.size,0,none⟩) 1 1)) (w.alloc (.cells #[c] e)):=by
 have hr:=run_buildSlice (P:=P) w t e 1 #[(0,c)] #[c] ie z hu IK hz (by rw[hs];decide) (by rw[hs];decide) (by
  rw[hs];simp[Instr.fill,QY h1];generalize hA:Array.map (λx=>z.cells[x % z.cells.size]!) (Array.range 1)=A
  have bl:A.size=1:=by rw[<-hA];simp
  apply afc
  .simp[bl]
  .intro i hi du
   obtain rfl:i=0:=by simp at du;omega
   simp[bl])
 unfold execOp;simp[ho,hc,hr]
def AO(w w':World)(es:List AV)(c:Value):Prop:=∃hi:Nat->Nat,RD (λb j=>(w.heap.size<=b/\b<w'.heap.size)/\j<hi b) w' (.slice .view es) c
def AO.grow{w w' w2:World}{es:List AV}{c:Value}(h:AO w w' es c)(hb:Below w'.heap.size w' w2):AO w w2 es c:=by
 obtain⟨hi,hr⟩:=h;refine⟨hi,hr.mono (bg.of_eq λb k hp=>⟨⟨⟨hp.1.1,aet hp.1.2 hb.size⟩,hp.2⟩,hb.block b hp.1.2⟩)⟩
def Ll {old:Nat→Nat→Prop} {e:TypeId} {i:TypeInfo} {es:List AV} {en:Ending} {w':World} (hi:P.info? e=some i)
  (nB:∀x∈es,x.cells.length=i.size/\x.storable=true/\∀c∈x.cells,c.one=true) (DA:∀x∈es,∀c∈x.cells,iF c=true)
  (h:Ends P old w (.ret (.slice (if es.isEmpty then .nil else .own e) es)) en w'):Below w.heap.size w w'/\∃c,en=.returned c/\AO w w' es c:=by
 obtain⟨hb,hf,_,c,rfl,hv,ho⟩:=h;refine⟨hb,c,rfl,hf,?_⟩;have hv:=hv.dX rfl
 cases es with
 |nil=>exact hv.CJ
 |cons x es=>
  simp only[List.isEmpty_cons,adM,ad1]at hv ho;obtain⟨i',xs,b,k1,k2,k3,k4⟩:=ho;rw[hi]at k1;cases k1;have oG:=jo.NL hv k2 nB DA
  refine RD.ofRow k2 (oG.mono (bg.same λ_ _ _ h=>h.elim)) λb' il k hk=>?_
  rw[k3]at il;cases il;exact⟨k2.lt b k3,by rw[k4];exact hk⟩
end
section
variable{P:Program}{GI:World->Prop}{n m:Nat}{Q:Exit->Act->World->Prop}
def SW.Qf (hG:ar GI) (hm:P.follows .mixedOrders=true) {ro:Option Nat} {old:Old} {Q:fa} {S:an} {H:ao} {ops:Array Oper} {id p:Nat} (GS:Im ops p=true) (dO:(ops.extract 0 p).all (fun o=>eK o.op)=true) (bV:LU P n (ops.extract 0 p)=true) (bK:∀ d,¬ old.bx d)
  {l:List bI} (hl:bh P n true (ops.extract 0 p)=l) (kV:(ops.extract 0 p).size=p) {K:an->ao->Prop} (h:cV P GI l K (eP l S) (dW l H))
  (hand:∀w0 g S1 H1 a w m,GI w0->g.old=old->Rel P w0 n bP g S1 H1 a w->K S1 H1->wpOpsIn (FR ro) m P ops (QS P w0 n Q) (List.range' p (ops.size-p)) a w):SW P GI n ro (.region id ops true) Q old S H:=by
 subst hl;intro w0 g a w m cm ho R;refine MD hm GS ?_;have key:=l6 (ro:=ro) (m:=m) hG cm hm (old:=old) (ops:=ops.extract 0 p) (Q:=aN K) dO bV (λ_ _ d _=>bK d) ho R h;rw[kV]at key;refine fL ?_ _ _ _ _ key;intro e a' w' hq
 cases e with
 |normal=>
  obtain⟨g',S',H',h1,h2,h3⟩:=hq;exact hand w0 g' S' H' a' w' m cm h1 h2 h3
 |exit id=>obtain⟨_,_,_,_,_,h⟩:=hq;exact h.elim
 |ret=>obtain⟨_,_,_,_,_,h⟩:=hq;exact h.elim
 |panic ch=>obtain⟨_,_,_,_,_,_,_,_,_,_,h⟩:=hq;exact h.elim
 |goto l=>exact hq.elim
 |outgrown=>exact hq.elim
end
end Go.AL
