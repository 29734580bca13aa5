/- A part of the proof. -/
import Derived.Test.YtajdcjkalbbogaaGreatDoorY1
import Derived.Test.YtajdcjkalbbogaaGreatDoorProg
set_option maxRecDepth 100000
set_option maxHeartbeats 8000000
set_option linter.all false
namespace Go.AL
open Go.RowKit
inductive ah where
 |skip
 |ops (l:List bH)
 |cU (l:List bH)
 |seq (x y:ah)
 |cond (c:cT) (x y:ah)
 |block (id:Nat) (c:ah)
 |loop (c:ah)
 |exit (id:Nat)
 |ret
 |bad
def dw(P:Program)(n:Nat):Code->ah
 |.skip=>.skip
 |.region _ ops draw=>
  if draw then(if LP P n ops then .cU (bh P n true ops)else .bad)
  else(if(bh P n false ops).all (·.ok n)then .ops (bh P n false ops)else .bad)
 |.seq x y=>.seq (dw P n x) (dw P n y)
 |.cond c x y=>match du n c with
  |some c=>.cond c (dw P n x) (dw P n y)
  |none=>.bad
 |.block id c=>.block id (dw P n c)
 |.loop c=>.loop (dw P n c)
 |.exit id=>.exit id
 |.ret=>.ret
 |_=>.bad
def dk(K:an->ao->Prop)(Q:dT->an->ao->Prop):dT->an->ao->Prop
 |.normal,S,H=>K S H
 |.exit id,S,H=>Q (.exit id) S H
 |.ret,S,H=>Q .ret S H
 |.panic v,S,H=>Q (.panic v) S H
def dP(id:Nat)(Q:dT->an->ao->Prop):dT->an->ao->Prop
 |.normal,S,H=>Q .normal S H
 |.exit j,S,H=>if j=id then Q .normal S H else Q (.exit j) S H
 |.ret,S,H=>Q .ret S H
 |.panic v,S,H=>Q (.panic v) S H
def ah.names:ah->List Nat
 |.ops l=>l.flatMap bH.jy
 |.cU l=>l.flatMap bH.jy
 |.seq x y=>x.names++y.names
 |.cond _ x y=>x.names++y.names
 |.block _ c=>c.names
 |.loop c=>c.names
 |_=>[]
def bD(P:Program)(GI:World->Prop):ah->(dT->an->ao->Prop)->an->ao->Prop
 |.skip,Q,S,H=>Q .normal S H
 |.ops l,Q,S,H=>bp P GI l (Q .normal) (λv=>Q (.panic v) S H) S H
 |.cU l,Q,S,H=>cU P GI l (Q .normal) (eM l S) (dV l H)
 |.seq x y,Q,S,H=>bD P GI x (dk (bD P GI y Q) Q) S H
 |.cond c x y,Q,S,H=>match ev S c with
  |.bool true=>bD P GI x Q S H
  |.bool false=>bD P GI y Q S H
  |.l4=>bD P GI x Q S H/\bD P GI y Q S H
  |_=>False
 |.block id c,Q,S,H=>bD P GI c (dP id Q) S H
 |.loop c,Q,S,H=>∃(I:an->ao->Prop)(μ:an->ao->Nat),I S H/\∀S H,I S H->bD P GI c (dk (λS' H'=>I S' H'/\μ S' H'<μ S H) Q) S H
 |.exit id,Q,S,H=>Q (.exit id) S H
 |.ret,Q,S,H=>Q .ret S H
 |.bad,_,_,_=>False
section
variable{P:Program}{GI:World->Prop}{w0:World}{n:Nat}{g:Gh}{S:an}{H:ao}{a:Act}{w:World}
def Ir {c:Code} {Q:Exit→Act→World→Prop} (J:Nat→Act→World→Prop)
  (round:∀m a w,J m a w->c.wp P (Exit.then (λa' w'=>∃m',m'<m/\J m' a' w') Q) a w) {m:Nat} (h0:J m a w):(Code.loop c).wp P Q a w:=by
 intro b k cs
 have key:∀m a w,J m a w->∃e a' w',Q e a' w'/\Arrives P (lone (b.at a (.code c::.inLoop c::k)) cs w) b k cs e a' w':=by
  intro m
  induction m using Nat.strongRecOn with
  |_ m ih=>
   intro a w hJ;obtain⟨e,jw,lz,hq,h_⟩:=round m a w hJ b (.inLoop c::k) cs
   cases e with
   |normal=>
    obtain⟨m',aq,hJ'⟩:=hq;obtain⟨CM,DN,CP,ye,qv⟩:=ih m' aq jw lz hJ';exact⟨CM,DN,CP,ye,.of_steps (Steps.trans h_ (.one step_inLoop)) qv⟩
   |exit id=>exact⟨_,jw,lz,hq,.pass (x:=.inLoop c) rfl (λ_ _=>.inl ahi) h_⟩
   |goto l=>exact⟨_,jw,lz,hq,.pass (x:=.inLoop c) rfl (λ_ _=>.inl ahi) h_⟩
   |ret=>exact⟨_,jw,lz,hq,.pass (x:=.inLoop c) rfl (λ_ _=>.inl ahi) h_⟩
   |panic ch=>exact⟨_,jw,lz,hq,.pass (x:=.inLoop c) rfl (λ_ _=>.inl ahi) h_⟩
   |outgrown=>exact⟨_,jw,lz,hq,.pass (x:=.inLoop c) rfl (λ_ _=>.inl ahi) h_⟩
 obtain⟨e,a',w',hq,h_⟩:=key _ _ _ h0;exact⟨e,a',w',hq,.of_steps (.one step_loop) h_⟩
def mI (hG:ar GI) (cq:GI w0) (hm:P.follows .mixedOrders=true) {old:Old} :
  ∀(c:Code)(Q:dT->an->ao->Prop)(g:Gh)(S:an)(H:ao)(a:Act)(w:World),(∀d∈(dw P n c).names,¬old.bx d)->g.old=old->Rel P w0 n bL g S H a w->bD P GI (dw P n c) Q S H->c.wp P (QQ P w0 n old Q) a w
 |.skip,Q,g,S,H,a,w,bW,ho,R,h=>wp_skip ⟨g,S,H,ho,R,h⟩
 |.region id ops draw,Q,g,S,H,a,w,bW,ho,R,h=>by
  simp only[dw]at h bW
  cases draw with
  |true=>
   simp only[adS]at h bW;split at h
   case isFalse=>exact h.elim
   rename_i bX;rw[if_pos bX]at bW;exact JT hG cq hm bX (λo kv d hd=>bW d (adX.2 ⟨o,kv,hd⟩)) ho R h
  |false=>
   simp only[ads,adH]at h bW;split at h
   case isFalse=>exact h.elim
   rename_i bX;rw[if_pos bX]at bW;exact NN hG cq bX (λo kv d hd=>bW d (adX.2 ⟨o,kv,hd⟩)) ho R h
 |.seq x y,Q,g,S,H,a,w,bW,ho,R,h=>by
  refine wp_seq (agK (mI hG cq hm x _ g S H a w (λd hd=>bW d (by simp[dw,ah.names,hd])) ho R h) ?_);intro e a' w' he
  cases e with
  |normal=>
   obtain⟨g',S',H',h1,h2,h3⟩:=he;exact mI hG cq hm y Q g' S' H' a' w' (λd hd=>bW d (by simp[dw,ah.names,hd])) h1 h2 h3
  |exit id=>exact he
  |ret=>exact he
  |panic ch=>exact he
  |goto l=>exact he.elim
  |outgrown=>exact he.elim
 |.cond c x y,Q,g,S,H,a,w,bW,ho,R,h=>by
  simp only[dw]at h;split at h
  case h_2=>exact h.elim
  rename_i c' hc;simp only[dw,hc,ah.names,adm]at bW;simp only[bD]at h;have hv:=R.ev hc (λ_ _=>id);split at h
  .rename_i hb;rw[hb]at hv
   have:a.eval c=.bool true:=by
    generalize a.eval c=v at hv;cases hv;rename_i hv;cases hv;rfl
   exact wp_cond this (mI hG cq hm x Q g S H a w (λd hd=>bW d (.inl hd)) ho R h)
  .rename_i hb;rw[hb]at hv
   have:a.eval c=.bool false:=by
    generalize a.eval c=v at hv;cases hv;rename_i hv;cases hv;rfl
   exact wp_cond this (mI hG cq hm y Q g S H a w (λd hd=>bW d (.inr hd)) ho R h)
  .rename_i hb;rw[hb]at hv
   have:∃b,a.eval c=.bool b:=by
    generalize a.eval c=v at hv;cases hv;rename_i hv;cases hv;exact⟨_,rfl⟩
   obtain⟨b,hb⟩:=this
   cases b with
   |true=>exact wp_cond hb (mI hG cq hm x Q g S H a w (λd hd=>bW d (.inl hd)) ho R h.1)
   |false=>exact wp_cond hb (mI hG cq hm y Q g S H a w (λd hd=>bW d (.inr hd)) ho R h.2)
  .exact h.elim
 |.block id c,Q,g,S,H,a,w,bW,ho,R,h=>by
  refine wp_block (agK (mI hG cq hm c _ g S H a w (λd hd=>bW d (by simpa[dw,ah.names]using hd)) ho R h) ?_);intro e a' w' he
  cases e with
  |normal=>exact he
  |exit j=>
   obtain⟨g',S',H',h1,h2,h3⟩:=he;simp only[dP]at h3;simp only[Exit.inBlock];split
   .rename_i hj;rw[if_pos hj]at h3;exact⟨g',S',H',h1,h2,h3⟩
   .rename_i hj;rw[if_neg hj]at h3;exact⟨g',S',H',h1,h2,h3⟩
  |ret=>exact he
  |panic ch=>exact he
  |goto l=>exact he.elim
  |outgrown=>exact he.elim
 |.loop c,Q,g,S,H,a,w,bW,ho,R,h=>by
  obtain⟨I,μ,h0,hr⟩:=h;refine Ir (λm a w=>∃g S H,g.old=old/\Rel P w0 n bL g S H a w/\I S H/\μ S H=m) ?_ (m:=μ S H) ⟨g,S,H,ho,R,h0,rfl⟩;rintro m a' w' ⟨g',S',H',h1,h2,h3,rfl⟩;refine agK (mI hG cq hm c _ g' S' H' a' w' (λd hd=>bW d (by simpa[dw,ah.names]using hd)) h1 h2 (hr S' H' h3)) ?_;intro e XS ju he
  cases e with
  |normal=>
   obtain⟨g2,S2,H2,k1,k2,k3,k4⟩:=he;exact⟨_,k4,g2,S2,H2,k1,k2,k3,rfl⟩
  |exit id=>exact he
  |ret=>exact he
  |panic ch=>exact he
  |goto l=>exact he.elim
  |outgrown=>exact he.elim
 |.exit id,Q,g,S,H,a,w,bW,ho,R,h=>wp_exit ⟨g,S,H,ho,R,h⟩
 |.ret,Q,g,S,H,a,w,bW,ho,R,h=>wp_ret ⟨g,S,H,ho,R,h⟩
 |.rangeFunc ..,_,_,_,_,_,_,_,_,_,h=>h.elim
 |.scope _,_,_,_,_,_,_,_,_,_,h=>h.elim
 |.label _,_,_,_,_,_,_,_,_,_,h=>h.elim
 |.goto _,_,_,_,_,_,_,_,_,_,h=>h.elim
 |.refuse _,_,_,_,_,_,_,_,_,_,h=>h.elim
def AV.out:AV->AV
 |.agg cs=>.agg (cs.map cI)
 |v=>v
def de(P:Program)(n:Nat)(S:an)(H:ao):ResultVar->Option AV
 |.tmp t=>if t<n/\(S t).cg=true then some (S t)else none
 |.cell a t=>if a < n then
   match S a with
   |.box i off=>match H i,P.info? t,P.underlying t with
    |some cs,some it,some d=>cb (ef d) it.size (cs.drop off)
    |_,_,_=>none
   |_=>none
  else none
def dc(P:Program)(n:Nat)(S:an)(H:ao):List ResultVar->Option (List AV)
 |[]=>some []
 |r::rs=>match de P n S H r,dc P n S H rs with
  |some v,some vs=>some (v::vs)
  |_,_=>none
def cM(P:Program)(n:Nat)(rs:List ResultVar)(S:an)(H:ao):Option AV:=
 match dc P n S H rs with
 |some [v]=>some v.out
 |some vs=>some (.dR (vs.map AV.vw))
 |none=>none
def Jw(a:Act):ResultVar->Sem Value
 |.tmp t=>pure (a.tmps.getD t undef)
 |.cell x t=>do loadVar t (<-asAddr (a.tmps.getD x undef))
def Iv (R:Rel P w0 n bL g S H a w) {r:ResultVar} {v:AV} (h:de P n S H r=some v) :
  ∃c,(Jw a r).run P w=.ok c w/\RD g.Pr w v c/\yl P g.base g.hi w v c:=by
 cases r with
 |tmp t=>
  simp only[de]at h
  split at h<;>cases h
  rename_i hc;refine⟨a.tmps.getD t undef,rfl,(R.slot t hc.1 id).dW hc.2,?_⟩;have ho:=R.own t hc.1 id;generalize S t=v at ho;generalize a.tmps.getD t undef=c at ho
  cases v<;>try trivial
  rename_i oo es
  cases oo with
  |view=>trivial
  |nil=>trivial
  |own e=>
   obtain⟨i,xs,b,h1,h2,h3,h4,h5⟩:=ho;exact⟨i,xs,b,h1,h2,h3,h5⟩
 |cell x t=>
  simp only[de]at h;split at h
  case isFalse=>cases h
  rename_i hx;have hs:=R.slot x hx id;generalize S x=q at h hs;generalize mz:a.tmps.getD x undef=cx at hs
  cases hs<;>(try cases h;done)
  case data hh=>cases hh<;>cases h
  rename_i i off b jC;obtain⟨cs,vs,BX,k1,k2,k3,k4,k5,k6,k7,k8,k9⟩:=R.box i b jC;simp only[k1]at h;split at h
  case h_2=>cases h
  rename_i fU it d rW hit hd;cases rW
  obtain ⟨c,h1,h2,h3⟩:=tg (Pr:=g.Pr) (al:=g.al) (P:=P) (w:=w) (b:=b) (off:=off) hit hd (vs:=fun k=>vs.getD (off+k) undef) (fun k hk=>by
    simp only[ad0]at hk
    have:off+k<vs.size:=zo
    simp[World.cell?,k3,this]) (λk hk=>by
    simp only[ad0]at hk;simp only[aeG]
    exact k9 (off+k) zo) (λk hk=>by
    simp only[ad0]at hk;simp only[aeG];have hh:=k7 (off+k) zo zo
    have:off+k<vs.size:=zo
    simpa[this]using hh) h
  refine⟨c,by simp only[Jw,mz,asAddr,adq,Sem.run_pure,Result.andThen_ok,h1],h2,?_⟩;rw[<-h3]
  cases v<;>try trivial
  rename_i oo es
  cases oo<;>trivial
def tI (R:Rel P w0 n bL g S H a w):∀ {rs:List ResultVar} {vs:List AV},dc P n S H rs=some vs →
  ∃cs:List Value,(rs.mapM (Jw a)).run P w=Result.ok cs w/\vs.length=cs.length/\
   ∀i (h:i<vs.length)(h':i<cs.length),RD g.Pr w vs[i] cs[i]/\yl P g.base g.hi w vs[i] cs[i]
 |[],vs,h=>by cases h;exact⟨[],ahi,rfl,λi h=>by simp at h⟩
 |r::rs,vs,h=>by
  simp only[dc]at h
  split at h<;>cases h
  rename_i v ll h1 h2;obtain⟨c,r1,r2,r3⟩:=Iv R h1;obtain⟨cs,q1,q2,q3⟩:=tI R h2;refine⟨c::cs,?_,by simp[q2],λi hi dv=>?_⟩
  .simp[List.mapM_cons,r1,q1]
  .cases i with
   |zero=>exact⟨r2,r3⟩
   |succ i=>exact q3 i (by simpa using hi) (by simpa using dv)
def vj (R:Rel P w0 n bL g S H a w) {fn:Func} {v:AV} (h:cM P n fn.results.toList S H=some v) :
  ∃c,(results fn a.tmps).run P w=.ok c w/\RD g.Pr w v c/\yl P g.base g.hi w v c:=by
 unfold cM at h
 have dz:∀ cs:List Value,(fn.results.toList.mapM (Jw a)).run P w=Result.ok cs w →
   (results fn a.tmps).run P w=.ok (if h:cs.toArray.size=1 then cs.toArray[0]else .tuple cs.toArray) w:=by
  intro cs rW;unfold results;rw[Array.mapM_eq_mapM_toList]
  have e:(fn.results.toList.mapM λr=>match r with|.tmp t=>(pure (a.tmps.getD t undef):Sem Value)|.cell x t=>do loadVar t (<-asAddr (a.tmps.getD x undef)))=fn.results.toList.mapM (Jw a):=by
   congr 1
  simp only[adq,Sem.run_map]
  erw[e]
  rw[rW]
  rfl
 split at h
 .rename_i v' hv;cases h;obtain⟨cs,q1,q2,q3⟩:=tI R hv
  match cs,q2 with
  |[c],_=>
   have h1:=(q3 0 ahi ahi).1;have h2:=(q3 0 ahi ahi).2;simp only[List.getElem_cons_zero]at h1 h2;refine⟨c,by rw[dz _ q1];rfl,?_,?_⟩
   .cases v'<;>first|exact h1|exact h1.vw
   .cases v'<;>first|exact h2|trivial
 .rename_i vs cP xy;cases h;obtain⟨cs,q1,q2,q3⟩:=tI R xy;refine⟨.tuple cs.toArray,?_,.dR _ _ (by simp[q2]) (λi h h'=>?_),trivial⟩
  .rw[dz _ q1,dif_neg];intro hl
   have:vs.length=1:=by rw[q2];simpa using hl
   match vs,this with
   |[v],_=>exact cP v rfl
  .simp only[adn]at h;simp only[adz,List.getElem_toArray];exact(q3 i h (by simpa using h')).1.vw
 .cases h
def post(P:Program)(n:Nat)(rs:List ResultVar)(out:iJ):dT->an->ao->Prop
 |.normal,S,H|.ret,S,H=>∃v,cM P n rs S H=some v/\out=.ret v
 |.panic v,_,_=>out=.panic v
 |_,_,_=>False
def start(args:List AV):an:=λt=>(args.getD t cz).aJ
def AC.Tj (hG:ar GI) (hm:P.follows .mixedOrders=true) {f:Nat} {fn:Func} {c:Code} {args:List AV} {out:iJ} (hf:P.funcs[f]? = some fn) (hb:fn.body=some c) (hn:fn.ntmps=n) (hl:args.length≤n) {ac:ah} (hc:dw P n c=ac)
  (h:bD P GI ac (post P n fn.results.toList out) (start args) (λ_=>none)):AC P GI f args out:=by
 intro w old bP gj hlen hr;refine afo hf hb ?_;subst hc
 let g:Gh:={ base:=w.heap.size,old:=Old.plain old w,al:=λ_=>none,hi:=λ_=>0,owner:=λ_=>none }
 have bj:(bP++Array.replicate (fn.ntmps-bP.size) undef).size=n:=by simp;omega
 have R:Rel P w n bL g (start args) (λ_=>none) { tmps:=bP++Array.replicate (fn.ntmps-bP.size) undef,defers:=[] } w:=by
  refine{ size:=bj,defers:=rfl,facts:=λ_ h=>(by cases h),slot:=?_,own:=?_,box:=?_,jQ:=?_,jX:=?_,inj:=?_,base:=rfl,below:=aej _ _,fresh:=λb _=>⟨rfl,rfl⟩,still:=⟨λ_ _ h=>h.elim,λ_ h=>h.elim⟩,grown:=adl _,kept:=λ_ _ h=>(by cases h) }
  .intro t ht _
   by_cases N0:t<args.length
   .have h1:start args t=args[t].aJ:=by simp[start,N0]
    have h2:(bP++Array.replicate (fn.ntmps-bP.size) undef).getD t undef=bP[t]' zo:=by
     have:t<bP.size:=zo
     simp[afg,this]
    rw[h1,h2];refine((hr t N0 zo).mono (bf.same λb k aq hp=>.inl ⟨aq,hp⟩) (λ_ _ h=>h)).aJ
   .have h1:start args t=cz:=by simp[start,N0,cz,AV.aJ]
    have h2:(bP++Array.replicate (fn.ntmps-bP.size) undef).getD t undef=undef:=by
     have:¬t<bP.size:=zo
     simp only[adE,afg,this,adH]
     by_cases hh:t-bP.size<fn.ntmps-bP.size
     .simp[hh]
     .simp[hh]
    rw[h1,h2];exact .data _ _ (vg _ _)
  .intro t ht _;exact gW _ _ _
  .intro i b h;cases h
  .intro i cs h;cases h
  .intro i h;rfl
  .intro i j b h;cases h
 refine agK (mI hG gj hm c _ g _ _ _ w (λ_ _ h=>h) rfl R h) ?_;intro e a' w' he
 have fin:(∃ g' S H,g'.old=Old.plain old w∧Rel P w n bL g' S H a' w'∧∃ v,cM P n fn.results.toList S H=some v∧out = .ret v) →
   a'.defers=[]/\∃v,(results fn a'.tmps).run P w'=.ok v w'/\Ends P old w out (.returned v) w':=by
  rintro⟨g',S,H,e1,R',v,hv,rfl⟩;obtain⟨c,r1,r2,r3⟩:=vj R' hv;refine⟨by rw[R'.defers,e1];rfl,c,r1,?_,g'.hi,λb hb=>(R'.fresh b hb).1,c,rfl,?_,?_⟩
  .have:=R'.below;rwa [R'.base]at this
  .have:g'.Pr=pK w.heap.size old g'.hi:=by
    funext b k
    simp only[Gh.Pr,pK,R'.base,e1,Old.plain]
   rw[this]at r2;exact .data _ _ r2
  .rwa [R'.base]at r3
 cases e with
 |normal=>exact fin he
 |ret=>exact fin he
 |exit id=>obtain⟨_,_,_,_,_,h⟩:=he;exact h.elim
 |panic chain=>
  obtain⟨hd,v,c,hi,S,H,h1,h2,h3,h4,h5⟩:=he;subst h1;cases(show out=.panic v from h5);exact⟨hd,h2,hi,h3,c,rfl,h4⟩
 |goto l=>exact he.elim
 |outgrown=>exact he.elim
end
abbrev SL:=List AV
abbrev HL:=List (Option (List AV))
def gS(s:SL):an:=λt=>s.getD t cz
def gH(h:HL):ao:=λt=>h.getD t none
inductive Res where
 |go (s:SL) (h:HL)|panic (v:AV)
def Res.on(K:an->ao->Prop)(Qp:AV->Prop):Res->Prop
 |.go s h=>K (gS s) (gH h)
 |.panic v=>Qp v
abbrev DB:=Nat->List AV->Option iJ
def RM(P:Program)(call:DB)(f:Nat)(args:List AV)(bx:Bool):Option iJ:=
 if eb P f then match call f args with
  |some out=>if bx&&!out.wO then none else some out
  |none=>none
 else none
section
variable{P:Program}{GI:World->Prop}{call:DB}(mc:∀f args out,call f args=some out->AC P GI f args out)
include mc
end
def FR(ro:Option Nat):Fence:={ Fence.wide with round:=ro }
def iU{ro:Option Nat}{m:Nat}{P:Program}{f:FuncId}{args:Array Value}{w:World}{R:Ending->World->Prop}:CallsIn (FR ro) m P f args w R↔Calls P f args w R:=
 callsIn_wide (n:=m)
def Nr{ro:Option Nat}{m:Nat}{P:Program}{row:String}{args:Array Value}{w:World}{R:Value->World->Prop}(h:Rows P row args w R):RowsIn (FR ro) m P row args w R:=
 λc cs _=>let⟨v,w',r,s⟩:=h c cs;⟨v,w',r,stepsIn_wide.2 s⟩
def fo{m:Nat}{P:Program}{c:Code}{Q:Exit->Act->World->Prop}{a:Act}{w:World}:c.wpIn (FR none) m P Q a w↔c.wp P Q a w:=wpIn_wide (n:=m)
def eH:Op->Bool
 |.defer _=>false
 |_=>true
section
variable{P:Program}{Q:Exit->Act->World->Prop}{ro:Option Nat}{m:Nat}
def C8{o:Oper}{a:Act}{w:World}{K:Act->World->Prop}(dL:eH o.op=true)(h:o.wp P a w K Q):o.wpIn (FR ro) m P a w K Q:=by
 refine⟨λ_ _=>trivial,?_⟩;unfold Oper.wp at h;rw[aeM _ _ _ (λc hc=>by rw[hc]at dL;cases dL)]
 generalize(execOp a.eval o).run P w=r at*
 have hd:(FR ro).depth.isSome=true->1<=m:=λh=>by simp[FR,Fence.wide]at h
 cases r with
 |ok x w'=>
  cases x<;>simp only[Oper.upon,Oper.uponIn]at h⊢<;>first
   |exact h
   |exact⟨hd,iU.2 h⟩
   |exact⟨hd,Nr h⟩
 |halt x w'=>cases x<;>simp only[Oper.upon,Oper.uponIn]at h⊢<;>exact h
def p_{ops:Array Oper}(dL:ops.all (λo=>eH o.op)=true)(hQ:¬LetsOut Q):∀(l:List Nat)(a:Act)(w:World),wpOps P ops Q l a w->wpOpsIn (FR ro) m P ops Q l a w
 |[],_,_,h=>h
 |i::l,a,w,h=>by
  simp only[wpOps,wpOpsIn]at h⊢
  cases ho:ops[i]? with
  |none=>simp only[ho]at h⊢;exact p_ dL hQ l a w h
  |some o=>
   simp only[ho]at h⊢
   have hc:eH o.op=true:=by
    have:=aet.1 dL o (aen ho);exact this
   split
   .rename_i hw;simp only[hw,adS]at h
    rcases h with h|⟨_,h⟩
    .exact C8 hc (Oper.wp_mono (λa w hh=>p_ dL hQ l a w hh) h)
    .exact absurd h hQ
   .rename_i hw;simp only[hw,ads,adH]at h;exact⟨λ_ _=>trivial,p_ dL hQ l _ w h⟩
def Uj{ops:Array Oper}(dL:ops.all (λo=>eH o.op)=true)(hQ:¬LetsOut Q){i:Nat}{K:Act->World->Prop}{a:Act}{w:World}(h:wpOp P ops Q i K a w):wpOpIn (FR ro) m P ops Q i K a w:=by
 unfold wpOp at h;unfold wpOpIn
 cases ho:ops[i]? with
 |none=>simp only[ho]at h⊢;exact h
 |some o=>
  simp only[ho]at h⊢
  have hc:eH o.op=true:=by
   have:=aet.1 dL o (aen ho);exact this
  split
  .rename_i hw;simp only[hw,adS]at h
   rcases h with h|⟨_,h⟩
   .exact C8 hc h
   .exact absurd h hQ
  .rename_i hw;simp only[hw,ads,adH]at h;exact⟨λ_ _=>trivial,h⟩
def vJ{ops:Array Oper}{md:Region.Mode}(dL:ops.all (λo=>eH o.op)=true)(hQ:¬LetsOut Q):∀(fuel:Nat)(listed:Array Bool)(a:Act)(w:World),wpAny P md ops Q fuel listed a w->wpAnyIn (FR ro) m P md ops Q fuel listed a w
 |0,_,_,_,h=>h
 |fuel+1,listed,a,w,h=>⟨h.1,λi hi=>wpOpIn_mono (λa w hh=>vJ dL hQ fuel _ a w hh) (Uj dL hQ (h.2 i hi))⟩
def kY:Code->Bool
 |.region _ ops _=>ops.all λo=>eH o.op
 |.seq x y|.cond _ x y=>kY x&&kY y
 |.block _ c|.loop c=>kY c
 |_=>true
end
section
variable{P:Program}{GI:World->Prop}{w0:World}{n:Nat}{g:Gh}{S:an}{H:ao}{a:Act}{w:World}{ro:Option Nat}{m:Nat}
def qd{old:Old}{Q:dT->an->ao->Prop}:¬LetsOut (QQ P w0 n old Q):=λ⟨_,_,h⟩=>h
def rn (hG:ar GI) (cq:GI w0) {old:Old} {ops:Array Oper} {Q:dT→an→ao→Prop} (dL:ops.all (fun o=>eH o.op)=true) (bX:(bh P n false ops).all (·.ok n)=true) (bW:∀ o∈bh P n false ops,∀ d∈o.jy,¬ old.bx d) (ho:g.old=old) (R:Rel P w0 n bL g S H a w)
  (h:bp P GI (bh P n false ops) (Q .normal) (λv=>Q (.panic v) S H) S H):wpOpsIn (FR ro) m P ops (QQ P w0 n old Q) (List.range ops.size) a w:=by
 refine p_ dL qd _ _ _ (rU hG cq (S0:=S) (H0:=H) (List.range ops.size) ops.toList g S H a w ?_ (λo kv=>?_) (λo kv=>bW _ (afr kv)) ho R h)
 .apply aeH;intro i;simp only[adO]
  by_cases hi:i<ops.size
  .simp[hi]
  .simp[hi]
 .simp only[bh,aeY,adw,Function.comp]at bX;exact bX o kv
def GF (hG:ar GI) (cq:GI w0) {old:Old} {id:Nat} {ops:Array Oper} {Q:dT→an→ao→Prop} (dL:ops.all (fun o=>eH o.op)=true) (bX:(bh P n false ops).all (·.ok n)=true) (bW:∀ o∈bh P n false ops,∀ d∈o.jy,¬ old.bx d) (ho:g.old=old) (R:Rel P w0 n bL g S H a w)
  (h:bp P GI (bh P n false ops) (Q .normal) (λv=>Q (.panic v) S H) S H):(Code.region id ops false).wpIn (FR ro) m P (QQ P w0 n old Q) a w:=
 adP (rn hG cq dL bX bW ho R h)
def lU (hG:ar GI) (cq:GI w0) (hm:P.follows .mixedOrders=true) {old:Old} {ops:Array Oper} {Q:dT→an→ao→Prop} (dL:ops.all (fun o=>eH o.op)=true) (bX:LP P n ops=true) (bW:∀ o∈bh P n true ops,∀ d∈o.jy,¬ old.bx d) (ho:g.old=old) (R:Rel P w0 n bL g S H a w)
  (h:cU P GI (bh P n true ops) (Q .normal) (eM (bh P n true ops) S) (dV (bh P n true ops) H)):wpAnyIn (FR ro) m P .any ops (QQ P w0 n old Q) ops.size (Array.replicate ops.size false) a { w with drawn:=w.drawn+1 }:=by
 simp only[LP,adk,adr]at bX;obtain⟨⟨⟨h1,h2⟩,h3⟩,h4⟩:=bX;refine vJ dL qd _ _ _ _ ?_;have R0:Rel P w0 n bL g S H a { w with drawn:=w.drawn+1 }:=R.jU ((aej _ w).drew)
 obtain⟨g',e1,e2,R'⟩:=Rel.eM (bh P n true ops) R0 h3 (λd hd=>by
  simp only[dq,afd,adv]at hd;obtain⟨o,kv,⟨d',z⟩,k1,rfl⟩:=hd;rw[ho];refine bW o kv d' ?_;unfold bG at k1;split at k1
  .rename_i h1 h2;cases k1;simp[bH.jy,h1,h2,eC.jy]
  .cases k1)
 have hU:UU P n ops (Array.replicate ops.size false)=(λt=>bL t\/t∈dq (bh P n true ops)):=by
  funext t
  simp only[UU,bL,agN,af0,dq,afd,adv]
  constructor
  .rintro⟨j,o,z,k1,k2,k3⟩;rw[<-fx]at k1;exact⟨o,aer k1,(t,z),k2,rfl⟩
  .rintro⟨o,ho,⟨d,z⟩,k1,rfl⟩;obtain⟨j,hj⟩:=ag9 ho;refine⟨j,o,z,by rw[<-fx];exact hj,k1,?_⟩
   have:j<ops.size:=by
    have:=(adG.1 hj).1;simpa[bh]using this
   simp[this]
 refine Ht hG cq h2 (λo kv=>?_) ops.size (Array.replicate ops.size false) g' _ _ a _ ahi (e2.trans ho) (by rw[hU];exact R') (λj o d z k1 k2 k3=>?_) ?_
 .simp only[bh,aeY,adw,Function.comp]at h1;exact h1 o (by simpa using kv)
 .rw[<-fx]at k1;exact zy _ S H h3 o (aer k1) d z k2
 .have:=zQ (QA:=Q .normal) ops.toList 0 (Array.replicate ops.size false) _ _ ahi (by simpa using h4) h;simpa using this
def EZ (hG:ar GI) (cq:GI w0) (hm:P.follows .mixedOrders=true) {old:Old} {id:Nat} {ops:Array Oper} {Q:dT→an→ao→Prop} (dL:ops.all (fun o=>eH o.op)=true) (bX:LP P n ops=true) (bW:∀ o∈bh P n true ops,∀ d∈o.jy,¬ old.bx d) (ho:g.old=old) (R:Rel P w0 n bL g S H a w)
  (h:cU P GI (bh P n true ops) (Q .normal) (eM (bh P n true ops) S) (dV (bh P n true ops) H)):(Code.region id ops true).wpIn (FR ro) m P (QQ P w0 n old Q) a w:=
 aeW hm (lU hG cq hm dL bX bW ho R h)
abbrev eW:=dT->Old->an->ao->Prop
def QS(P:Program)(w0:World)(n:Nat)(Q:eW):Exit->Act->World->Prop
 |.normal,a,w=>∃g S H,Rel P w0 n bL g S H a w/\Q .normal g.old S H
 |.exit id,a,w=>∃g S H,Rel P w0 n bL g S H a w/\Q (.exit id) g.old S H
 |.ret,a,w=>∃g S H,Rel P w0 n bL g S H a w/\Q .ret g.old S H
 |.panic chain,a,w=>∃(o:Old)(v:AV)(c:Value)(hi:Nat->Nat)(S:an)(H:ao),a.defers=o.ds/\chain=[{ v:=c,recovered:=false }]/\Below w0.heap.size w0 w/\(∀b,w.heap.size<=b->hi b=0)/\RD (pK w0.heap.size o.c hi) w v c/\Q (.panic v) o S H
 |_,_,_=>False
def SW(P:Program)(GI:World->Prop)(n:Nat)(ro:Option Nat)(c:Code)(Q:eW)(old:Old)(S:an)(H:ao):Prop:=
 ∀(w0:World)(g:Gh)(a:Act)(w:World)(m:Nat),GI w0->g.old=old->Rel P w0 n bL g S H a w->c.wpIn (FR ro) m P (QS P w0 n Q) a w
def thenS(K:Old->an->ao->Prop)(Q:eW):eW
 |.normal=>K
 |e=>Q e
def mG(id:Nat)(Q:eW):eW
 |.exit j=>if j=id then Q .normal else Q (.exit j)
 |e=>Q e
variable{old:Old}{Q Q':eW}
def QS.mono(h:∀e o S H,Q e o S H->Q' e o S H){e:Exit}{a:Act}{w:World}(hq:QS P w0 n Q e a w):QS P w0 n Q' e a w:=by
 cases e<;>simp only[QS]at hq⊢
 case normal=>obtain⟨g,S,H,h2,h3⟩:=hq;exact⟨g,S,H,h2,h _ _ _ _ h3⟩
 case exit=>obtain⟨g,S,H,h2,h3⟩:=hq;exact⟨g,S,H,h2,h _ _ _ _ h3⟩
 case ret=>obtain⟨g,S,H,h2,h3⟩:=hq;exact⟨g,S,H,h2,h _ _ _ _ h3⟩
 case panic=>obtain⟨o,v,c,hi,S,H,h1,h2,h3,h4,h5,h6⟩:=hq;exact⟨o,v,c,hi,S,H,h1,h2,h3,h4,h5,h _ _ _ _ h6⟩
def SW.mono{c:Code}(h:∀e o S H,Q e o S H->Q' e o S H)(hs:SW P GI n ro c Q old S H):SW P GI n ro c Q' old S H:=
 λw0 g a w m hG ho R=>ae1 (hs w0 g a w m hG ho R) λ_ _ _ hq=>QS.mono h hq
def SW.seq{x y:Code}(hx:SW P GI n ro x (thenS (SW P GI n ro y Q) Q) old S H):SW P GI n ro (.seq x y) Q old S H:=by
 intro w0 g a w m hG ho R;refine adB (ae1 (hx w0 g a w m hG ho R) ?_);intro e a' w' he
 cases e with
 |normal=>
  obtain⟨g',S',H',h2,h3⟩:=he;exact h3 w0 g' a' w' m hG rfl h2
 |exit id=>exact he
 |ret=>exact he
 |panic ch=>exact he
 |goto l=>exact he.elim
 |outgrown=>exact he.elim
def SW.block{id:Nat}{c:Code}(hc:SW P GI n ro c (mG id Q) old S H):SW P GI n ro (.block id c) Q old S H:=by
 intro w0 g a w m hG ho R;refine aeL (ae1 (hc w0 g a w m hG ho R) ?_);intro e a' w' he
 cases e with
 |normal=>exact he
 |exit j=>
  obtain⟨g',S',H',h2,h3⟩:=he;simp only[mG]at h3;simp only[Exit.inBlock];split
  .rename_i hj;rw[if_pos hj]at h3;exact⟨g',S',H',h2,h3⟩
  .rename_i hj;rw[if_neg hj]at h3;exact⟨g',S',H',h2,h3⟩
 |ret=>exact he
 |panic ch=>exact he
 |goto l=>exact he.elim
 |outgrown=>exact he.elim
def SW.cond{c:Operand}{c':cT}{x y:Code}(hc:du n c=some c')(b:Bool)(hb:ev S c'=.bool b)(h:SW P GI n ro (if b then x else y) Q old S H):SW P GI n ro (.cond c x y) Q old S H:=by
 intro w0 g a w m hG ho R;have hv:=R.ev hc (λ_ _=>id);rw[hb]at hv
 have:a.eval c=.bool b:=by
  generalize a.eval c=v at hv;cases hv;rename_i hv;cases hv;rfl
 exact aed this (h w0 g a w m hG ho R)
def SW.exit{id:Nat}(h:Q (.exit id) old S H):SW P GI n ro (.exit id) Q old S H:=
 λ_ g _ _ _ _ ho R=>afx ⟨g,S,H,R,by rw[ho];exact h⟩
def SW.ret(h:Q .ret old S H):SW P GI n ro .ret Q old S H:=
 λ_ g _ _ _ _ ho R=>afh ⟨g,S,H,R,by rw[ho];exact h⟩
def SW.skip(h:Q .normal old S H):SW P GI n ro .skip Q old S H:=
 λ_ g _ _ _ _ ho R=>aeO ⟨g,S,H,R,by rw[ho];exact h⟩
def SW.loop{c:Code}(I:Old->an->ao->Prop)(μ:an->ao->Nat)(h0:I old S H)(hr:∀o S H,I o S H->SW P GI n ro c (thenS (λo' S' H'=>I o' S' H'/\μ S' H'<μ S H) Q) o S H):SW P GI n ro (.loop c) Q old S H:=by
 intro w0 g a w m hG ho R;subst ho
 have key:∀ (k:Nat) (g:Gh) (S:an) (H:ao) (a:Act) (w:World),Rel P w0 n bL g S H a w→I g.old S H→μ S H=k→∀ (b:Frame) (kk:List Item) (cs:List Frame),b.roundOf=ro→(FR ro).room (cs.length+1+m) →
   ∃e a' w',QS P w0 n Q e a' w'/\ArrivesIn (Machine.fenced P (FR ro)) P (lone (b.atR a (.code c::.inLoop c::kk)) cs w) b kk cs e a' w':=by
  intro k
  induction k using Nat.strongRecOn with
  |_ k ih=>
   intro g S H a w R hI hk b kk cs vW iQ;obtain⟨e,jw,lz,hq,h_⟩:=hr g.old S H hI w0 g a w m hG rfl R b (.inLoop c::kk) cs vW trivial iQ
   cases e with
   |normal=>
    obtain⟨g',S',H',h2,h3,h4⟩:=hq;obtain⟨CM,DN,CP,ye,qv⟩:=ih _ (by rw[<-hk];exact h4) g' S' H' jw lz h2 h3 rfl b kk cs vW iQ;exact⟨CM,DN,CP,ye,.of_steps (agB h_ (.one (afC (F:=FR ro) (fr:=b.atR jw (.inLoop c::kk)) trivial iQ rfl) aht)) qv⟩
   |exit id=>exact⟨.exit id,jw,lz,hq,.pass (x:=.inLoop c) rfl (λ_ _=>.inl ahi) h_⟩
   |goto l=>exact hq.elim
   |ret=>exact⟨.ret,jw,lz,hq,.pass (x:=.inLoop c) rfl (λ_ _=>.inl ahi) h_⟩
   |panic ch=>exact⟨.panic ch,jw,lz,hq,.pass (x:=.inLoop c) rfl (λ_ _=>.inl ahi) h_⟩
   |outgrown=>exact hq.elim
 intro b kk cs vW hF iQ;obtain⟨e,a',w',hq,h_⟩:=key _ g S H a w R h0 rfl b kk cs vW iQ;exact⟨e,a',w',hq,.of_steps (.one (afC (F:=FR ro) (fr:=b.atR a (.code (.loop c)::kk)) trivial iQ rfl) stepR_loop) h_⟩
def eW.bD(old:Old)(Q:eW):dT->an->ao->Prop
 |e,S,H=>Q e old S H
def Ap{e:Exit}{a:Act}{w:World}(h:QQ P w0 n old (Q.bD old) e a w):QS P w0 n Q e a w:=by
 cases e<;>simp only[QQ,QS]at h⊢
 case normal=>obtain⟨g,S,H,h1,h2,h3⟩:=h;exact⟨g,S,H,h2,by rw[h1];exact h3⟩
 case exit=>obtain⟨g,S,H,h1,h2,h3⟩:=h;exact⟨g,S,H,h2,by rw[h1];exact h3⟩
 case ret=>obtain⟨g,S,H,h1,h2,h3⟩:=h;exact⟨g,S,H,h2,by rw[h1];exact h3⟩
 case panic=>obtain⟨h1,v,c,hi,S,H,h2,h3,h4,h5,h6⟩:=h;exact⟨old,v,c,hi,S,H,h1,h2,h3,h4,h5,h6⟩
def jb (hG:ar GI) (cq:GI w0) (hm:P.follows .mixedOrders=true) {old:Old} :
  ∀(c:Code)(Q:dT->an->ao->Prop)(g:Gh)(S:an)(H:ao)(a:Act)(w:World),kY c=true->(∀d∈(dw P n c).names,¬old.bx d)->g.old=old->Rel P w0 n bL g S H a w->bD P GI (dw P n c) Q S H->c.wpIn (FR ro) m P (QQ P w0 n old Q) a w
 |.skip,Q,g,S,H,a,w,_,bW,ho,R,h=>aeO ⟨g,S,H,ho,R,h⟩
 |.region id ops draw,Q,g,S,H,a,w,dL,bW,ho,R,h=>by
  simp only[dw]at h bW
  cases draw with
  |true=>
   simp only[adS]at h bW;split at h
   case isFalse=>exact h.elim
   rename_i bX;rw[if_pos bX]at bW;exact EZ hG cq hm dL bX (λo kv d hd=>bW d (adX.2 ⟨o,kv,hd⟩)) ho R h
  |false=>
   simp only[ads,adH]at h bW;split at h
   case isFalse=>exact h.elim
   rename_i bX;rw[if_pos bX]at bW;exact GF hG cq dL bX (λo kv d hd=>bW d (adX.2 ⟨o,kv,hd⟩)) ho R h
 |.seq x y,Q,g,S,H,a,w,dL,bW,ho,R,h=>by
  simp only[kY,adk]at dL;refine adB (ae1 (jb hG cq hm x _ g S H a w dL.1 (λd hd=>bW d (by simp[dw,ah.names,hd])) ho R h) ?_);intro e a' w' he
  cases e with
  |normal=>
   obtain⟨g',S',H',h1,h2,h3⟩:=he;exact jb hG cq hm y Q g' S' H' a' w' dL.2 (λd hd=>bW d (by simp[dw,ah.names,hd])) h1 h2 h3
  |exit id=>exact he
  |ret=>exact he
  |panic ch=>exact he
  |goto l=>exact he.elim
  |outgrown=>exact he.elim
 |.cond c x y,Q,g,S,H,a,w,dL,bW,ho,R,h=>by
  simp only[kY,adk]at dL;simp only[dw]at h;split at h
  case h_2=>exact h.elim
  rename_i c' hc;simp only[dw,hc,ah.names,adm]at bW;simp only[bD]at h;have hv:=R.ev hc (λ_ _=>id)
  have key:∀b,a.eval c=.bool b->(if b then x else y).wpIn (FR ro) m P (QQ P w0 n old Q) a w->(Code.cond c x y).wpIn (FR ro) m P (QQ P w0 n old Q) a w:=λb hb h=>aed hb h
  split at h
  .rename_i hb;rw[hb]at hv
   have:a.eval c=.bool true:=by
    generalize a.eval c=v at hv;cases hv;rename_i hv;cases hv;rfl
   exact key true this (jb hG cq hm x Q g S H a w dL.1 (λd hd=>bW d (.inl hd)) ho R h)
  .rename_i hb;rw[hb]at hv
   have:a.eval c=.bool false:=by
    generalize a.eval c=v at hv;cases hv;rename_i hv;cases hv;rfl
   exact key false this (jb hG cq hm y Q g S H a w dL.2 (λd hd=>bW d (.inr hd)) ho R h)
  .rename_i hb;rw[hb]at hv
   have:∃b,a.eval c=.bool b:=by
    generalize a.eval c=v at hv;cases hv;rename_i hv;cases hv;exact⟨_,rfl⟩
   obtain⟨b,hb⟩:=this
   cases b with
   |true=>exact key true hb (jb hG cq hm x Q g S H a w dL.1 (λd hd=>bW d (.inl hd)) ho R h.1)
   |false=>exact key false hb (jb hG cq hm y Q g S H a w dL.2 (λd hd=>bW d (.inr hd)) ho R h.2)
  .exact h.elim
 |.block id c,Q,g,S,H,a,w,dL,bW,ho,R,h=>by
  refine aeL (ae1 (jb hG cq hm c _ g S H a w dL (λd hd=>bW d (by simpa[dw,ah.names]using hd)) ho R h) ?_);intro e a' w' he
  cases e with
  |normal=>exact he
  |exit j=>
   obtain⟨g',S',H',h1,h2,h3⟩:=he;simp only[dP]at h3;simp only[Exit.inBlock];split
   .rename_i hj;rw[if_pos hj]at h3;exact⟨g',S',H',h1,h2,h3⟩
   .rename_i hj;rw[if_neg hj]at h3;exact⟨g',S',H',h1,h2,h3⟩
  |ret=>exact he
  |panic ch=>exact he
  |goto l=>exact he.elim
  |outgrown=>exact he.elim
 |.loop c,Q,g,S,H,a,w,dL,bW,ho,R,h=>by
  obtain⟨I,μ,h0,hr⟩:=h
  have key:∀ (k:Nat) (g:Gh) (S:an) (H:ao) (a:Act) (w:World),g.old=old→Rel P w0 n bL g S H a w→I S H→μ S H=k→∀ (b:Frame) (kk:List Item) (cs:List Frame),b.roundOf=ro→(FR ro).room (cs.length+1+m) →
    ∃e a' w',QQ P w0 n old Q e a' w'/\ArrivesIn (Machine.fenced P (FR ro)) P (lone (b.atR a (.code c::.inLoop c::kk)) cs w) b kk cs e a' w':=by
   intro k
   induction k using Nat.strongRecOn with
   |_ k ih=>
    intro g S H a w ho R hI hk b kk cs vW iQ;obtain⟨e,jw,lz,hq,h_⟩:=jb hG cq hm c _ g S H a w dL (λd hd=>bW d (by simpa[dw,ah.names]using hd)) ho R (hr S H hI) b (.inLoop c::kk) cs vW trivial iQ
    cases e with
    |normal=>
     obtain⟨g',S',H',h1,h2,h3,h4⟩:=hq;obtain⟨CM,DN,CP,ye,qv⟩:=ih _ (by rw[<-hk];exact h4) g' S' H' jw lz h1 h2 h3 rfl b kk cs vW iQ;exact⟨CM,DN,CP,ye,.of_steps (agB h_ (.one (afC (F:=FR ro) (fr:=b.atR jw (.inLoop c::kk)) trivial iQ rfl) aht)) qv⟩
    |exit id=>exact⟨.exit id,jw,lz,hq,.pass (x:=.inLoop c) rfl (λ_ _=>.inl ahi) h_⟩
    |goto l=>exact hq.elim
    |ret=>exact⟨.ret,jw,lz,hq,.pass (x:=.inLoop c) rfl (λ_ _=>.inl ahi) h_⟩
    |panic ch=>exact⟨.panic ch,jw,lz,hq,.pass (x:=.inLoop c) rfl (λ_ _=>.inl ahi) h_⟩
    |outgrown=>exact hq.elim
  intro b kk cs vW hF iQ;obtain⟨e,a',w',hq,h_⟩:=key _ g S H a w ho R h0 rfl b kk cs vW iQ;exact⟨e,a',w',hq,.of_steps (.one (afC (F:=FR ro) (fr:=b.atR a (.code (.loop c)::kk)) trivial iQ rfl) stepR_loop) h_⟩
 |.exit id,Q,g,S,H,a,w,_,bW,ho,R,h=>afx ⟨g,S,H,ho,R,h⟩
 |.ret,Q,g,S,H,a,w,_,bW,ho,R,h=>afh ⟨g,S,H,ho,R,h⟩
 |.rangeFunc ..,_,_,_,_,_,_,_,_,_,_,h=>h.elim
 |.scope _,_,_,_,_,_,_,_,_,_,_,h=>h.elim
 |.label _,_,_,_,_,_,_,_,_,_,_,h=>h.elim
 |.goto _,_,_,_,_,_,_,_,_,_,_,h=>h.elim
 |.refuse _,_,_,_,_,_,_,_,_,_,_,h=>h.elim
def SW.fN (hG:ar GI) (hm:P.follows .mixedOrders=true) {c:Code} (hc:kY c=true) (bW:∀ d∈(dw P n c).names,¬ old.bx d) {ac:ah} (oI:dw P n c=ac)
  (h:bD P GI ac (Q.bD old) S H):SW P GI n ro c Q old S H:=by
 subst oI;intro w0 g a w m cq ho R
 exact ae1 (jb hG cq hm c _ g S H a w hc bW ho R h) λ_ _ _ hq=>Ap hq
end
def wU(g:Gh)(b:Nat):Prop:=g.base<=b/\g.hi b=0/\g.owner b=none/\∀i,g.al i≠some b
structure l7(M:Nat->Prop)(w w':World):Prop where
 os:w'.os=w.os
 tape:w'.tape=w.tape
 output:w'.output=w.output
 size:w.heap.size<=w'.heap.size
 block:∀b,b<w.heap.size->¬M b->w'.heap[b]?=w.heap[b]?
def l7.refl(M:Nat->Prop)(w:World):l7 M w w:=⟨rfl,rfl,rfl,adl _,λ_ _ _=>rfl⟩
def l7.trans{M M' Y0:Nat->Prop}{w w' ju:World}(h:l7 M w w')(h':l7 M' w' ju)(h1:∀b,M b->Y0 b)(h2:∀b,M' b->b<w.heap.size->Y0 b):l7 Y0 w ju:=
 ⟨h'.os.trans h.os,h'.tape.trans h.tape,h'.output.trans h.output,aeo h.size h'.size,λb hb hm=>
  (h'.block b (ad9 hb h.size) λhh=>hm (h2 b hh hb)).trans (h.block b hb λhh=>hm (h1 b hh))⟩
def l7.vT{M:Nat->Prop}{w w':World}(h:Below w.heap.size w w'):l7 M w w':=⟨h.os,h.tape,h.output,h.size,λb hb _=>h.block b hb⟩
def l7.below{M:Nat->Prop}{w w':World}(h:l7 M w w'){k:Nat}(hk:k<=w.heap.size)(hM:∀b,M b->k<=b):Below k w w':=
 ⟨h.os,h.tape,h.output,h.size,λb hb=>h.block b (ad9 hb hk) λhm=>by have:=hM b hm;omega⟩
section
variable{P:Program}{w0:World}{n:Nat}{g:Gh}{S:an}{H:ao}{a:Act}{w w':World}
def Rel.dQ(R:Rel P w0 n bL g S H a w){M:Nat->Prop}(ht:l7 M w w')(hM:∀b,M b->wU g b)(hk:∀b,M b->g.old.aV b=none):Rel P w0 n bL g S H a w':=by
 have eV:bf g.Pr g.Pr w w':=bf.qg λb k aq hp=>ht.block b aq λhm=>by
  obtain⟨h1,h2,_⟩:=hM b hm;rcases hp with hp|hp
  .omega
  .rw[h2]at hp;omega
 refine R.ext rfl rfl rfl eV ?_ ?_ ?_ ?_ ?_ ht.size
 .intro i b hi;obtain⟨_,_,_,_,_,h3,_⟩:=R.box i b hi;exact⟨ht.block b (adj.1 h3).1 λhm=>(hM b hm).2.2.2 i hi,rfl,rfl⟩
 .intro b loc ho
  have aq:b<w.heap.size:=by
   rcases aeI b w.heap.size with h|h
   .exact h
   .rw[(R.fresh b h).2]at ho;cases ho
  exact⟨ht.block b aq λhm=>(by rw[(hM b hm).2.2.1]at ho;cases ho),rfl,ho⟩
 .exact R.below.trans (ht.below (by rw[R.base];exact R.below.size) λb hm=>(hM b hm).1)
 .exact λb hb=>R.fresh b (aeo ht.size hb)
 .intro b o hko ho;exact⟨by rw[ht.block b (adj.1 ho).1 (λhm=>by rw[hk b hm]at hko;cases hko)];exact ho,rfl,rfl⟩
open Classical in
noncomputable def Gh.kW(g:Gh)(G:Nat->Prop)(dv:Nat->Nat):Gh:={ g with hi:=λb=>if G b then dv b else g.hi b }
def Rel.kW(R:Rel P w0 n bL g S H a w){G:Nat->Prop}(dv:Nat->Nat)(hG:∀b,G b->wU g b/\b<w.heap.size/\g.old.aV b=none):Rel P w0 n bL (g.kW G dv) S H a w:=by
 have hn:∀b,¬G b->(g.kW G dv).hi b=g.hi b:=λb hb=>by simp[Gh.kW,hb]
 have qo:∀b k,g.Pr b k->(g.kW G dv).Pr b k:=by
  intro b k hp
  by_cases hb:G b
  .obtain⟨⟨h1,h2,_⟩,_⟩:=hG b hb;rcases hp with hp|hp
   .omega
   .rw[h2]at hp;omega
  .rcases hp with hp|hp
   .exact .inl hp
   .exact .inr ⟨hp.1,by rw[hn b hb];exact hp.2⟩
 refine R.ext (g':=g.kW G dv) rfl rfl rfl (bf.same λb k _ hp=>qo b k hp) ?_ ?_ R.below ?_ ?_ (adl _)
 .intro i b hi;exact⟨rfl,hn b λhb=>(hG b hb).1.2.2.2 i hi,rfl⟩
 .intro b loc ho;exact⟨rfl,hn b (λhb=>by rw[(hG b hb).1.2.2.1]at ho;cases ho),ho⟩
 .intro b hb;exact⟨by rw[hn b (λh=>by have:=(hG b h).2.1;omega)];exact(R.fresh b hb).1,(R.fresh b hb).2⟩
 .intro b o hk ho;exact⟨ho,hn b (λh=>by rw[(hG b h).2.2]at hk;cases hk),rfl⟩
def Rel.nO(R:Rel P w0 n bL g S H a w){l:Nat}{o:Obj}(hl:g.old.aV l=some o)(o':Obj):Rel P w0 n bL { g with old:={ g.old with aV:=au g.old.aV l (some o') } } S H a (w.putObj l o'):=by
 obtain⟨k1,k2,k3,k4,k5⟩:=R.kept l o hl;have aq:l<w.heap.size:=(adj.1 k2).1
 have l6:∀b,b≠l->(w.putObj l o').heap[b]?=w.heap[b]?:=λb hb=>agV hb
 have cP:∀b k,g.Pr b k->b≠l:=by
  rintro b k hp rfl;rcases hp with hp|hp
  .omega
  .rw[k3]at hp;omega
 have hK:bf g.Pr g.Pr w (w.putObj l o'):=bf.qg λb k _ hp=>l6 b (cP b k hp)
 have lL:(w.putObj l o').heap.size=w.heap.size:=by simp[World.putObj]
 refine{ size:=R.size,defers:=R.defers,facts:=λp hp=>(R.facts p hp).mono hK λ_ _ h=>h,slot:=λt ht hu=>(R.slot t ht hu).mono hK λ_ _ h=>h,own:=λt ht hu=>(R.own t ht hu).aV rfl λb' im=>⟨l6 b' (by rintro rfl;rw[k4]at im;cases im),rfl,im⟩,box:=?_,jQ:=R.jQ,jX:=R.jX,inj:=R.inj,base:=R.base,below:=?_,fresh:=?_,still:=R.still.trans hK,grown:=by rw[lL];exact R.grown,kept:=?_ }
 .intro i b hi;obtain⟨cs,vs,ty,h1,h2,h3,h4,h5,h6,h7,h8,h9⟩:=R.box i b hi
  have mm:b≠l:=by rintro rfl;exact k5 i hi
  refine⟨cs,vs,ty,h1,h2,by rw[l6 b mm];exact h3,h4,h5,h6,λj hj dU=>(h7 j hj dU).mono hK,λj hj dU=>(h8 j hj dU).aV rfl λb' im=>⟨l6 b' (by rintro rfl;rw[k4]at im;cases im),rfl,im⟩,h9⟩
 .refine R.below.trans ⟨rfl,rfl,rfl,by rw[lL];exact adl _,λk hk=>l6 k zo⟩
 .intro b hb;rw[lL]at hb;exact R.fresh b hb
 .intro b ob h
  by_cases mm:b=l
  .subst mm
   have:ob=o':=by simpa[au]using h.symm
   subst this;exact⟨k1,agZ aq,k3,k4,k5⟩
  .have h:g.old.aV b=some ob:=by simpa[au,mm]using h
   obtain⟨q1,q2,q3,q4,q5⟩:=R.kept b ob h;exact⟨q1,by rw[l6 b mm];exact q2,q3,q4,q5⟩
def Rel.Em (R:Rel P w0 n bL g S H a w) (o2:Old) {a2:Act} {S2:an} (hc:o2.c=g.old.c) (bj:a2.tmps.size=n) (eI:a2.defers=o2.ds)
  (hf:∀p∈o2.facts,RV g.Pr g.al w p.1 p.2) (eL:bf o2.sp g.Pr o2.sw w) (iD:o2.sw.heap.size<=w.heap.size) (hk:∀b o,o2.aV b=some o->wU g b/\w.heap[b]?=some o)
  (hS:∀t,t<n->(S2 t).aJ=S2 t/\RV g.Pr g.al w (S2 t) (a2.tmps.getD t undef)):Rel P w0 n bL { g with old:=o2 } S2 H a2 w:=by
 have qo:({ g with old:=o2 }:Gh).Pr=g.Pr:=by
  funext b k
  simp only[Gh.Pr,hc]
 refine{ size:=bj,defers:=eI,facts:=by rw[qo];exact hf,slot:=λt ht _=>by rw[qo];exact(hS t ht).2,own:=λt ht _=>?_,box:=?_,jQ:=R.jQ,jX:=R.jX,inj:=R.inj,base:=R.base,below:=R.below,fresh:=R.fresh,still:=by rw[qo];exact eL,grown:=iD,kept:=?_ }
 .rw[<-(hS t ht).1];exact eK.aJ
 .intro i b hi;obtain⟨cs,vs,ty,h1,h2,h3,h4,h5,h6,h7,h8,h9⟩:=R.box i b hi;exact⟨cs,vs,ty,h1,h2,h3,h4,h5,h6,by rw[qo];exact h7,λj hj dU=>(h8 j hj dU).aV rfl λb hb=>⟨rfl,rfl,hb⟩,h9⟩
 .intro b o h;obtain⟨⟨q1,q3,q4,q5⟩,q2⟩:=hk b o h;exact⟨q1,q2,q3,q4,q5⟩
def UX(L:Nat->Bool):AV->Bool
 |.box i _=>L i
 |.func ..|.gJ _=>true
 |_=>false
def pC(L:Nat->Bool)(v:AV):AV:=match v with
 |.box i o=>if L i then .bo else .box i o
 |.func fn f c=>if f.any (UX L)||c.any (UX L)then .bo else .func fn f c
 |.gJ _=>.bo
 |v=>v.aJ
def RV.pC{Pr:Nat->Nat->Prop}{al:Nat->Option Nat}{w:World}{v:AV}{c:Value}{L:Nat->Bool}(h:RV Pr al w v c):RV Pr al w (Go.AL.pC L v) c:=by
 have hd:=h.aJ
 cases v<;>simp only[Go.AL.pC]<;>(try exact hd)
 .split
  .exact .bo _
  .exact h
 .split
  .exact .bo _
  .exact h
 .exact .bo _
def TW(L:Nat->Bool)(v:AV):(pC L v).aJ=pC L v:=by
 cases v<;>simp only[pC]<;>try rfl
 .rename_i o es;cases o<;>rfl
 .split<;>rfl
 .split<;>rfl
def Qj(L:Nat->Bool)(v:AV):flat (pC L v)=true:=by
 cases v<;>simp only[pC]<;>try rfl
 .rename_i o es;cases o<;>rfl
 .split<;>rfl
 .split
  .rfl
  .rename_i fn f c h;simp only[ae0,agf,aeg]at h;simp only[flat,adk,adw];refine⟨λv hv=>?_,λv hv=>?_⟩
   .have:=h.1 v hv
    cases v<;>first|rfl|(cases this;done)
   .have:=h.2 v hv
    cases v<;>first|rfl|(cases this;done)
def NQ(L:Nat->Bool)(v:AV)(d:Nat)(hd:L d=true):cd d (pC L v)=pC L v:=by
 have key:∀v,UX L v=false->¬kE d v=true:=by
  intro v hv hs
  cases v<;>simp only[kE]at hs<;>(try cases hs)<;>(try cases hv)
  simp only[adY]at hs;subst hs;simp only[UX,hd]at hv;cases hv
 cases v<;>simp only[pC]<;>try rfl
 .rename_i o es;cases o<;>rfl
 .split
  .rfl
  .rename_i i o h;simp only[cd];rw[if_neg];rintro rfl;exact h hd
 .split
  .rfl
  .rename_i fn f c h;simp only[ae0,agf,aeg]at h;simp only[cd];rw[if_neg];simp only[aeE,aeK,not_or,not_exists,not_and];exact⟨λv hv=>key v (h.1 v hv),λv hv=>key v (h.2 v hv)⟩
end
structure Cons(P:Program)(GI:World->Prop)(l:Nat)(xs:List AV) where
 J:Nat->(Nat->Prop)->(Nat->Nat->Prop)->World->Prop
 X:(Nat->Prop)->(Nat->Nat->Prop)->World->Prop
 gi:∀{k M Pr w},J k M Pr w->GI w
 apart:∀{k M Pr w},J k M Pr w->∀b j,M b->¬Pr b j
 dQ:∀{k M M' Pr w w'},J k M Pr w->l7 M w w'->(∀b,M' b->b<w'.heap.size/\(M b\/w.heap.size<=b))->J k M' Pr w'
 ZM:∀{M M' Pr w w'},X M Pr w->l7 M w w'->(∀b,M' b->b<w'.heap.size/\(M b\/w.heap.size<=b))->X M' Pr w'
 round:∀{k:Nat}(hk:k<xs.length){M Pr w}(G:Nat->Prop)(dv:Nat->Nat)(c:Value),J k M Pr w->(∀b,G b->M b)->RD (λb j=>Pr b j\/(G b/\j<dv b)) w xs[k] c->
  ∃f tmps assign body,(Instr.yield l #[c]).run P w=.ok (.round l f tmps assign body) w/\
   ∀m,RoundIn (FR none) m P l f tmps assign body w λe w'=>(∀b,M b->¬G b->w'.heap[b]?=w.heap[b]?)/\∃eS,bf Pr eS w w'/\
    ((e=.returned (.bool true)/\J (k+1) (λb=>M b/\¬G b) eS w')\/(e=.returned (.bool false)/\X (λb=>M b/\¬G b) eS w'))
def cQ:Nat->Option Nat:=λ_=>none
def xn(P:Program)(GI:World->Prop)(f:Nat)(caps:List AV)(xs:List AV):Prop:=
 ∀(l:Nat)(C:Cons P GI l xs)(w:World)(Pr:Nat->Nat->Prop)(bP:Array Value),C.J 0 (λ_=>False) Pr w->caps.length=bP.size->
  (∀i (h:i<caps.length)(h':i<bP.size),RV Pr cQ w caps[i] bP[i])->
  Calls P f (#[.func (.yield l) #[] #[]]++bP) w λe w'=>∃v M eS,e=.returned v/\(C.J xs.length M eS w'\/C.X M eS w')
def Ie:AV->Bool
 |.box ..|.func ..|.gJ _=>false
 |_=>true
def N2:AV->Bool
 |.box ..|.gJ _=>false
 |.func _ f c=>f.all Ie&&c.all Ie
 |_=>true
def RV.O2{Pr:Nat->Nat->Prop}{al:Nat->Option Nat}{w:World}{v:AV}{c:Value}(h:RV Pr al w v c)(hv:Ie v=true):RV Pr Go.AL.cQ w v c:=by
 cases h with
 |data v c h=>exact .data _ _ h
 |box=>cases hv
 |func=>cases hv
 |gJ=>cases hv
 |bo c=>exact .bo c
def RV.cQ{Pr:Nat->Nat->Prop}{al:Nat->Option Nat}{w:World}{v:AV}{c:Value}(h:RV Pr al w v c)(hv:N2 v=true):RV Pr Go.AL.cQ w v c:=by
 cases h with
 |data v c h=>exact .data _ _ h
 |box=>cases hv
 |func fn f c vs us h1 h2 r1 r2=>
  simp only[N2,adk,adw]at hv;exact .func _ _ _ _ _ h1 h2 (λi hi dv=>(r1 i hi dv).O2 (hv.1 _ (adi hi))) (λi hi dv=>(r2 i hi dv).O2 (hv.2 _ (adi hi)))
 |gJ=>cases hv
 |bo c=>exact .bo c
def Old.mark(o:Old)(D:Nat):Old:={ o with ds:={ target:=.collected D,args:=#[] }::o.ds,aV:=au o.aV D (some (.deferred (some []))) }
def Hz:dT->Option Code
 |.exit id=>some (.exit id)
 |.ret=>some .ret
 |_=>none
def tr(I:ao->Prop)(Ix:dT->ao->Prop):dT->an->ao->Prop
 |.normal,_,H=>I H
 |.panic _,_,_=>False
 |e,_,H=>Ix e H
def aN(K:an->ao->Prop):dT->an->ao->Prop
 |.normal,S,H=>K S H
 |_,_,_=>False
section
variable{P:Program}{GI:World->Prop}{n:Nat}{S:an}{H:ao}
open Classical in
def SW.range (hG:ar GI) (hm:P.follows .mixedOrders=true) {old:Old} {Q:eW} {Oh:Operand} {y:cT} {p:Tmp} {assign body:Code} {f:Nat} {caps xs:List AV}
  (hg:du n Oh=some y) (hS:ev S y=.func (.func f) [] caps) (hf:eb P f=true) (pz:caps.all N2=true) (hit:xn P GI f caps xs) (hp:p<n) (qK:∀x∈xs,x.aJ=x)
  (L:Nat->Bool) {aa ab:ah} (haa:dw P n assign=aa) (xC:dw P n body=ab) (hLa:∀d∈aa.names,L d=true) (hLb:∀d∈ab.names,L d=true) (hLo:∀d,L d=true->¬old.bx d)
  (BS:kY assign=true) (jP:kY body=true) (I:Nat->ao->Prop) (Ix:dT->ao->Prop) (h0:I 0 H)
  (yr:∀k (hk:k<xs.length) H',I k H'->bD P GI aa (aN (bD P GI ab (tr (I (k+1)) Ix))) (au (λt=>pC L (S t)) p xs[k]) H')
  (XA:∀D H',old.aV D=none->I xs.length H'->Q .normal (old.mark D) (λt=>pC L (S t)) H')
  (Xy:∀D e H',old.aV D=none->(Hz e).isSome=true->Ix e H'->Q e (old.mark D) (λt=>pC L (S t)) H'):
  SW P GI n none (.rangeFunc Oh #[p] assign body) Q old S H:=by
 subst haa xC;intro w0 g a w m cq ho R;subst ho;refine wpIn_rangeFunc ?_;intro fn UE
 obtain⟨rec,zv⟩:∃rec:LoopState->Option Code->Loop,rec=λst pe=>{ state:=st,pending:=pe,fn,tmps:=a.tmps,params:=#[p],assign,body,defers:=w.heap.size }:=⟨_,rfl⟩
 obtain⟨W1,V3⟩:∃W1,(w.alloc (.deferred (some []))).alloc (.loop (rec .ready none))=W1:=⟨_,rfl⟩
 obtain⟨D,hD⟩:∃D,w.heap.size=D:=⟨_,rfl⟩
 have hL1:W1.heap[D+1]?=some (.loop (rec .ready none)):=by
  rw[<-V3,<-hD];have:=aee (w.alloc (.deferred (some []))) (.loop (rec .ready none));rwa [World.size_alloc]at this
 have hK1:W1.heap[D]?=some (.deferred (some [])):=by
  rw[<-V3,<-hD];exact(agO _ _ _ ahi).trans (aee w _)
 have oH:Below w.heap.size w W1:=by
  rw[<-V3];exact(((aej _ w).alloc (adl _) _).alloc ahi _)
 have R1:Rel P w0 n bL g S H a W1:=R.jU oH
 have hle:g.base<=D:=by rw[<-hD,R.base];exact R.below.size
 have mR:∀b,D<=b->wU g b:=λb hb=>⟨zo,(R.fresh b zo).1,(R.fresh b zo).2,λi hi=>by
  obtain⟨_,_,_,_,_,h3,_⟩:=R.box i b hi;have:=(adj.1 h3).1
  omega⟩
 have B_:∀b,D<=b->g.old.aV b=none:=λb hb=>by
  cases hk:g.old.aV b with
  |none=>rfl
  |some o=>have:=(adj.1 (R.kept b o hk).2.1).1;omega
 have lZ:=R.ev hg (λ_ _=>id);rw[hS]at lZ
 obtain⟨us,sD,kJ,Sy⟩:∃us:Array Value,a.eval Oh=.func (.func f) #[] us/\caps.length=us.size/\∀i (h:i<caps.length)(h':i<us.size),RV g.Pr cQ W1 caps[i] us[i]:=by
  generalize hq:a.eval Oh=q at lZ
  cases lZ with
  |data _ _ h=>cases h
  |func _ _ _ vs us h1 h2 r1 r2=>
   have:vs=#[]:=aeQ (by simpa using h1.symm);subst this;refine⟨us,rfl,h2,λi h h'=>?_⟩;have:=(r2 i h h').cQ (by simp only[adw]at pz;exact pz _ (adi h))
   exact this.mono (bf.jm (λb aq=>oH.block b aq) λ_ _ _ h=>h) λ_ _ h=>h
 let Se:an:=λt=>pC L (S t)
 let al:Act:={ tmps:=a.tmps,defers:=[] }
 let fs:List (AV×Value):=(List.range n).map λt=>(Se t,a.tmps.getD t undef)
 let kp:Nat->Option Obj:=au (au g.old.aV D (some (.deferred (some [])))) (D+1) (some (.loop (rec .ready none)))
 have bX:∀q∈fs++g.old.facts,flat q.1=true/\∀d,¬(L d=false)->cd d q.1=q.1:=by
  intro q hq;rcases adm.1 hq with h|h
  .obtain⟨t,_,rfl⟩:=adF.1 h;exact⟨Qj L _,λd hd=>NQ L _ d (by simpa using hd)⟩
  .exact⟨(g.old.ok q h).1,λd hd=>(g.old.ok q h).2 d (hLo d (by simpa using hd))⟩
 let mk:(Nat->Option Obj)->(Nat->Nat->Prop)->World->Old:=λaV sp sw=>
  { c:=g.old.c,facts:=fs++g.old.facts,bx:=λd=>L d=false,ds:=[],aV:=aV,sp:=sp,sw:=sw,ok:=bX }
 let FQ:Old:=mk kp g.old.sp g.old.sw
 let kx:Code->Nat->Option Obj:=λc=>au kp (D+1) (some (.loop (rec .done (some c))))
 have Yv:∀t,(Se t).aJ=Se t:=λt=>TW L _
 have bj:a.tmps.size=n:=R.size
 have Pl:∀{g':Gh}{W:World}{H':ao}{n' S' a'},Rel P w0 n' bL g' S' H' a' W->g'.old.facts=fs++g.old.facts->∀t,t<n->(Se t).aJ=Se t/\RV g'.Pr g'.al W (Se t) (a.tmps.getD t undef):=by
  intro g' W H' n' S' a' R' hfa t ht;exact⟨Yv t,R'.facts (Se t,a.tmps.getD t undef) (by rw[hfa];exact afm _ (adF.2 ⟨t,adQ.2 ht,rfl⟩))⟩
 have acS:∀b,D<=b->b≠D->b≠D+1->kp b=none:=λb hb h1 h2=>by simp[kp,au,h1,h2,B_ b hb]
 have QJ:kp (D+1)=some (.loop (rec .ready none)):=aO _ _ _
 let J:Nat->(Nat->Prop)->(Nat->Nat->Prop)->World->Prop:=λk M Pr W=>∃g' H',Rel P w0 n bL g' Se H' al W/\g'.old=FQ/\g'.Pr=Pr/\I k H'/\∀b,M b->wU g' b/\b<W.heap.size/\kp b=none
 let X:(Nat->Prop)->(Nat->Nat->Prop)->World->Prop:=λM Pr W=>∃e jc g' H',Rel P w0 n bL g' Se H' al W/\g'.old=mk (kx jc) g.old.sp g.old.sw/\Hz e=some jc/\g'.Pr=Pr/\Ix e H'/\∀b,M b->wU g' b/\b<W.heap.size/\kp b=none
 have ES:∀{g':Gh}{H':ao}{W:World},Rel P w0 n bL g' Se H' al W->GI W:=λR'=>by
  have hb:=R'.below;rw[R'.base]at hb;exact hG w0 _ cq hb
 have TI:∀{g':Gh}{H':ao}{W:World}(k':Nat->Option Obj),Rel P w0 n bL g' Se H' al W->g'.old.aV=k'->(∀b,kp b=none↔k' b=none)->∀b,W.heap.size<=b->wU g' b/\kp b=none:=by
  intro g' H' W k' R' hk CN b hb;refine⟨⟨?_,(R'.fresh b hb).1,(R'.fresh b hb).2,λi hi=>?_⟩,?_⟩
  .have:=R'.below.size;rw[R'.base];omega
  .obtain⟨_,_,_,_,_,h3,_⟩:=R'.box i b hi;have:=(adj.1 h3).1;omega
  .rw[CN]
   cases hq:k' b with
   |none=>rfl
   |some o=>have:=(adj.1 (R'.kept b o (by rw[hk];exact hq)).2.1).1;omega
 have LU:∀c b,kp b=none↔kx c b=none:=λc b=>by
  by_cases hb:b=D+1
  .subst hb;simp[QJ,kx,au]
  .simp[kx,au,hb]
 let C:Cons P GI (D+1) xs:={
  J:=J
  X:=X
  gi:=λ⟨g',H',R',_⟩=>ES R'
  apart:=by
   rintro k M Pr W ⟨g',H',R',e1,rfl,e3,e4⟩ b j hb hp;obtain⟨⟨h1,h2,_⟩,_⟩:=e4 b hb;rcases hp with hp|hp
   .omega
   .rw[h2]at hp;omega
  dQ:=by
   rintro k M M' Pr W W' ⟨g',H',R',e1,e2,e3,e4⟩ ht Zl;have R2:=R'.dQ ht (λb hb=>(e4 b hb).1) (λb hb=>by rw[e1];exact(e4 b hb).2.2);refine⟨g',H',R2,e1,e2,e3,λb hb=>?_⟩;obtain⟨q1,q2⟩:=Zl b hb;rcases q2 with q2|q2
   .exact⟨(e4 b q2).1,q1,(e4 b q2).2.2⟩
   .obtain⟨z1,z2⟩:=TI kp R' (by rw[e1]) (λ_=>Iff.rfl) b q2;exact⟨z1,q1,z2⟩
  ZM:=by
   rintro M M' Pr W W' ⟨e,jc,g',H',R',e1,ej,e2,e3,e4⟩ ht Zl;have R2:=R'.dQ ht (λb hb=>(e4 b hb).1) (λb hb=>by rw[e1];exact(LU jc b).1 (e4 b hb).2.2);refine⟨e,jc,g',H',R2,e1,ej,e2,e3,λb hb=>?_⟩;obtain⟨q1,q2⟩:=Zl b hb;rcases q2 with q2|q2
   .exact⟨(e4 b q2).1,q1,(e4 b q2).2.2⟩
   .obtain⟨z1,z2⟩:=TI (kx jc) R' (by rw[e1]) (LU jc) b q2;exact⟨z1,q1,z2⟩
  round:=by
   rintro k hk M Pr W G dv c ⟨g',H',R',e1,rfl,e3,e4⟩ Qv hx
   have hkg:∀b,M b->g'.old.aV b=none:=λb hb=>by rw[e1];exact(e4 b hb).2.2
   have Rc:=R'.kW (G:=G) dv (λb hb=>⟨(e4 b (Qv b hb)).1,(e4 b (Qv b hb)).2.1,hkg b (Qv b hb)⟩)
   obtain⟨gc,vd⟩:∃gc,g'.kW G dv=gc:=⟨_,rfl⟩
   rw[vd]at Rc
   have YY:gc.old=FQ:=by rw[<-vd];exact e1
   have hKc:bf g'.Pr gc.Pr W W:=bf.same λb j _ BW=>by
    rw[<-vd]
    by_cases hb:G b
    .obtain⟨⟨h1,h2,_⟩,_⟩:=e4 b (Qv b hb);rcases BW with hp|hp
     .omega
     .rw[h2]at hp;omega
    .rcases BW with hp|hp
     .exact .inl hp
     .exact .inr ⟨hp.1,by simpa[Gh.kW,hb]using hp.2⟩
   have Iz:RD gc.Pr W xs[k] c:=hx.mono (bf.same λb j aq BW=>by
    rcases BW with BW|⟨h1,h2⟩
    .by_cases hex:∃u,W.cell? ⟨b,j,none⟩=some u
     .obtain⟨u,hu⟩:=hex;exact(hKc.cell b j BW u hu).1
     .rw[<-vd]
      by_cases hb:G b
      .obtain⟨⟨h1,h2,_⟩,_⟩:=e4 b (Qv b hb);rcases BW with hp|hp
       .omega
       .rw[h2]at hp;omega
      .rcases BW with hp|hp
       .exact .inl hp
       .exact .inr ⟨hp.1,by simpa[Gh.kW,hb]using hp.2⟩
    .rw[<-vd]
     exact .inr ⟨(e4 b (Qv b h1)).1.1,by simpa[Gh.kW,h1]using h2⟩)
   let kr:Nat->Option Obj:=λb=>if M b/\¬G b then W.heap[b]? else kp b
   have hMl:¬M (D+1):=λhh=>by have:=(e4 _ hh).2.2;rw[QJ]at this;cases this
   have krl:kr (D+1)=some (.loop (rec .ready none)):=by simp[kr,hMl,QJ]
   have Rr:=Rc.Em (mk kr gc.Pr W) (a2:={ tmps:=a.tmps.setIfInBounds p c,defers:=[] }) (S2:=au Se p xs[k]) (by rw[YY]) (by simpa using bj) rfl
    (λq hq=>Rc.facts q (by rw[YY];exact hq)) (bf.same λ_ _ _ h=>h) (adl _)
    (λb ob hb=>by
     simp only[mk,kr]at hb;split at hb
     .rename_i Mn;obtain⟨h1,h2,h3,h4⟩:=(e4 b Mn.1).1;exact⟨⟨by rw[<-vd];exact h1,by rw[<-vd];simpa[Gh.kW,Mn.2]using h2,by rw[<-vd];exact h3,by rw[<-vd];exact h4⟩,hb⟩
     .obtain⟨h1,h2,h3,h4,h5⟩:=Rc.kept b ob (by rw[YY];exact hb)
      exact⟨⟨h1,h3,h4,h5⟩,h2⟩)
    (λt ht=>by
     by_cases SU:t=p
     .subst SU;rw[aO];refine⟨qK _ (adi hk),.data _ _ ?_⟩
      have:(a.tmps.setIfInBounds t c).getD t undef=c:=by simp[bj,ht]
      rw[this];exact Iz
     .rw[aQ _ _ SU]
      have:(a.tmps.setIfInBounds p c).getD t undef=a.tmps.getD t undef:=by
       simp[adt (ad6 SU)]
      rw[this]
      exact⟨Yv t,(Rc.slot t ht id)⟩)
   have wi:W.heap[D+1]?=some (.loop (rec .ready none)):=(R'.kept (D+1) _ (by rw[e1];exact QJ)).2.1;have hy:=run_yield (P:=P) (args:=#[c]) wi (by rw[zv];rfl);rw[zv]at hy
   have hy':(Instr.yield (D+1) #[c]).run P W=.ok (.round (D+1) fn (a.tmps.setIfInBounds p c) assign body) W:=by rw[hy];simp
   refine⟨fn,_,assign,body,hy',λm'=>roundIn_of_wpIn (F:=FR none) trivial ?_⟩;show assign.wpIn (FR (some (D+1))) m' P _ { tmps:=a.tmps.setIfInBounds p c,defers:=[] } W;refine ae1 (jb hG cq hm (old:=mk kr gc.Pr W) assign _ _ _ H' _ W BS (λd hd (hh:L d=false)=>by have:=hLa d hd;rw[this]at hh;cases hh) rfl Rr (yr k hk H' e3)) ?_;intro e a1 w1 hq
   cases e with
   |normal=>
    obtain⟨g1,S1,H1,AD,QD,hb⟩:=hq;have HU:w1.heap[D+1]?=some (.loop (rec .ready none)):=(QD.kept (D+1) _ (by rw[AD];exact krl)).2.1;have hbr:=run_beginRound (P:=P) HU (by rw[zv]);refine⟨_,hbr,?_⟩;have R2:=QD.nO (l:=D+1) (o:=.loop (rec .ready none)) (by rw[AD];exact krl) (.loop { rec .ready none with state:=.busy })
    let kb:Nat->Option Obj:=au kr (D+1) (some (.loop { rec .ready none with state:=.busy }))
    have Pv:({ g1.old with aV:=au g1.old.aV (D+1) (some (.loop { rec .ready none with state:=.busy })) }:Old)=mk kb gc.Pr W:=by rw[AD]
    refine ae1 (jb hG cq hm (old:=mk kb gc.Pr W) body _ _ _ _ _ _ jP (λd hd (hh:L d=false)=>by have:=hLb d hd;rw[this]at hh;cases hh) Pv R2 hb) ?_;have kbl:kb (D+1)=some (.loop { rec .ready none with state:=.busy }):=aO _ _ _
    have fin:∀ (g3:Gh) (S3:an) (H3:ao) (a3:Act) (w3:World) (jump:Option Code),g3.old=mk kb gc.Pr W→Rel P w0 n bL g3 S3 H3 a3 w3 →
      ∃w4,(Instr.endRound (D+1) jump).run P w3=.ok (.bool jump.isNone) w4/\(∀b,M b->¬G b->w4.heap[b]?=W.heap[b]?)/\∃g4,bf g'.Pr g4.Pr W w4/\
       Rel P w0 n bL g4 Se H3 al w4/\g4.old=mk (au kp (D+1) (some (.loop (rec (if jump.isNone then .ready else .done) jump)))) g.old.sp g.old.sw/\∀b,M b/\¬G b->wU g4 b/\b<w4.heap.size/\kp b=none:=by
     intro g3 S3 H3 a3 w3 jump Av R3;have B4:w3.heap[D+1]?=some (.loop { rec .ready none with state:=.busy }):=(R3.kept (D+1) _ (by rw[Av];exact kbl)).2.1;have Ji:=run_endRound (P:=P) jump B4
     obtain⟨w4,nv⟩:∃w4,w3.putObj (D+1) (.loop { ({ rec .ready none with state:=.busy }:Loop)with state:=if jump.isNone then .ready else .done,pending:=jump })=w4:=⟨_,rfl⟩
     rw[nv]at Ji;have R4:=R3.nO (l:=D+1) (o:=.loop { rec .ready none with state:=.busy }) (by rw[Av];exact kbl) (.loop { ({ rec .ready none with state:=.busy }:Loop)with state:=if jump.isNone then .ready else .done,pending:=jump });rw[nv]at R4
     have Ox:({ ({ rec .ready none with state:=.busy }:Loop)with state:=if jump.isNone then .ready else .done,pending:=jump })=rec (if jump.isNone then .ready else .done) jump:=by rw[zv]
     rw[Ox]at R4
     have ho4:({ g3.old with aV:=au g3.old.aV (D+1) (some (.loop (rec (if jump.isNone then .ready else .done) jump))) }:Old)=mk (au kr (D+1) (some (.loop (rec (if jump.isNone then .ready else .done) jump)))) gc.Pr W:=by
      rw[Av];simp only[mk,Old.mk.injEq,ag8,agP]
      funext b
      by_cases lS:b=D+1
      .subst lS;simp[au]
      .simp[au,kb,lS]
     obtain⟨g4,hg4⟩:∃g4,({ g3 with old:={ g3.old with aV:=au g3.old.aV (D+1) (some (.loop (rec (if jump.isNone then .ready else .done) jump))) } }:Gh)=g4:=⟨_,rfl⟩
     rw[hg4]at R4
     have A7:g4.old=mk (au kr (D+1) (some (.loop (rec (if jump.isNone then .ready else .done) jump)))) gc.Pr W:=by rw[<-hg4];exact ho4
     have hKW:bf g'.Pr g4.Pr W w4:=hKc.trans (by have:=R4.still;rw[A7]at this;exact this)
     have aba:∀b,M b->b≠D+1:=by rintro b hb rfl;exact hMl hb
     have hkr:∀b,M b->¬G b->∃ob,W.heap[b]?=some ob/\g4.old.aV b=some ob:=by
      intro b hb mL;have aq:=(e4 b hb).2.1;refine⟨W.heap[b],by simp[aq],?_⟩;rw[A7];simp[mk,au,aba b hb,kr,hb,mL,aq]
     have R5:=R4.Em (mk (au kp (D+1) (some (.loop (rec (if jump.isNone then .ready else .done) jump)))) g.old.sp g.old.sw) (a2:=al) (S2:=Se) (by rw[A7]) bj rfl
      (λq hq=>R4.facts q (by rw[A7];exact hq)) (by
       have h1:=R'.still;rw[e1]at h1
       exact h1.trans hKW) (by
       have h1:=R'.grown;rw[e1]at h1;have h2:=R4.grown;rw[A7]at h2
       exact aeo h1 h2)
      (λb ob hb=>by
       have hq:g4.old.aV b=some ob:=by
        rw[A7];simp only[mk]at hb⊢
        by_cases lS:b=D+1
        .subst lS;simpa[au]using hb
        .simp only[aQ _ _ lS]at hb⊢;simp only[kr];rw[if_neg];exact hb;rintro⟨hMb,_⟩;rw[(e4 b hMb).2.2]at hb;cases hb
       obtain⟨h1,h2,h3,h4,h5⟩:=R4.kept b ob hq
       exact⟨⟨h1,h3,h4,h5⟩,h2⟩)
      (λt ht=>Pl R4 (by rw[A7]) t ht)
     refine⟨w4,Ji,λb hb mL=>?_,{ g4 with old:=mk (au kp (D+1) (some (.loop (rec (if jump.isNone then .ready else .done) jump)))) g.old.sp g.old.sw },?_,R5,rfl,λb hb=>?_⟩
     .obtain⟨ob,h1,h2⟩:=hkr b hb mL;rw[h1];exact(R4.kept b ob h2).2.1
     .have:(({ g4 with old:=mk (au kp (D+1) (some (.loop (rec (if jump.isNone then .ready else .done) jump)))) g.old.sp g.old.sw }:Gh)).Pr=g4.Pr:=by
       funext b j;simp only[Gh.Pr,A7,mk]
      rw[this];exact hKW
     .obtain⟨ob,h1,h2⟩:=hkr b hb.1 hb.2;obtain⟨q1,q2,q3,q4,q5⟩:=R4.kept b ob h2;exact⟨⟨q1,q3,q4,q5⟩,(adj.1 q2).1,(e4 b hb.1).2.2⟩
    intro e2 a3 w3 PE
    cases e2 with
    |normal=>
     obtain⟨g3,S3,H3,Av,R3,SJ⟩:=PE;obtain⟨w4,Ji,q1,g4,q3,R4,q4,q5⟩:=fin g3 S3 H3 a3 w3 none Av R3;refine⟨_,w4,Ji,q1,g4.Pr,q3,.inl ⟨rfl,g4,H3,R4,?_,rfl,SJ,q5⟩⟩;rw[q4];simp only[FQ,mk,Old.mk.injEq,ag8,agP,Option.isNone_none,adS]
     funext b
     by_cases lS:b=D+1
     .subst lS;simp[au,QJ]
     .simp[au,lS]
    |ret=>
     obtain⟨g3,S3,H3,Av,R3,SJ⟩:=PE;obtain⟨w4,Ji,q1,g4,q3,R4,q4,q5⟩:=fin g3 S3 H3 a3 w3 (some .ret) Av R3;exact⟨_,w4,Ji,q1,g4.Pr,q3,.inr ⟨rfl,.ret,.ret,g4,H3,R4,q4,rfl,rfl,SJ,q5⟩⟩
    |exit id=>
     obtain⟨g3,S3,H3,Av,R3,SJ⟩:=PE;obtain⟨w4,Ji,q1,g4,q3,R4,q4,q5⟩:=fin g3 S3 H3 a3 w3 (some (.exit id)) Av R3;exact⟨_,w4,Ji,q1,g4.Pr,q3,.inr ⟨rfl,.exit id,.exit id,g4,H3,R4,q4,rfl,rfl,SJ,q5⟩⟩
    |panic ch=>obtain⟨_,_,_,_,_,_,_,_,_,_,hh⟩:=PE;exact hh.elim
    |goto l=>exact PE.elim
    |outgrown=>exact PE.elim
   |exit id=>obtain⟨_,_,_,_,_,hh⟩:=hq;exact hh.elim
   |ret=>obtain⟨_,_,_,_,_,hh⟩:=hq;exact hh.elim
   |panic ch=>obtain⟨_,_,_,_,_,_,_,_,_,_,hh⟩:=hq;exact hh.elim
   |goto l=>exact hq.elim
   |outgrown=>exact hq.elim }
 have Lj:∀ (g':Gh) (H':ao) (w2:World) (st:LoopState) (pe:Option Code),st ≠ .busy→Rel P w0 n bL g' Se H' al w2→g'.old=mk (au kp (D+1) (some (.loop (rec st pe)))) g.old.sp g.old.sw →
   ∃w4 g4,(Instr.endLoop (D+1)).run P w2=.ok pe w4/\Rel P w0 n bL g4 Se H' { a with defers:=[{ target:=.collected D,args:=#[] }]++a.defers } w4/\g4.old=g.old.mark D:=by
  intro g' H' w2 st pe eL R' e1
  have jv:g'.old.aV (D+1)=some (.loop (rec st pe)):=by rw[e1];exact aO _ _ _
  have ux:=(R'.kept (D+1) _ jv).2.1;have CY:=run_endLoop (P:=P) ux (by rw[zv];exact eL);have R2:=R'.nO jv (.loop { rec st pe with state:=.exhausted })
  obtain⟨W4,hW4⟩:∃W4,w2.putObj (D+1) (.loop { rec st pe with state:=.exhausted })=W4:=⟨_,rfl⟩
  rw[hW4]at CY R2
  have vv:(rec st pe).pending=pe:=by rw[zv]
  rw[vv]at CY
  have hold:∀b ob,(g.old.mark D).aV b=some ob->({ g' with old:={ g'.old with aV:=au g'.old.aV (D+1) (some (.loop { rec st pe with state:=.exhausted })) } }:Gh).old.aV b=some ob:=by
   intro b ob hb;simp only[Old.mark]at hb
   by_cases X5:b=D
   .subst X5;rw[aO]at hb;cases hb;show au g'.old.aV (b+1) _ b=_;rw[aQ _ _ zo,e1];show au kp (b+1) _ b=_;rw[aQ _ _ zo];show au (au g.old.aV b _) (b+1) _ b=_;rw[aQ _ _ zo,aO]
   .rw[aQ _ _ X5]at hb
    have aq:b<D:=by
     rcases aeI b D with h|h
     .exact h
     .rw[B_ b h]at hb;cases hb
    show au g'.old.aV (D+1) _ b=_;rw[aQ _ _ zo,e1];show au kp (D+1) _ b=_;rw[aQ _ _ zo];show au (au g.old.aV D _) (D+1) _ b=_;rw[aQ _ _ zo,aQ _ _ X5];exact hb
  have R3:=R2.Em (g.old.mark D) (a2:={ a with defers:=[{ target:=.collected D,args:=#[] }]++a.defers }) (S2:=Se) (by show g.old.c=g'.old.c;rw[e1]) bj (by show[_]++a.defers=_::_;rw[R.defers];rfl) (λq hq=>R2.facts q ?_) ?_ ?_ (λb ob hb=>?_) (λt ht=>Pl R2 (by show g'.old.facts=_;rw[e1]) t ht)
  .refine⟨_,_,CY,R3,?_⟩
   rfl
  .show q∈g'.old.facts;rw[e1];exact afJ _ hq
  .have h:=R2.still
   have:({ g' with old:={ g'.old with aV:=au g'.old.aV (D+1) (some (.loop { rec st pe with state:=.exhausted })) } }:Gh).old.sp=g.old.sp:=by show g'.old.sp=_;rw[e1]
   rw[this]at h
   have:({ g' with old:={ g'.old with aV:=au g'.old.aV (D+1) (some (.loop { rec st pe with state:=.exhausted })) } }:Gh).old.sw=g.old.sw:=by show g'.old.sw=_;rw[e1]
   rw[this]at h;exact h
  .have h:=R2.grown
   have:({ g' with old:={ g'.old with aV:=au g'.old.aV (D+1) (some (.loop { rec st pe with state:=.exhausted })) } }:Gh).old.sw=g.old.sw:=by show g'.old.sw=_;rw[e1]
   rw[this]at h;exact h
  .obtain⟨h1,h2,h3,h4,h5⟩:=R2.kept b ob (hold b ob hb);exact⟨⟨h1,h3,h4,h5⟩,h2⟩
 refine⟨D+1,[{ target:=.collected D,args:=#[] }],W1,{ target:=.fn (.func f) us,args:=#[.func (.yield (D+1)) #[] #[]] },W1,f,#[.func (.yield (D+1)) #[] #[]]++us,W1,?_,?_,λ_ _=>trivial,?_,λh=>by simp[FR,Fence.wide]at h,?_⟩
 .rw[<-V3,zv,<-hD];exact run_enterLoop_outer _ _ _ _ _
 .simp only[resolve,sD];simp[go_sem]
 .simp[invoke,go_sem,f_ hf]
 .refine iU.2 ((hit (D+1) C W1 g.Pr us ?_ kJ Sy).mono ?_)
  .refine⟨{ g with old:=FQ },H,R1.Em FQ rfl bj rfl (λq hq=>?_) R1.still R1.grown (λb ob hb=>?_) (λt ht=>⟨Yv t,(R1.slot t ht id).pC⟩),rfl,rfl,h0,λb hb=>hb.elim⟩
   .rcases adm.1 hq with h|h
    .obtain⟨t,ht,rfl⟩:=adF.1 h;exact(R1.slot t (adQ.1 ht) id).pC
    .exact R1.facts q h
   .simp only[FQ,mk,kp]at hb
    by_cases h1:b=D+1
    .subst h1;rw[aO]at hb;cases hb;exact⟨mR _ zo,hL1⟩
    .rw[aQ _ _ h1]at hb
     by_cases h2:b=D
     .subst h2;rw[aO]at hb;cases hb;exact⟨mR _ zo,hK1⟩
     .rw[aQ _ _ h2]at hb;obtain⟨q1,q2,q3,q4,q5⟩:=R1.kept b ob hb;exact⟨⟨q1,q3,q4,q5⟩,q2⟩
  .rintro e w2 ⟨v,M,eS,rfl,hJ|hX⟩
   .obtain⟨g',H',R',e1,_,hI,_⟩:=hJ
    have Ib:au kp (D+1) (some (.loop (rec .ready none)))=kp:=by
     funext b
     by_cases hb:b=D+1
     .subst hb;rw[aO,QJ]
     .rw[aQ _ _ hb]
    obtain⟨w4,g4,h1,R4,h2⟩:=Lj g' H' w2 .ready none ahi R' (by rw[Ib];exact e1);exact⟨none,w4,h1,g4,Se,H',R4,by rw[h2];exact XA D H' (B_ D (adl _)) hI⟩
   .obtain⟨e,jc,g',H',R',e1,ej,_,hI,_⟩:=hX;obtain⟨w4,g4,h1,R4,h2⟩:=Lj g' H' w2 .done (some jc) ahi R' e1;refine⟨some jc,w4,h1,?_⟩;have hq:=Xy D e H' (B_ D (adl _)) (by rw[ej];rfl) hI
    cases e<;>simp only[Hz]at ej<;>cases ej
    .exact afx ⟨g4,Se,H',R4,by rw[h2];exact hq⟩
    .exact afh ⟨g4,Se,H',R4,by rw[h2];exact hq⟩
end
def ep(o:Old):Prop:=∃Ds:List Nat,Ds.Nodup/\o.ds=Ds.map (λD=>{ target:=.collected D,args:=#[] })/\∀D∈Ds,o.aV D=some (.deferred (some []))
def ep.plain{o:Old}(h:o.ds=[]):ep o:=⟨[],.nil,by simpa using h,ahi⟩
def ep.mark{o:Old}{D:Nat}(h:ep o)(hD:o.aV D=none):ep (o.mark D):=by
 obtain⟨Ds,h1,h2,h3⟩:=h
 have hn:D∉Ds:=λhm=>by rw[h3 D hm]at hD;cases hD
 refine⟨D::Ds,ae9.2 ⟨hn,h1⟩,by simp[Old.mark,h2],λE hE=>?_⟩;rcases adT.1 hE with rfl|hE
 .exact aO _ _ _
 .show au o.aV D _ E=_;rw[aQ _ _ (λe:E=D=>hn (by rw[<-e];exact hE))];exact h3 E hE
section
variable{P:Program}{GI:World->Prop}{w0:World}{n:Nat}{g:Gh}{S:an}{H:ao}{a:Act}{w:World}
def wN {F:Fence} {m:Nat} {fn:Func} {tmps:Array Value} {R:Ending→World→Prop}:∀ (Ds:List Nat) {g:Gh} {w:World},Rel P w0 n bL g S H a w→Ds.Nodup→(∀ D∈Ds,g.old.aV D=some (.deferred (some []))) →
  (∀g' w',Rel P w0 n bL g' S H a w'->g'.old.c=g.old.c->∃v,(results fn tmps).run P w'=.ok v w'/\R (.returned v) w')->
  LeavesInM F m P fn tmps R (Ds.map λD=>{ target:=.collected D,args:=#[] }) .returning w
 |[],g,w,R',_,_,DM=>DM g w R' rfl
 |D::Ds,g,w,R',dL,hk,DM=>by
  obtain⟨h1,h2⟩:=ae9.1 dL;have hD:=hk D adx;have R2:=R'.nO hD (.deferred none);refine⟨ahi,.inl ⟨D,_,rfl,run_takeDeferred (R'.kept D _ hD).2.1,?_⟩⟩;refine wN Ds R2 h2 (λE hE=>?_) (λg' w' R3 hc=>DM g' w' R3 hc);show au g.old.aV D _ E=_;rw[aQ _ _ (λe:E=D=>h1 (by rw[<-e];exact hE))];exact hk E (adu _ hE)
def Rel.begin {fn:Func} {args:List AV} {old:Nat→Nat→Prop} {bP:Array Value} (hn:fn.ntmps=n) (hl:args.length≤n) (hlen:args.length=bP.size)
  (hr:∀i (h:i<args.length)(h':i<bP.size),RV old (λ_=>none) w args[i] bP[i]):
  Rel P w n bL { base:=w.heap.size,old:=Old.plain old w,al:=λ_=>none,hi:=λ_=>0,owner:=λ_=>none } (start args) (λ_=>none) { tmps:=bP++Array.replicate (fn.ntmps-bP.size) undef,defers:=[] } w:=by
 have bj:(bP++Array.replicate (fn.ntmps-bP.size) undef).size=n:=by simp;omega
 refine{ size:=bj,defers:=rfl,facts:=λ_ h=>(by cases h),slot:=?_,own:=?_,box:=?_,jQ:=?_,jX:=?_,inj:=?_,base:=rfl,below:=aej _ _,fresh:=λb _=>⟨rfl,rfl⟩,still:=⟨λ_ _ h=>h.elim,λ_ h=>h.elim⟩,grown:=adl _,kept:=λ_ _ h=>(by cases h) }
 .intro t ht _
  by_cases N0:t<args.length
  .have h1:start args t=args[t].aJ:=by simp[start,N0]
   have h2:(bP++Array.replicate (fn.ntmps-bP.size) undef).getD t undef=bP[t]' zo:=by
    have:t<bP.size:=zo
    simp[afg,this]
   rw[h1,h2];refine((hr t N0 zo).mono (bf.same λb k aq hp=>.inl ⟨aq,hp⟩) (λ_ _ h=>h)).aJ
  .have h1:start args t=cz:=by simp[start,N0,cz,AV.aJ]
   have h2:(bP++Array.replicate (fn.ntmps-bP.size) undef).getD t undef=undef:=by
    have:¬t<bP.size:=zo
    simp only[adE,afg,this,adH]
    by_cases hh:t-bP.size<fn.ntmps-bP.size
    .simp[hh]
    .simp[hh]
   rw[h1,h2];exact .data _ _ (vg _ _)
 .intro t ht _;exact gW _ _ _
 .intro i b h;cases h
 .intro i cs h;cases h
 .intro i h;rfl
 .intro i j b h;cases h
def oa(P:Program)(n:Nat)(rs:List ResultVar)(out:iJ)(c:Nat->Nat->Prop):eW
 |.normal,o,S,H|.ret,o,S,H=>ep o/\o.c=c/\∃v,cM P n rs S H=some v/\out=.ret v
 |.panic v,o,_,_=>o.ds=[]/\o.c=c/\out=.panic v
 |_,_,_,_=>False
def AC.jF {f:Nat} {fn:Func} {c:Code} {args:List AV} {out:iJ} (hf:P.funcs[f]? = some fn) (hb:fn.body=some c) (hn:fn.ntmps=n) (hl:args.length≤n)
  (h:∀cc w,SW P GI n none c (oa P n fn.results.toList out cc) (Old.plain cc w) (start args) (λ_=>none)):AC P GI f args out:=by
 intro w old bP gj hlen hr;refine(iU (ro:=none) (m:=0)).1 (callsIn_of_wp_marks hf hb trivial ?_);have R:Rel P w n bL _ (start args) (λ_=>none) { tmps:=bP++Array.replicate (fn.ntmps-bP.size) undef,defers:=[] } w:=Rel.begin hn hl hlen hr;refine ae1 (h old w w _ _ w 0 gj rfl R) ?_;intro e a' w' he
 have fin:(∃ g' S H,Rel P w n bL g' S H a' w'∧ep g'.old∧g'.old.c=old∧∃ v,cM P n fn.results.toList S H=some v∧out = .ret v) →
   LeavesInM (FR none) 0 P fn a'.tmps (Ends P old w out) a'.defers .returning w':=by
  rintro⟨g',S,H,R',⟨Ds,h1,h2,h3⟩,hc,v,hv,rfl⟩;rw[R'.defers,h2]
  refine wN Ds R' h1 h3 λg2 w2 R2 jB=>?_
  obtain⟨c,r1,r2,r3⟩:=vj R2 hv;refine⟨c,r1,?_,g2.hi,λb hb=>(R2.fresh b hb).1,c,rfl,?_,?_⟩
  .have:=R2.below;rwa [R2.base]at this
  .have:g2.Pr=pK w.heap.size old g2.hi:=by
    funext b k
    simp only[Gh.Pr,pK,R2.base,jB,hc]
   rw[this]at r2;exact .data _ _ r2
  .rwa [R2.base]at r3
 cases e with
 |normal=>exact fin he
 |ret=>exact fin he
 |exit id=>obtain⟨_,_,_,_,h⟩:=he;exact h.elim
 |panic chain=>
  obtain⟨o,v,c,hi,S,H,h1,h2,h3,h4,h5,h6,rfl,rfl⟩:=he;subst h2;show LeavesInM (FR none) 0 P fn a'.tmps _ a'.defers _ w';rw[h1,h6];exact⟨h3,hi,h4,c,rfl,h5⟩
 |goto l=>exact he.elim
 |outgrown=>exact he.elim
def XX(n:Nat)(rs:List ResultVar)(out:iJ):dT->an->ao->Prop
 |.normal,S,H|.ret,S,H=>∃t fn fi ca,rs=[.tmp t]/\t<n/\S t=.func fn fi ca/\out=.ret (fz H (S t))
 |_,_,_=>False
open Classical in
def AC.Fe (hG:ar GI) (hm:P.follows .mixedOrders=true) {f:Nat} {fn:Func} {c:Code} {args:List AV} {out:iJ} (hf:P.funcs[f]? = some fn) (hb:fn.body=some c) (hn:fn.ntmps=n) (hl:args.length≤n) {ac:ah} (hc:dw P n c=ac)
  (h:bD P GI ac (XX n fn.results.toList out) (start args) (λ_=>none)):AC P GI f args out:=by
 intro w old bP gj hlen hr;refine afo hf hb ?_;subst hc;have R:Rel P w n bL _ (start args) (λ_=>none) { tmps:=bP++Array.replicate (fn.ntmps-bP.size) undef,defers:=[] } w:=Rel.begin hn hl hlen hr;refine agK (mI hG gj hm c _ _ _ _ _ w (λ_ _ h=>h) rfl R h) ?_;intro e a' w' he
 have fin:(∃ g' S H,g'.old=Old.plain old w∧Rel P w n bL g' S H a' w'∧∃ t f' fi ca,fn.results.toList=[.tmp t]∧t < n∧S t = .func f' fi ca∧out = .ret (fz H (S t))) →
   a'.defers=[]/\∃v,(results fn a'.tmps).run P w'=.ok v w'/\Ends P old w out (.returned v) w':=by
  rintro⟨g',S,H,e1,R',t,f',fi,ca,hrs,ht,hS,rfl⟩
  have aar:fn.results=#[.tmp t]:=by
   rw[<-Array.toArray_toList (xs:=fn.results),hrs]
  have hv:=R'.fz (R'.slot t ht id) true (λ_=>rfl)
  have FM:∀b,(∃i,g'.al i=some b)->g'.base<=b/\g'.hi b=0/\∃vs ty,w'.heap[b]?=some (.cells vs ty (0,0)):=by
   rintro b ⟨i,hi⟩;obtain⟨cs,vs,ty,h1,h2,h3,h4,_⟩:=R'.box i b hi;exact⟨h2,h4,vs,ty,h3⟩
  let dv:Nat->Nat:=λb=>if∃i,g'.al i=some b then(match w'.heap[b]? with|some (.cells vs _ _)=>vs.size|_=>0)else g'.hi b
  have qo:∀b k,g'.Pr b k->pK w.heap.size old dv b k:=by
   intro b k hp
   rcases hp with⟨q1,q2⟩|⟨q1,q2⟩
   .exact .inl ⟨by rw[<-R'.base];exact q1,by rw[e1]at q2;exact q2⟩
   .refine .inr ⟨by rw[<-R'.base];exact q1,?_⟩;show k<(if∃i,g'.al i=some b then _ else g'.hi b);rw[if_neg]
    .exact q2
    .intro hex;rw[(FM b hex).2.1]at q2;omega
  refine⟨by rw[R'.defers,e1];rfl,a'.tmps.getD t undef,by simp[results,aar],?_,dv,λb hb=>?_,_,rfl,?_,?_⟩
  .have:=R'.below;rwa [R'.base]at this
  .show(if∃i,g'.al i=some b then _ else g'.hi b)=0;rw[if_neg]
   .exact(R'.fresh b hb).1
   .intro hex;obtain⟨_,_,vs,ty,h3⟩:=FM b hex;have:=(adj.1 h3).1;omega
  .refine hv.mono ?_ (λ_ _ h=>h);refine{ cell:=λb k hp u hu=>⟨?_,hu⟩,map:=λb hp es cc Mk=>⟨?_,Mk⟩ }
   .rcases hp with hp|⟨_,hex⟩
    .exact qo b k hp
    .obtain⟨h1,h2,vs,ty,h3⟩:=FM b hex;refine .inr ⟨by rw[<-R'.base];exact h1,?_⟩;show k<(if∃i,g'.al i=some b then _ else g'.hi b);rw[if_pos hex,h3];simp[World.cell?,h3]at hu;exact(adj.1 hu).1
   .rcases hp with hp|⟨_,hex⟩
    .exact qo b 0 hp
    .obtain⟨h1,h2,vs,ty,h3⟩:=FM b hex;rw[h3]at Mk;cases Mk
  .rw[hS];simp only[fz]
   trivial
 cases e with
 |normal=>exact fin he
 |ret=>exact fin he
 |exit id=>obtain⟨_,_,_,_,_,h⟩:=he;exact h.elim
 |panic chain=>obtain⟨_,_,_,_,_,_,_,_,_,_,h⟩:=he;exact h.elim
 |goto l=>exact he.elim
 |outgrown=>exact he.elim
end
def oc{α:Type}{p A b s:α->Prop}{o:α}(h:A o)(k:s o)(hp:p o:=by kernel_rfl)(hb:b o:=by simp[cW,au]):∃o,p o/\A o/\b o/\s o:=⟨o,hp,h,hb,k⟩
inductive TT(α:Type) where
 |lf (v:α)
 |nd (a b c d:TT α)
namespace TT
variable{α:Type}
noncomputable def G(z:α)(k:Nat):TT α->Nat->α:=
 Nat.rec (motive:=λ_=>TT α->Nat->α) (λt _=>match t with|.lf v=>v|.nd ..=>z)
  (λ_ ih t i=>match t with
   |.lf v=>v
   |.nd a b c d=>bif Nat.beq (i % 4) 0 then ih a (i/4)else bif Nat.beq (i % 4) 1 then ih b (i/4)else bif Nat.beq (i % 4) 2 then ih c (i/4)else ih d (i/4)) k
noncomputable def P(k:Nat):TT α->Nat->α->TT α:=
 Nat.rec (motive:=λ_=>TT α->Nat->α->TT α) (λ_ _ v=>.lf v)
  (λ_ ih t i v=>match t with
   |.lf x=>bif Nat.beq (i % 4) 0 then .nd (ih (.lf x) (i/4) v) (.lf x) (.lf x) (.lf x)else bif Nat.beq (i % 4) 1 then .nd (.lf x) (ih (.lf x) (i/4) v) (.lf x) (.lf x)else bif Nat.beq (i % 4) 2 then .nd (.lf x) (.lf x) (ih (.lf x) (i/4) v) (.lf x)else .nd (.lf x) (.lf x) (.lf x) (ih (.lf x) (i/4) v)
   |.nd a b c d=>bif Nat.beq (i % 4) 0 then .nd (ih a (i/4) v) b c d else bif Nat.beq (i % 4) 1 then .nd a (ih b (i/4) v) c d else bif Nat.beq (i % 4) 2 then .nd a b (ih c (i/4) v) d else .nd a b c (ih d (i/4) v)) k
noncomputable def M(f:α->α)(k:Nat):TT α->TT α:=
 Nat.rec (motive:=λ_=>TT α->TT α) (λt=>match t with|.lf v=>.lf (f v)|t=>t)
  (λ_ ih t=>match t with
   |.lf v=>.lf (f v)
   |.nd a b c d=>.nd (ih a) (ih b) (ih c) (ih d)) k
end TT
abbrev TS:=TT AV
abbrev TH:=TT (Option (List AV))
noncomputable def gT(s:TS):an:=λt=>bif Nat.ble 256 t then cz else s.G cz 4 t
noncomputable def gU(h:TH):ao:=λt=>bif Nat.ble 256 t then none else h.G none 4 t
noncomputable def Cy{α:Type}(s:TT α)(i:Nat)(v:α):Option (TT α):=bif Nat.ble 256 i then none else some (s.P 4 i v)
noncomputable def Pk(d:Nat)(s:TS):TS:=s.M (cd d) 4
noncomputable def W_(s:TS):Option Nat->AV->Option TS
 |some d,v=>Cy s d v
 |none,_=>some s
noncomputable def acw(e:aP)(dst:Option Nat)(s:TS)(h:TH):Option (TS×TH):=
 match(match e.dm with|some t=>Cy s t (gT s t).aJ|none=>some s)with
 |none=>none
 |some s1=>match W_ s1 dst e.v with
  |none=>none
  |some s2=>match e.hw with
   |some (i,cs)=>match Cy h i (some cs)with
    |some h'=>some (s2,h')
    |none=>none
   |none=>some (s2,h)
inductive Pp where
 |go (s:TS) (h:TH)|panic (v:AV)
noncomputable def Pp.on(K:an->ao->Prop)(Qp:AV->Prop):Pp->Prop
 |.go s h=>K (gT s) (gU h)
 |.panic v=>Qp v
noncomputable def mw(dst:Option Nat)(s:TS)(h:TH):iJ->Option Pp
 |.ret v=>(W_ s dst v).map λs'=>.go s' h
 |.panic v=>some (.panic v)
section
variable{P:Program}{GI:World->Prop}{call:DB}(mc:∀f args out,call f args=some out->AC P GI f args out)
include mc
end
end Go.AL
namespace Go.AL
open Go.RowKit
def U0:eC->an->ao->Option aP
 |.mv take x=>λS H=>if take then some { v:=ev S x,dm:=bw x }else some { v:=(ev S x).aJ }
 |.pick c a b=>λS H=>match ev S c with
  |.bool t=>some { v:=(if t then ev S a else ev S b).aJ }
  |_=>none
 |.build zero parts=>λS H=>(bI zero (parts.map λ(o,s,x)=>(o,s,ev S x))).map λcs=>{ v:=.agg cs }
 |.buildSlice _ e size parts=>λS H=>
  if aG size (parts.map (ev S))&&parts.length*size<=16777216 then some { v:=.slice (.own e) ((parts.map (ev S)).map AV.vw) }else none
 |.load hr agg size x=>λS H=>match ev S x with
  |.box i off=>if hr.okB i then match H i with
   |some cs=>(cb agg size (cs.drop off)).map λv=>{ v:=v }
   |none=>none
   else none
  |.ref cs=>(cb agg size cs).map λv=>{ v:=v }
  |_=>none
 |.loadT hr x=>λS H=>match ev S x with
  |.box i off=>if hr.okB i then match H i with
   |some cs=>match cs[off]? with
    |some v=>some { v:=v,hw:=some (i,cs.set off v.aJ) }
    |none=>none
   |none=>none
   else none
  |_=>none
 |.store hr size x y=>λS H=>match ev S x with
  |.box i off=>if hr.okB i then match H i with
   |some cs=>if (ev S y).cells.length=size∧off+size≤cs.length∧(ev S y).storable=true then
     some { v:=cz,dm:=bw y,hw:=some (i,bB cs off (ev S y).cy) }else none
   |none=>none
   else none
  |_=>none
 |.bin op x y=>λS H=>(dS op (ev S x) (ev S y)).map λv=>{ v:=v }
 |.Eo neg x y=>λS H=>match ev S x,ev S y with
  |.bool a,.bool b=>some { v:=.bool (if neg then a !=b else a==b) }
  |_,_=>none
 |.eqs neg k x y=>λS H=>match ev S x,ev S y with
  |.agg xs,.agg ys=>match ku xs,ku ys with
   |some a,some b=>if a.length=k/\b.length=k then some { v:=.bool (if neg then a !=b else a==b) }else none
   |_,_=>none
  |_,_=>none
 |.mK ag len size x i=>λS H=>match ev S x,ev S i with
  |.agg cs,.int .i64 k=>if 0<=k/\k<len then(cb ag size (cs.drop (k.toNat*size))).map λv=>{ v:=v }else none
  |_,_=>none
 |.oQ xs=>λS H=>if(xs.map (ev S)).all Bg then some { v:=.gJ (xs.map (ev S)) }else none
 |.oP len x i=>λS H=>match ev S x,ev S i with
  |.gJ fs,.int .i64 k=>if 0≤k∧k < len then match fs[k.toNat]? with
    |some v=>if Bg v then some { v:=v }else none
    |none=>none
   else none
  |_,_=>none
 |.yJ x=>λS H=>match ev S x with
  |.slice _ es=>(bytesOf es).map λl=>{ v:=.str l }
  |_=>none
 |.lookup k z x i=>λS H=>match ev S x,ev S i with
  |.map ks vs,.agg c=>match ku c with
   |some key=>if key.length=k then match oD key ks vs with
     |some (some v)=>some { v:=.dR [v.aJ,.bool true] }
     |some none=>some { v:=.dR [z,.bool false] }
     |none=>none
    else none
   |none=>none
  |_,_=>none
 |.not x=>λS H=>match ev S x with
  |.bool b=>some { v:=.bool !b }
  |_=>none
 |.conv k x=>λS H=>match ev S x with
  |.int _ n=>some { v:=.int k (k.wrap n) }
  |_=>none
 |.iface t x=>λS H=>if(ev S x).storable then some { v:=.iface t (ev S x).vw }else none
 |.EK fn first cap=>λS H=>some { v:=.func fn (first.map λx=>(ev S x).aJ) (cap.map λx=>(ev S x).aJ) }
 |.oN x lo hi=>λS H=>match ev S x with
  |.str l=>match bound (lo.map (ev S)) 0,bound (hi.map (ev S)) l.length with
   |some a,some b=>if 0<=a/\a<=b/\b<=l.length then some { v:=.str ((l.take b.toNat).drop a.toNat) }else none
   |_,_=>none
  |_=>none
 |.pP len x=>λS H=>match ev S x with
  |.ref cs=>if cs.length=len then some { v:=.slice .view cs }else none
  |_=>none
 |.nC size x lo hi=>λS H=>match ev S x with
  |.slice _ es=>match bound (lo.map (ev S)) 0,bound (hi.map (ev S)) es.length with
   |some a,some b=>if 0<=a/\a<=b/\b<=es.length/\aG size es=true then some { v:=.slice .view ((es.take b.toNat).drop a.toNat) }else none
   |_,_=>none
  |_=>none
 |.fieldAddr off x=>λS H=>match ev S x with
  |.box i o=>some { v:=.box i (o+off) }
  |.ref cs=>some { v:=.ref (cs.drop off) }
  |_=>none
 |.indexAddr size x i=>λS H=>match ev S x,ev S i with
  |.slice _ es,.int .i64 k=>if 0≤k then match es[k.toNat]? with
    |some v=>if v.cells.length=size then some { v:=.ref v.cells }else none
    |none=>none
   else none
  |_,_=>none
 |.oT x i=>λS H=>match ev S x,ev S i with
  |.str l,.int .i64 k=>if 0≤k then match l[k.toNat]? with
    |some b=>some { v:=.int .u8 b.toNat }
    |none=>none
   else none
  |_,_=>none
 |.extract x i=>λS H=>match ev S x with
  |.dR vs=>(vs[i]?).map λv=>{ v:=v.aJ }
  |_=>none
 |.yV x=>λS H=>match ev S x with
  |.str l=>some { v:=.int .i64 l.length }
  |_=>none
 |.kM x=>λS H=>match ev S x with
  |.slice _ es=>some { v:=.int .i64 es.length }
  |_=>none
 |.isNil neg x=>λS H=>match ev S x with
  |.slice _ es=>some { v:=if es.isEmpty then .l4 else .bool neg }
  |_=>none
 |.empty _=>λS H=>some { v:=.slice .nil [] }
 |.append _ e size _ x y=>λS H=>match ev S x,ev S y with
  |.slice .nil [],.slice _ ys=>if aG size ys&&ys.length<1048576 then some { v:=.slice (if ys.isEmpty then .nil else .own e) ys }else none
  |.slice (.own e') xs,.slice _ ys=>if e'=e/\(aG size ys&&aG size xs&&(xs.length+ys.length<1048576))=true then some { v:=.slice (.own e) (xs++ys),dm:=bw x }else none
  |_,_=>none
 |.max x y=>λS H=>match ev S x,ev S y with
  |.int .i64 a,.int .i64 b=>some { v:=.int .i64 (max a b) }
  |_,_=>none
 |.min x y=>λS H=>match ev S x,ev S y with
  |.int .i64 a,.int .i64 b=>some { v:=.int .i64 (min a b) }
  |_,_=>none
 |.assert t zero x=>λS H=>match ev S x with
  |.iface t' v=>some { v:=if t'=t then .dR [v,.bool true]else .dR [zero,.bool false] }
  |.pJ=>some { v:=.dR [zero,.bool false] }
  |_=>none
 |_=>λS H=>none
noncomputable def nU:eC->(P:Program)->(call:DB)->(dst:Option Nat)->(s:TS)->(h:TH)->Option Pp
 |.alloc _ zero=>λ_ _ dst s h=>match dst with
  |some d=>match Cy (Pk d s) d (.box d 0),Cy h d (some zero)with
   |some s',some h'=>some (.go s' h')
   |_,_=>none
  |none=>none
 |.box _ size x=>λ_ _ dst s h=>match dst with
  |some d=>if (ev (gT s) x).cells.length=size∧(ev (gT s) x).storable=true then
    match Cy (Pk d s) d (.box d 0),Cy h d (some ((ev (gT s) x).cells.map AV.aJ))with
    |some s',some h'=>some (.go s' h')
    |_,_=>none
   else none
  |none=>none
 |.call f args=>λP call dst s h=>match RM P call f (args.map λy=>fz (gU h) (ev (gT s) y)) (args.any λy=>cW (ev (gT s) y))with
  |some out=>mw dst s h out
  |none=>none
 |.gr f args=>λP call dst s h=>match ev (gT s) f with
  |.func (.func k) first cap=>match RM P call k ((first++args.map (ev (gT s))++cap).map (fz (gU h))) ((first++args.map (ev (gT s))++cap).any cW)with
   |some out=>mw dst s h out
   |none=>none
  |_=>none
 |.panic x=>λ_ _ _ s _=>match ev (gT s) x with
  |.iface t v=>some (.panic (.iface t v))
  |_=>none
 |op=>λ_ _ dst s h=>match U0 op (gT s) (gU h)with
  |some e=>(acw e dst s h).map λ(s',h')=>.go s' h'
  |none=>none
section
variable{P:Program}{GI:World->Prop}{n:Nat}{S:an}{H:ao}{a:Act}{w:World}{ro:Option Nat}{m:Nat}{Q:Exit->Act->World->Prop}
def Rel.T4 (c:Nat→Nat→Prop) (bj:a.tmps.size=n) (eI:a.defers=[]) (hS:∀ t,t < n→(S t).aJ=S t∧RV c cQ w (S t) (a.tmps.getD t undef)) :
  Rel P w n bL { base:=w.heap.size,old:=Old.plain c w,al:=cQ,hi:=λ_=>0,owner:=λ_=>none } S (λ_=>none) a w:={
 size:=bj
 defers:=eI
 facts _ h:=by cases h
 slot t ht _:=(hS t ht).2.mono (bf.same λb k aq hp=>.inl ⟨aq,hp⟩) (λ_ _ h=>h)
 own t ht _:=by rw[<-(hS t ht).1];exact eK.aJ
 box i b h:=by cases h
 jQ i cs h:=by cases h
 jX i _:=rfl
 inj i j b h:=by cases h
 base:=rfl
 below:=aej _ _
 fresh b _:=⟨rfl,rfl⟩
 still:=⟨λ_ _ h=>h.elim,λ_ h=>h.elim⟩
 grown:=adl _
 kept _ _ h:=by cases h }
def bg {ops:Array Oper} {i:Nat} {rest:List Nat} {o:Oper} (ho:ops[i]? = some o) (hg:o.guard=none) (dL:eH o.op=true) {v:Value} {w':World}
  (hr:(execOp a.eval o).run P w=.ok (.value v) w') (hk:wpOpsIn (FR ro) m P ops Q rest (a.put o.dst v) w'):wpOpsIn (FR ro) m P ops Q (i::rest) a w:=by
 simp only[wpOpsIn,ho]
 have:Region.wanted o (yielded ops a.tmps)=true:=by simp[Region.wanted,hg]
 rw[if_pos this];refine⟨λ_ _=>trivial,?_⟩;rw[aeM _ _ _ (λc hc=>by rw[hc]at dL;cases dL),hr];exact hk
def eT {ops:Array Oper} {i:Nat} {rest:List Nat} {o:Oper} (ho:ops[i]? = some o) (hg:o.guard=none) (dL:eH o.op=true) {w':World}
  (hr:(execOp a.eval o).run P w=.ok .skip w') (hk:wpOpsIn (FR ro) m P ops Q rest (a.put o.dst undef) w'):wpOpsIn (FR ro) m P ops Q (i::rest) a w:=by
 simp only[wpOpsIn,ho]
 have:Region.wanted o (yielded ops a.tmps)=true:=by simp[Region.wanted,hg]
 rw[if_pos this];refine⟨λ_ _=>trivial,?_⟩;rw[aeM _ _ _ (λc hc=>by rw[hc]at dL;cases dL),hr];exact hk
def gk {ops:Array Oper} {i:Nat} {rest:List Nat} {o:Oper} (ho:ops[i]? = some o) (hg:o.guard=none) (dL:eH o.op=true) {f:Nat} {args:Array Value} {w':World}
  (hr:(execOp a.eval o).run P w=.ok (.enter f args) w') {R:Ending->World->Prop} (hc:Calls P f args w' R) (hk:∀e ju,R e ju->∃v,e=.returned v/\wpOpsIn (FR ro) m P ops Q rest (a.put o.dst v) ju):wpOpsIn (FR ro) m P ops Q (i::rest) a w:=by
 simp only[wpOpsIn,ho]
 have:Region.wanted o (yielded ops a.tmps)=true:=by simp[Region.wanted,hg]
 rw[if_pos this];refine⟨λ_ _=>trivial,?_⟩;rw[aeM _ _ _ (λc hc=>by rw[hc]at dL;cases dL),hr];refine⟨λh=>by simp[FR,Fence.wide]at h,iU.2 (hc.mono λe ju hh=>?_)⟩;obtain⟨v,rfl,h⟩:=hk e ju hh;exact h
def Jf {ops:Array Oper} {i:Nat} {rest:List Nat} {o:Oper} (ho:ops[i]? = some o) (hg:o.guard=none) (dL:eH o.op=true) {l f:Nat} {tmps:Array Value} {BU bd:Code} {w':World}
  (hr:(execOp a.eval o).run P w=.ok (.round l f tmps BU bd) w') {R:Ending->World->Prop} (hc:∀m,RoundIn (FR none) m P l f tmps BU bd w' R) (hk:∀e ju,R e ju->∃v,e=.returned v/\wpOpsIn (FR none) m P ops Q rest (a.put o.dst v) ju):wpOpsIn (FR none) m P ops Q (i::rest) a w:=by
 simp only[wpOpsIn,ho]
 have:Region.wanted o (yielded ops a.tmps)=true:=by simp[Region.wanted,hg]
 rw[if_pos this];refine⟨λ_ _=>trivial,?_⟩;rw[aeM _ _ _ (λc hc=>by rw[hc]at dL;cases dL),hr];refine⟨λh=>by simp[FR,Fence.wide]at h,(hc (m-1)).mono λe ju hh=>?_⟩;obtain⟨v,rfl,h⟩:=hk e ju hh;exact h
def Jm(K:Act->World->Prop)(Q:Exit->Act->World->Prop):Exit->Act->World->Prop
 |.normal,a,w=>K a w
 |e,a,w=>Q e a w
def Ci{F:Fence}{o:Oper}{K K':Act->World->Prop}(h:o.wpIn F m P a w K' (Jm K Q)):o.wpIn F m P a w K' Q:=by
 unfold Oper.wpIn at*
 refine⟨h.1,?_⟩;have h2:=h.2
 generalize(o.semAt F.round a.eval).run P w=r at*
 cases r with
 |ok x w'=>
  cases x<;>simp only[Oper.uponIn]at h2⊢<;>first
   |exact h2
   |exact⟨h2.1,agh h2.2 (λe ju he=>by cases e<;>exact he)⟩
   |exact⟨h2.1,agw h2.2 (λ_ _ he=>he)⟩
   |exact⟨h2.1,agi h2.2 (λe ju he=>by cases e<;>exact he)⟩
 |halt x w'=>cases x<;>simp only[Oper.uponIn]at h2⊢<;>exact h2
def oJ(ops:Array Oper):Nat->Nat->Array Bool->Bool
 |0,_,listed=>Region.ready .any ops listed==[]
 |k+1,i,listed=>Region.ready .any ops listed==[i]&&oJ ops k (i+1) (listed.setIfInBounds i true)
def DV(ops:Array Oper)(p:Nat):Nat->Array Bool->Array Bool->Bool
 |0,la,l=>(Region.ready .any (ops.extract 0 p) la==[])&&oJ ops (ops.size-p) p l
 |k+1,la,l=>let r:=Region.ready .any ops l
  r !=[]&&r==Region.ready .any (ops.extract 0 p) la&&r.all (λi=>decide (i<p)&&DV ops p k (la.setIfInBounds i true) (l.setIfInBounds i true))
def cutAt(ops:Array Oper)(p:Nat):Bool:=
 decide (p<=ops.size)&&ops.all (λo=>o.guard.isNone)&&DV ops p p (Array.replicate p false) (Array.replicate ops.size false)
def wJ{F:Fence}{ops:Array Oper}(hg:ops.all (λo=>o.guard.isNone)=true):∀(k i:Nat)(l:Array Bool)(a:Act)(w:World),oJ ops k i l=true->wpOpsIn F m P ops Q (List.range' i k) a w->wpAnyIn F m P .any ops Q k l a w
 |0,i,l,a,w,h,hh=>⟨by simpa[oJ]using h,hh⟩
 |k+1,i,l,a,w,h,hh=>by
  simp only[oJ,adk,adY]at h;refine⟨λhr=>(by rw[hr]at h;cases h.1),λj hj=>?_⟩;rw[h.1,adJ]at hj;subst hj;simp only[aeS]at hh;rw[wpOpsIn_cons]at hh;exact wpOpIn_mono (λa w hq=>wJ hg k _ _ a w h.2 hq) hh
def sQ {F:Fence} {ops:Array Oper} {p:Nat} (hp:p≤ops.size) (hg:ops.all (fun o=>o.guard.isNone)=true):∀ (k:Nat) (la l:Array Bool) (a:Act) (w:World),DV ops p k la l=true →
  wpAnyIn F m P .any (ops.extract 0 p) (Jm (wpOpsIn F m P ops Q (List.range' p (ops.size-p))) Q) k la a w->wpAnyIn F m P .any ops Q (k+(ops.size-p)) l a w
 |0,la,l,a,w,h,hh=>by
  simp only[DV,adk]at h;rw[adW];exact wJ hg _ _ _ a w h.2 hh.2
 |k+1,la,l,a,w,h,hh=>by
  simp only[DV,adk,afZ,ne_eq,adY,adw,adr]at h;obtain⟨⟨h1,h2⟩,h3⟩:=h;rw[show k+1+(ops.size-p)=(k+(ops.size-p))+1 by omega];refine⟨λhr=>absurd hr h1,λi hi=>?_⟩
  have dv:i∈Region.ready .any (ops.extract 0 p) la:=by rw[<-h2];exact hi
  obtain⟨yG,hc⟩:=h3 i hi;have hs:=hh.2 i dv;unfold wpOpIn at hs⊢
  have ib:(ops.extract 0 p)[i]?=ops[i]?:=by
   rw[aeZ]
   have:i<min p ops.size-0:=zo
   rw[if_pos this,adW]
  rw[ib]at hs
  cases ho:ops[i]? with
  |none=>rw[ho]at hs;exact sQ hp hg k _ _ a w hc hs
  |some o=>
   rw[ho]at hs
   have ru:o.guard=none:=by
    have:=aet.1 hg o (aen ho);simpa using this
   have hw:∀y,Region.wanted o y=true:=λy=>by simp[Region.wanted,ru]
   simp only[hw,adS]at hs⊢;exact af1 (λa w hq=>sQ hp hg k _ _ a w hc hq) (Ci hs)
def Q_ (hm:P.follows .mixedOrders=true) {F:Fence} {id:Nat} {ops:Array Oper} {p:Nat} (h:cutAt ops p=true)
  (hh:wpAnyIn F m P .any (ops.extract 0 p) (Jm (wpOpsIn F m P ops Q (List.range' p (ops.size-p))) Q) p (Array.replicate p false) a { w with drawn:=w.drawn+1 }):(Code.region id ops true).wpIn F m P Q a w:=by
 simp only[cutAt,adk,adr]at h;refine aeW hm ?_;have:=sQ h.1.1 h.1.2 p _ _ a _ h.2 hh;rwa [show p+(ops.size-p)=ops.size by omega]at this
def fK{F:Fence}{md:Region.Mode}{ops:Array Oper}{Q':Exit->Act->World->Prop}(hQ:∀e a w,Q e a w->Q' e a w):∀(fuel:Nat)(l:Array Bool)(a:Act)(w:World),wpAnyIn F m P md ops Q fuel l a w->wpAnyIn F m P md ops Q' fuel l a w
 |0,_,_,_,h=>⟨h.1,hQ _ _ _ h.2⟩
 |k+1,l,a,w,h=>⟨fun hr=>hQ _ _ _ (h.1 hr),fun i hi=>by
   have hs:=h.2 i hi;unfold wpOpIn at hs⊢
   cases ho:ops[i]? with
   |none=>rw[ho]at hs;exact fK hQ k _ a w hs
   |some o=>
    rw[ho]at hs;simp only at hs⊢;split
    .rename_i hw;rw[if_pos hw]at hs;have hs:=af1 (λa w hq=>fK hQ k _ a w hq) hs
     unfold Oper.wpIn at*
     refine⟨hs.1,?_⟩;have h2:=hs.2
     generalize(o.semAt F.round a.eval).run P w=r at*
     cases r with
     |ok x w'=>
      have uo:LetsOut Q->LetsOut Q':=λ⟨a,w,h⟩=>⟨a,w,hQ _ _ _ h⟩
      cases x<;>simp only[Oper.uponIn]at h2⊢<;>first
       |exact h2
       |exact⟨h2.1,agh h2.2 (λe ju he=>by cases e<;>first|exact he|exact hQ _ _ _ he|exact uo he)⟩
       |exact⟨h2.1,agw h2.2 (λ_ _ he=>he)⟩
       |exact⟨h2.1,agi h2.2 (λe ju he=>by cases e<;>first|exact he|exact hQ _ _ _ he|exact uo he)⟩
     |halt x w'=>cases x<;>simp only[Oper.uponIn]at h2⊢<;>first|exact h2|exact hQ _ _ _ h2
    .rename_i hw;rw[if_neg hw]at hs
     exact⟨hs.1,fK hQ k _ _ w hs.2⟩⟩
end
def jn(Pr:Nat->Nat->Prop)(w:World)(size:Nat)(es:List AV)(xs:List Value):Prop:=
 (∀x∈es,x.cells.length=size/\x.storable=true/\∀c∈x.cells,c.one=true)/\∀j (h:j<es.length) k (hk:k<(es[j]).cells.length),∃u,xs[j*size+k]?=some u/\RD Pr w ((es[j]).cells[k]) u
def jn.mono{Pr eS:Nat->Nat->Prop}{w w':World}{size:Nat}{es:List AV}{xs:List Value}(h:jn Pr w size es xs)(hk:bf Pr eS w w'):jn eS w' size es xs:=
 ⟨h.1,λj hj k CN=>let⟨u,h1,h2⟩:=h.2 j hj k CN;⟨u,h1,h2.mono hk⟩⟩
def RD.ofRow {Pr:Nat→Nat→Prop} {w:World} {base:Nat} {e:TypeId} {size:Nat} {v:Value} {es:List AV} {xs:List Value} (cV:w.ownsRow base e size v es.length xs) (hf:jn Pr w size es xs)
  (GL:∀b,v.ownBlock=some b->∀k,k<es.length*size->Pr b k):RD Pr w (.slice .view es) v:=by
 rcases cV.2 with⟨rfl,hn⟩|⟨g,cap,cur,rfl,rR,hg,Ay,wj,rW,zF⟩
 .have:es=[]:=ad1 hn;subst this;exact .iB _
 .refine .slice _ es g 0 cap size (λk=>xs.getD k undef) Ay (λh=>by cases h) (λi h=>(hf.1 _ (adi h)).1) (λi h j hj=>(hf.1 _ (adi h)).2.2 _ (adi hj)) (λk hk=>⟨?_,?_⟩) (λi h j hj=>?_)
  .rw[adW];exact GL g rfl k hk
  .have aq:k<xs.length:=by rw[cV.1];exact hk
   have:=cV.cells (g:=g) rfl k _ (adh aq);rw[aei]at this;simp only[aef,adh aq,Option.getD_some];exact this
  .obtain⟨u,h1,h2⟩:=hf.2 i h j hj;simpa[h1]using h2
def RD.Y6{Pr:Nat->Nat->Prop}{w:World}{o:Ow}{es:List AV}{c:Value}(h:RD Pr w (.slice o es) c)(e:TypeId):RD Pr w (.slice (.own e) es) c:=by
 cases h with
 |iB=>exact .iB _
 |jx _ a=>exact .jx _ a
 |slice _ _ b off cap size cs fh hn bj h1 hc hr=>exact .slice _ es b off cap size cs fh (λh=>by cases h) bj h1 hc hr
def nR(e:TypeId)(v:Value)(es:List AV):AV:=match v.ownBlock with
 |some _=>.slice (.own e) es
 |none=>.slice .nil []
def RD.CF{Pr eS:Nat->Nat->Prop}{w:World}{o:Ow}{c:Value}(h:RD Pr w (.slice o []) c):RD eS w (.slice .view []) c:=by
 cases h with
 |iB=>exact .iB _
 |jx _ a=>exact .jx _ a
 |slice _ _ b off cap size cs fh hn bj h1 hc hr=>exact .slice _ [] b off cap size cs fh (λh=>by cases h) (λi h=>by simp at h) (λi h=>by simp at h) (λk h=>by simp at h) (λi h=>by simp at h)
def jn.Ot {Pr:Nat→Nat→Prop} {w:World} {base:Nat} {e:TypeId} {size:Nat} {o:Ow} {c:Value} {es:List AV} {xs:List Value} (hr:RD Pr w (.slice o es) c) (cV:w.ownsRow base e size c es.length xs)
  (nV:∀x∈es,x.cells.length=size/\x.storable=true/\∀c∈x.cells,c.one=true) (Da:∀x∈es,∀c∈x.cells,iG c=true):jn (λ_ _=>False) w size es xs:=by
 refine⟨nV,λj hj k hk=>?_⟩
 rcases hr.nj size (by simp only[aG,adw,adk,adY];exact λx hx=>⟨(nV x hx).2.1,(nV x hx).1⟩)with⟨rfl,_⟩|⟨b2,off,cap,news,ko,hl,hn,og,Ox⟩
 .simp at hj
 .obtain⟨u,u1,u2⟩:=Ox j hj k hk;refine⟨u,?_,u2.iG (Da _ (adi hj) _ (adi hk))⟩
  have aq:j*size+k<xs.length:=by
   rw[cV.1,<-hl];exact(adG.1 u1).1
  rcases cV.2 with⟨uh,h0⟩|⟨gg,Ke,cur,EX,_⟩
  .rw[ad1 h0]at hj;simp at hj
  .have e1:=cV.cells (g:=gg) (by rw[EX];rfl) _ _ (adh aq);have e2:=hn _ _ u1;rw[EX]at ko;cases ko;rw[aei,adW]at e1;rw[adW]at e2;rw[e2]at e1;rw[adh aq,adM e1]
section
variable{P:Program}{n:Nat}{S:an}{a:Act}{w:World}
def ni(pr:Nat->Nat->Prop)(w:World)(bN:Nat)(v:Value):Old:=
 { c:=pr,facts:=[],bx:=λ_=>False,ds:=[],aV:=λb=>if bN<b/\v.ownBlock≠some b then w.heap[b]? else none,sp:=λ_ _=>False,sw:=w,ok:=λ_ h=>by cases h }
def Rel.stack (pr:Nat→Nat→Prop) {bN nm:Nat} {v:Value} {e ty:TypeId} {i:TypeInfo} {es:List AV} {xs:List Value} (bj:a.tmps.size=n) (eI:a.defers=[])
  (hN:w.heap[bN]?=some (.cells #[v] ty (0,0))) (hi:P.info? e=some i) (cV:w.ownsRow (bN+1) e i.size v es.length xs) (hf:jn (λb k=>b<bN/\pr b k) w i.size es xs)
  (hS:∀t,t<n->(S t).aJ=S t/\((S t=.box nm 0/\a.tmps.getD t undef=.pointer (some ⟨bN,0,none⟩))\/RV (λb k=>b<bN/\pr b k) cQ w (S t) (a.tmps.getD t undef))):
  ∃g,g.old=ni pr w bN v/\g.base=bN/\g.al=(λj=>if j=nm then some bN else none)/\
   Rel P { w with heap:=w.heap.extract 0 bN } n bL g S (λj=>if j=nm then some [nR e v es]else none) a w:=by
 have aq:=(adj.1 hN).1
 let g:Gh:={ base:=bN,old:=ni pr w bN v,al:=λj=>if j=nm then some bN else none,hi:=λb=>if v.ownBlock=some b then es.length*i.size else 0,owner:=λb=>if v.ownBlock=some b then some (.cell nm 0)else none }
 have qo:∀b k,b<bN/\pr b k->g.Pr b k:=λb k h=>.inl h
 have pt:∀b,v.ownBlock=some b->bN<b/\b<w.heap.size:=λb hb=>cV.lt b hb
 have De:v.ownBlock≠some bN:=λh=>by have:=pt _ h;omega
 have og:v.oneCell'=true:=by
  rcases cV.2 with⟨rfl,_⟩|⟨_,_,_,rfl,_⟩<;>rfl
 have dh:RD g.Pr w (nR e v es) v:=by
  unfold nR
  rcases cV.2 with⟨rfl,hn⟩|⟨gg,cap,cur,rfl,rR,hg,Ay,wj,rW,zF⟩
  .exact .iB _
  .simp only[Value.ownBlock]
   have h1:RD g.Pr w (.slice .view es) (.slice (some ⟨gg,0,none⟩) es.length cap):=RD.ofRow cV (hf.mono (bf.same λb k _ h=>qo b k h)) (λb hb k hk=>by
    refine .inr ⟨by have:=(pt b hb).1;show bN<=b;omega,?_⟩;show k<(if _=some b then es.length*i.size else 0)
    rw[if_pos hb];exact hk)
   exact h1.Y6 e
 refine⟨g,rfl,rfl,rfl,{ size:=bj,defers:=eI,facts:=λ_ h=>(by cases h),slot:=?_,own:=?_,box:=?_,jQ:=?_,jX:=λi h=>h.elim,inj:=?_,base:=?_,below:=?_,fresh:=?_,still:=⟨λ_ _ h=>h.elim,λ_ h=>h.elim⟩,grown:=adl _,kept:=?_ }⟩
 .intro t ht _;rcases(hS t ht).2 with⟨h1,h2⟩|h
  .rw[h1,h2];exact .box _ _ _ (by simp[g])
  .exact h.mono (bf.same λb k _ h=>qo b k h) (λ_ _ h=>by cases h)
 .intro t ht _;rw[<-(hS t ht).1];exact eK.aJ
 .intro j b hj
  by_cases xu:j=nm
  .subst xu
   have hb:b=bN:=by simpa[g]using hj.symm
   subst hb;refine⟨[nR e v es],#[v],ty,ahi,adl _,hN,by simp[g,De],by simp[g,De],rfl,λk hk cE=>?_,λk hk cE=>?_,λk hk=>?_⟩
   .have:k=0:=by simpa using hk
    subst this;exact dh
   .have:k=0:=by simpa using hk
    subst this;simp only[List.getElem_cons_zero,List.getElem_toArray];unfold nR
    cases DL:v.ownBlock with
    |none=>trivial
    |some b'=>
     refine⟨i,xs,b',hi,?_,DL,by simp[g,DL],by simp[g,DL]⟩;refine⟨cV.1,?_⟩
     rcases cV.2 with h|⟨gg,cap,cur,rfl,rR,rest⟩
     .exact .inl h
     .exact .inr ⟨gg,cap,cur,rfl,aeo (Nat.le_succ _) rR,rest⟩
   .have:k=0:=by simpa using hk
    subst this;simp only[List.getElem_cons_zero];unfold nR
    cases v.ownBlock<;>rfl
  .simp[g,xu]at hj
 .intro j cs hj _
  by_cases xu:j=nm
  .subst xu;simp[g]
  .simp[xu]at hj
 .intro j k b hj hk
  by_cases xu:j=nm<;>by_cases zl:k=nm
  .rw[xu,zl]
  .simp[g,zl]at hk
  .simp[g,xu]at hj
  .simp[g,xu]at hj
 .show bN=(w.heap.extract 0 bN).size;simp;omega
 .refine⟨rfl,rfl,rfl,by simp;omega,λk hk=>?_⟩;have cE:k<bN:=hk;show w.heap[k]?=(w.heap.extract 0 bN)[k]?;rw[aeZ,if_pos zo,adW]
 .intro b hb
  have:v.ownBlock≠some b:=λh=>by have:=pt b h;omega
  simp[g,this]
 .intro b o h;simp only[g,ni]at h;split at h
  case isFalse=>cases h
  rename_i hc;refine⟨by show bN<=b;omega,h,by simp[g,hc.2],by simp[g,hc.2],λj hj=>?_⟩
  by_cases xu:j=nm
  .simp[g,xu]at hj;omega
  .simp[g,xu]at hj
def Rel.PY {w0 w':World} {g':Gh} {S':an} {H':ao} {a':Act} (pr:Nat→Nat→Prop) {bN nm:Nat} {v:Value} {e:TypeId} {i:TypeInfo} {es':List AV} (hi:P.info? e=some i)
  (R:Rel P w0 n bL g' S' H' a' w') (hold:g'.old=ni pr w bN v) (gy:g'.base=bN) (uw:∀b,b<bN->w0.heap[b]?=w.heap[b]?) (jC:g'.al nm=some bN) (hH:H' nm=some [.slice (.own e) es'])
  (nV:∀x∈es',x.cells.length=i.size/\x.storable=true/\∀c∈x.cells,c.one=true) (Da:∀x∈es',∀c∈x.cells,iG c=true):
  ∃v' BX v_,w'.heap[bN]?=some (.cells #[v'] BX (0,0))/\w'.ownsRow (bN+1) e i.size v' es'.length v_/\jn (λ_ _=>False) w' i.size es' v_/\
   (∀b,b<w.heap.size->b≠bN->v.ownBlock≠some b->w'.heap[b]?=w.heap[b]?)/\∀b,v'.ownBlock=some b->v.ownBlock=some b\/w.heap.size<=b:=by
 obtain⟨cs,vs,ty,h1,h2,h3,h4,h5,h6,h7,h8,h9⟩:=R.box nm bN jC;rw[hH]at h1;cases h1;have xy:vs.size=1:=h6.symm
 obtain⟨v',pE⟩:∃v',vs=#[v']:=⟨vs[0],by
  apply aeP
  .simpa using xy
  .intro j hj dU
   have:j=0:=zo
   subst this;rfl⟩
 subst pE;have hr:=h7 0 ahi ahi;have ho:=h8 0 ahi ahi;simp only[List.getElem_cons_zero,List.getElem_toArray]at hr ho;obtain⟨i',xs,b,k1,k2,k3,k4,k5⟩:=ho;rw[hi]at k1;cases k1
 have cP:b≠bN:=by
  rintro rfl;rw[h5]at k4;cases k4
 refine⟨v',ty,xs,h3,?_,⟨nV,λj hj k hk=>?_⟩,λb' im Rq Vr=>?_,λb' im=>?_⟩
 .refine⟨k2.1,?_⟩
  rcases k2.2 with h|⟨gg,cap,cur,rfl,rR,rest⟩
  .exact .inl h
  .have:gg=b:=by simpa[Value.ownBlock]using k3
   subst this;exact .inr ⟨gg,cap,cur,rfl,by rw[gy]at rR;omega,rest⟩
 .rcases hr.nj i.size (by simp only[aG,adw,adk,adY];exact λx hx=>⟨(nV x hx).2.1,(nV x hx).1⟩)with⟨rfl,_⟩|⟨b2,off,cap,news,ko,hl,hn,og,Ox⟩
  .simp at hj
  .obtain⟨u,u1,u2⟩:=Ox j hj k hk;refine⟨u,?_,u2.iG (Da _ (adi hj) _ (adi hk))⟩
   have aq:j*i.size+k<xs.length:=by
    rw[k2.1,<-hl];exact(adG.1 u1).1
   have e1:=k2.cells k3 _ _ (adh aq);have e2:=hn _ _ u1
   rcases k2.2 with⟨uh,_⟩|⟨gg,Ke,cur,EX,_⟩
   .rw[uh]at k3;cases k3
   .rw[EX]at ko k3
    have mL:gg=b:=by simpa[Value.ownBlock]using k3
    subst mL;cases ko;rw[aei,adW]at e1;rw[adW]at e2;rw[e2]at e1;rw[adh aq,adM e1]
 .rcases aeI b' bN with aq|Ae
  .have:=R.below.block b' (by rw[gy];exact aq);rw[this];exact uw b' aq
  .have G5:g'.old.aV b'=w.heap[b']? := by
    rw[hold];simp only[ni];rw[if_pos ⟨zo,Vr⟩]
   have:w.heap[b']?=some (w.heap[b']):=by simp[im]
   rw[this]at G5;rw[(R.kept b' _ G5).2.1,this]
 .rw[k3]at im;cases im;rcases aeI b w.heap.size with aq|Ae
  .by_cases Vr:v.ownBlock=some b
   .exact .inl Vr
   .exfalso
    have lS:bN<=b:=by
     have:=(k2.lt b k3).1;rw[gy]at this;exact this
    have G5:g'.old.aV b=w.heap[b]?:=by
     rw[hold];simp only[ni];rw[if_pos ⟨zo,Vr⟩]
    have:w.heap[b]?=some (w.heap[b]):=by simp[aq]
    rw[this]at G5;have:=(R.kept b _ G5).2.2.2.1;rw[k4]at this;cases this
  .exact .inr Ae
end
section
variable{P:Program}{GI:World->Prop}{n:Nat}{S:an}{H:ao}{a:Act}{w:World}{ro:Option Nat}{m:Nat}{Q Q':Exit->Act->World->Prop}{F:Fence}
def nX{o:Oper}{K K':Act->World->Prop}(hK:∀a w,K a w->K' a w)(hQ:∀e a w,e≠.normal->Q e a w->Q' e a w)(hs:o.wpIn F m P a w K Q):o.wpIn F m P a w K' Q':=by
 have hs:=af1 hK hs
 unfold Oper.wpIn at*
 refine⟨hs.1,?_⟩;have h2:=hs.2
 generalize(o.semAt F.round a.eval).run P w=r at*
 have uo:LetsOut Q->LetsOut Q':=λ⟨a,w,h⟩=>⟨a,w,hQ _ _ _ ahi h⟩
 cases r with
 |ok x w'=>
  cases x<;>simp only[Oper.uponIn]at h2⊢<;>first
   |exact h2
   |exact⟨h2.1,agh h2.2 (λe ju he=>by cases e<;>first|exact he|exact hQ _ _ _ ahi he|exact uo he)⟩
   |exact⟨h2.1,agw h2.2 (λ_ _ he=>he)⟩
   |exact⟨h2.1,agi h2.2 (λe ju he=>by cases e<;>first|exact he|exact hQ _ _ _ ahi he|exact uo he)⟩
 |halt x w'=>cases x<;>simp only[Oper.uponIn]at h2⊢<;>first|exact h2|exact hQ _ _ _ ahi h2
def fZ{ops:Array Oper}(hQ:∀e a w,Q e a w->Q' e a w):∀(l:List Nat)(a:Act)(w:World),wpOpsIn F m P ops Q l a w->wpOpsIn F m P ops Q' l a w
 |[],a,w,h=>hQ _ _ _ h
 |i::l,a,w,h=>by
  simp only[wpOpsIn]at h⊢
  cases ho:ops[i]? with
  |none=>simp only[ho]at h⊢;exact fZ hQ l a w h
  |some o=>
   simp only[ho]at h⊢;split
   .rename_i hw;rw[if_pos hw]at h;exact nX (λa w hh=>fZ hQ l a w hh) (λe a w _ hh=>hQ e a w hh) h
   .rename_i hw;rw[if_neg hw]at h;exact⟨h.1,fZ hQ l _ w h.2⟩
def eE(W:Nat->Bool)(a a':Act):Prop:=∀t,W t=false->a'.tmps.getD t undef=a.tmps.getD t undef
def eE.refl(W:Nat->Bool)(a:Act):eE W a a:=λ_ _=>rfl
def eE.trans{W:Nat->Bool}{a a' XS:Act}(h:eE W a a')(h':eE W a' XS):eE W a XS:=λt ht=>(h' t ht).trans (h t ht)
def eE.put{W:Nat->Bool}{a:Act}{d:Option Nat}(hd:∀t,d=some t->W t=true)(v:Value):eE W a (a.put d v):=by
 intro t ht
 cases d with
 |none=>rfl
 |some k=>
  have:t≠k:=by rintro rfl;rw[hd t rfl]at ht;cases ht
  simp[Act.put,adt (ad6 this)]
def rz{W:Nat->Bool}{o:Oper}{K:Act->World->Prop}(hd:∀t,o.dst=some t->W t=true)(h:o.wpIn F m P a w K Q):o.wpIn F m P a w (λa' w'=>K a' w'/\eE W a a') Q:=by
 unfold Oper.wpIn at*
 refine⟨h.1,?_⟩;have h2:=h.2
 generalize(o.semAt F.round a.eval).run P w=r at*
 cases r with
 |ok x w'=>
  cases x<;>simp only[Oper.uponIn]at h2⊢<;>first
   |exact⟨h2,eE.put hd _⟩
   |exact⟨h2,(eE.put (a:={ a with defers:=_ }) hd _:eE W { a with defers:=_ } _)⟩
   |exact⟨h2.1,agh h2.2 (λe ju he=>by cases e<;>first|exact⟨he,eE.put hd _⟩|exact he)⟩
   |exact⟨h2.1,agw h2.2 (λ_ _ he=>⟨he,eE.put hd _⟩)⟩
   |exact⟨h2.1,agi h2.2 (λe ju he=>by cases e<;>first|exact⟨he,eE.put hd _⟩|exact he)⟩
 |halt x w'=>cases x<;>simp only[Oper.uponIn]at h2⊢<;>exact h2
def jO(ops:Array Oper)(W:Nat->Bool):Bool:=ops.all λo=>match o.dst with|some t=>W t|none=>true
def jO.spec{ops:Array Oper}{W:Nat->Bool}(h:jO ops W=true){i:Nat}{o:Oper}(ho:ops[i]?=some o):∀t,o.dst=some t->W t=true:=by
 intro t ht;have:=aet.1 h o (aen ho);simpa[ht]using this
def zU(W:Nat->Bool)(a:Act)(Q:Exit->Act->World->Prop):Exit->Act->World->Prop
 |.normal,a',w'=>Q .normal a' w'/\eE W a a'
 |e,a',w'=>Q e a' w'
def zU.next{W:Nat->Bool}{W9 jw:Act}(h:eE W W9 jw):∀e a w,zU W jw Q e a w->zU W W9 Q e a w:=by
 intro e a w hh
 cases e<;>first|exact hh|exact⟨hh.1,h.trans hh.2⟩
def ji{ops:Array Oper}{W:Nat->Bool}(hW:jO ops W=true):∀(l:List Nat)(a:Act)(w:World),wpOpsIn F m P ops Q l a w->wpOpsIn F m P ops (zU W a Q) l a w
 |[],a,w,h=>⟨h,eE.refl _ _⟩
 |i::l,a,w,h=>by
  simp only[wpOpsIn]at h⊢
  cases ho:ops[i]? with
  |none=>simp only[ho]at h⊢;exact ji hW l a w h
  |some o=>
   simp only[ho]at h⊢;split
   .rename_i hw;rw[if_pos hw]at h;refine nX (λa' w' hh=>fZ (zU.next hh.2) l a' w' (ji hW l a' w' hh.1)) (λe a w cP hh=>?_) (rz (jO.spec hW ho) h)
    cases e<;>first|exact hh|exact absurd rfl cP
   .rename_i hw;rw[if_neg hw]at h;exact⟨h.1,fZ (zU.next (eE.put (jO.spec hW ho) _)) l _ w (ji hW l _ w h.2)⟩
def jg{ops:Array Oper}{md:Region.Mode}{W:Nat->Bool}(hW:jO ops W=true):∀(fuel:Nat)(l:Array Bool)(a:Act)(w:World),wpAnyIn F m P md ops Q fuel l a w->wpAnyIn F m P md ops (zU W a Q) fuel l a w
 |0,l,a,w,h=>⟨h.1,h.2,eE.refl _ _⟩
 |k+1,l,a,w,h=>⟨fun hr=>⟨h.1 hr,eE.refl _ _⟩,fun i hi=>by
   have hs:=h.2 i hi;unfold wpOpIn at hs⊢
   cases ho:ops[i]? with
   |none=>rw[ho]at hs;exact jg hW k _ a w hs
   |some o=>
    rw[ho]at hs;simp only at hs⊢;split
    .rename_i hw;rw[if_pos hw]at hs;refine nX (λa' w' hh=>fK (zU.next hh.2) k _ a' w' (jg hW k _ a' w' hh.1)) (λe a w cP hh=>?_) (rz (jO.spec hW ho) hs)
     cases e<;>first|exact hh|exact absurd rfl cP
    .rename_i hw;rw[if_neg hw]at hs
     exact⟨hs.1,fK (zU.next (eE.put (jO.spec hW ho) _)) k _ _ w (jg hW k _ _ w hs.2)⟩⟩
def cJ (hG:ar GI) (hm:P.follows .mixedOrders=true) {id:Nat} {ops:Array Oper} {draw:Bool} (hc:kY (.region id ops draw)=true) {ac:ah} (oI:dw P n (.region id ops draw)=ac) {W:Nat→Bool} (hW:jO ops W=true) (gj:GI w) (pr:Nat→Nat→Prop) (S:an)
  (bj:a.tmps.size=n) (eI:a.defers=[]) (hS:∀t,t<n->(S t).aJ=S t/\RV pr cQ w (S t) (a.tmps.getD t undef)) {K:an->ao->Prop} (h:bD P GI ac (aN K) S (λ_=>none))
  (hk:∀g S' H' a' w',g.old=Old.plain pr w->Rel P w n bL g S' H' a' w'->K S' H'->eE W a a'->Q .normal a' w'):(Code.region id ops draw).wpIn (FR ro) m P Q a w:=by
 subst oI;have R:=Rel.T4 (P:=P) pr bj eI hS
 have fin:∀e a' w',zU W a (QQ P w n (Old.plain pr w) (aN K)) e a' w'->Q e a' w':=by
  intro e a' w' hq
  cases e with
  |normal=>
   obtain⟨⟨g',S',H',h1,h2,h3⟩,h4⟩:=hq;exact hk g' S' H' a' w' h1 h2 h3 h4
  |exit id=>obtain⟨_,_,_,_,_,h⟩:=hq;exact h.elim
  |ret=>obtain⟨_,_,_,_,_,h⟩:=hq;exact h.elim
  |panic ch=>obtain⟨_,_,_,_,_,_,_,_,_,_,h⟩:=hq;exact h.elim
  |goto l=>exact hq.elim
  |outgrown=>exact hq.elim
 simp only[dw]at h
 cases draw with
 |true=>
  simp only[adS]at h;split at h
  case isFalse=>exact h.elim
  rename_i bX;exact aeW hm (fK fin _ _ _ _ (jg hW _ _ _ _ (lU hG gj hm (old:=Old.plain pr w) hc bX (λ_ _ _ _ h=>h) rfl R h)))
 |false=>
  simp only[ads,adH]at h;split at h
  case isFalse=>exact h.elim
  rename_i bX;exact adP (fZ fin _ _ _ (ji hW _ _ _ (rn hG gj (old:=Old.plain pr w) hc bX (λ_ _ _ _ h=>h) rfl R h)))
def wF (hm:P.follows .mixedOrders=true) {id:Nat} {ops:Array Oper} {draw:Bool} (hc:kY (.region id ops draw)=true) {ac:ah} (oI:dw P n (.region id ops draw)=ac) (BT:ac.names=[]) {W:Nat→Bool} (hW:jO ops W=true) (pr:Nat→Nat→Prop) (S:an)
  {bN nm tp:Nat} {v:Value} {e ty:TypeId} {i:TypeInfo} {es es':List AV} {xs:List Value} (SU:tp<n) (hWt:W tp=false) (ach:a.tmps.getD tp undef=.pointer (some ⟨bN,0,none⟩)) (bj:a.tmps.size=n) (eI:a.defers=[])
  (hN:w.heap[bN]?=some (.cells #[v] ty (0,0))) (hi:P.info? e=some i) (cV:w.ownsRow (bN+1) e i.size v es.length xs) (hf:jn (λb k=>b<bN/\pr b k) w i.size es xs)
  (hS:∀t,t<n->(S t).aJ=S t/\((S t=.box nm 0/\a.tmps.getD t undef=.pointer (some ⟨bN,0,none⟩))\/RV (λb k=>b<bN/\pr b k) cQ w (S t) (a.tmps.getD t undef)))
  (h:bD P (λ_=>True) ac (aN λS' H'=>S' tp=.box nm 0/\H' nm=some [.slice (.own e) es']) S (λj=>if j=nm then some [nR e v es]else none))
  (nV:∀x∈es',x.cells.length=i.size/\x.storable=true/\∀c∈x.cells,c.one=true) (Da:∀x∈es',∀c∈x.cells,iG c=true)
  (hk:∀a' w' v' BX v_,a'.tmps.size=n->a'.defers=[]->eE W a a'->w'.heap[bN]?=some (.cells #[v'] BX (0,0))->w'.ownsRow (bN+1) e i.size v' es'.length v_->jn (λ_ _=>False) w' i.size es' v_->
   l7 (λb=>b=bN\/v.ownBlock=some b) w w'->(∀b,v'.ownBlock=some b->v.ownBlock=some b\/w.heap.size<=b)->Q .normal a' w'):(Code.region id ops draw).wpIn (FR ro) m P Q a w:=by
 subst oI;obtain⟨g,nn,nH,Zr,R⟩:=Rel.stack (P:=P) (nm:=nm) (S:=S) (a:=a) pr bj eI hN hi cV hf hS;have aq:=(adj.1 hN).1
 have fin:∀e1 a' w',zU W a (QQ P { w with heap:=w.heap.extract 0 bN } n (ni pr w bN v) (aN λS' H'=>S' tp=.box nm 0/\H' nm=some [.slice (.own e) es'])) e1 a' w'->Q e1 a' w':=by
  intro e1 a' w' hq
  cases e1 with
  |normal=>
   obtain⟨⟨g',S',H',h1,h2,h3⟩,h4⟩:=hq
   have mL:g'.base=bN:=by rw[h2.base];simp;omega
   have jC:g'.al nm=some bN:=by
    have hs:=h2.slot tp SU (λhh=>hh);rw[h3.1,h4 tp hWt,ach]at hs
    cases hs with
    |data _ _ h=>cases h
    |box _ _ b h=>exact h
   obtain⟨v',BX,v_,k1,k2,k3,k4,k5⟩:=Rel.PY (w:=w) pr hi h2 h1 mL (λb hb=>by
    show(w.heap.extract 0 bN)[b]?=w.heap[b]?
    rw[aeZ,if_pos zo,adW]) jC h3.2 nV Da
   have iD:=h2.grown;rw[h1]at iD;refine hk a' w' v' BX v_ h2.size (by rw[h2.defers,h1];rfl) h4 k1 k2 k3 ⟨h2.below.os,h2.below.tape,h2.below.output,iD,λb hb hM=>?_⟩ k5;exact k4 b hb (λh=>hM (.inl h)) (λh=>hM (.inr h))
  |exit id=>obtain⟨_,_,_,_,_,h⟩:=hq;exact h.elim
  |ret=>obtain⟨_,_,_,_,_,h⟩:=hq;exact h.elim
  |panic ch=>obtain⟨_,_,_,_,_,_,_,_,_,_,h⟩:=hq;exact h.elim
  |goto l=>exact hq.elim
  |outgrown=>exact hq.elim
 simp only[dw]at h BT
 have hb:∀(b:Nat),(ni pr w bN v).bx b->False:=λ_ h=>h
 cases draw with
 |true=>
  simp only[adS]at h;split at h
  case isFalse=>exact h.elim
  rename_i bX;exact aeW hm (fK fin _ _ _ _ (jg hW _ _ _ _ (lU (GI:=λ_=>True) (λ_ _ _ _=>trivial) trivial hm hc bX (λ_ _ _ _ h=>h) nn R h)))
 |false=>
  simp only[ads,adH]at h;split at h
  case isFalse=>exact h.elim
  rename_i bX;exact adP (fZ fin _ _ _ (ji hW _ _ _ (rn (GI:=λ_=>True) (λ_ _ _ _=>trivial) trivial hc bX (λ_ _ _ _ h=>h) nn R h)))
def Rel.By {w0 w':World} {g:Gh} {S':an} {H':ao} {a':Act} (R:Rel P w0 n bL g S' H' a' w') {t:Nat} (ht:t < n) {e:TypeId} {i:TypeInfo} (hi:P.info? e=some i) {es:List AV} (hS:S' t = .slice (if es.isEmpty then .nil else .own e) es)
  (nV:∀x∈es,x.cells.length=i.size/\x.storable=true/\∀c∈x.cells,c.one=true) (Da:∀x∈es,∀c∈x.cells,iG c=true):
  RD (λb j=>(g.base<=b/\b<w'.heap.size)/\j<g.hi b) w' (.slice .view es) (a'.tmps.getD t undef):=by
 have h1:=(R.slot t ht id)
 have h2:=(R.own t ht id)
 rw[hS]at h1 h2;have h1:=h1.dW rfl
 cases es with
 |nil=>exact h1.CF
 |cons x es=>
  simp only[List.isEmpty_cons,ads,adH]at h1 h2;obtain⟨i',xs,b,k1,k2,k3,k4,k5⟩:=h2;rw[hi]at k1;cases k1;have hf:=jn.Ot h1 k2 nV Da
  refine RD.ofRow k2 (hf.mono (bf.same λ_ _ _ h=>h.elim)) λb' im k hk=>?_
  rw[k3]at im;cases im;exact⟨k2.lt b k3,by rw[k5];exact hk⟩
end
section
variable{P:Program}{GI:World->Prop}{n:Nat}{S:an}{H:ao}{a:Act}{w:World}{ro:Option Nat}{m:Nat}{Q Q':Exit->Act->World->Prop}{F:Fence}
def yv(ops:Array Oper)(j d:Nat)(T:List Nat):Nat->Array Bool->Bool
 |0,l=>l.getD j false
 |k+1,l=>(Region.ready .any ops l != [] || l.getD j false) && (Region.ready .any ops l).all fun i =>
   (!l.getD j false||(match(ops[i]?).bind (·.dst)with|some t=>t !=d&&!T.contains t|none=>true))&&yv ops j d T k (l.setIfInBounds i true)
def Yq(N:Act->Prop)(Q:Exit->Act->World->Prop):Exit->Act->World->Prop
 |.normal,a,w=>Q .normal a w/\N a
 |e,a,w=>Q e a w
def oO {ops:Array Oper} {j d:Nat} {oj:Oper} {T:List Nat} (hj:ops[j]? = some oj) (Qm:oj.guard=none) (dL:eH oj.op=true) (N:Act→Prop)
  (QI:∀a a':Act,a'.tmps.getD d undef=a.tmps.getD d undef->(∀t∈T,a'.tmps.getD t undef=a.tmps.getD t undef)->N a->N a') (dz:∀(a:Act)(w:World),a.tmps.size=n->match(execOp a.eval oj).run P w with|.ok (.value v) _=>N (a.put oj.dst v)|.ok _ _=>False|.halt _ _=>True) (hW:jO ops (λt=>decide (t<n))=true):
  ∀(fuel:Nat)(l:Array Bool)(a:Act)(w:World),yv ops j d T fuel l=true->(l.getD j false=true->N a)->l.size=ops.size->a.tmps.size=n->
   wpAnyIn (FR ro) m P .any ops Q fuel l a w->wpAnyIn (FR ro) m P .any ops (Yq N Q) fuel l a w
 |0,l,a,w,h,hN,hl,bj,hh=>⟨hh.1,hh.2,hN (by simpa[yv]using h)⟩
 |k+1,l,a,w,h,hN,hl,bj,hh=>by
  simp only[yv,adk,adw,aeE,afZ,ne_eq]at h;refine⟨λhr=>⟨hh.1 hr,hN (h.1.resolve_left (λcP=>cP hr))⟩,λi hi=>?_⟩;obtain⟨h2,h3⟩:=h.2 i hi;have hs:=hh.2 i hi;unfold wpOpIn at hs⊢
  cases ho:ops[i]? with
  |none=>exact absurd (afe.1 hi).2 (by rw[ho];rintro⟨o,h,_⟩;cases h)
  |some o=>
   rw[ho]at hs h2;simp only[Option.bind_some]at h2 hs⊢
   have Rx:i<l.size:=by rw[hl];exact(adj.1 ho).1
   have rV:(l.setIfInBounds i true).size=ops.size:=by simpa using hl
   have next:∀(a':Act),a'.tmps.size=n->eE (λt=>o.dst==some t) a a'->i≠j->((l.setIfInBounds i true).getD j false=true->N a'):=by
    intro a' _ bn cP hlj
    have Wt:l.getD j false=true:=by
     rw[adE,adt cP]at hlj;rwa [adE]
    rcases h2 with h2|h2
    .rw[Wt]at h2;cases h2
    .have DK:(o.dst==some d)=false∧∀ t∈T,(o.dst==some t)=false:=by
      cases hod:o.dst with
      |none=>simp
      |some t=>
       rw[hod]at h2;simp only[adk,afZ,ne_eq,aeh,afL,afu]at h2;refine⟨by simpa using h2.1,λt' uz=>?_⟩;simp only[ad4,ne_eq,adN];rintro rfl;exact h2.2 uz
     exact QI a a' (bn d DK.1) (λt ht=>bn t (DK.2 t ht)) (hN Wt)
   have lL:∀(d':Option Nat)(v:Value)(a:Act),(a.put d' v).tmps.size=a.tmps.size:=by
    intro d' v a;cases d'<;>simp[Act.put]
   split
   .rename_i hw;rw[if_pos hw]at hs
    by_cases ss:i=j
    .subst ss;rw[hj]at ho;cases ho;unfold Oper.wpIn at hs⊢;refine⟨λ_ _=>trivial,?_⟩;have h4:=hs.2;rw[aeM _ _ _ (λc hc=>by rw[hc]at dL;cases dL)]at h4⊢;have h5:=dz a w bj;generalize(execOp a.eval oj).run P w=r at h4 h5⊢
     cases r with
     |ok x w'=>
      cases x<;>simp only at h5
      case value v=>
       simp only[Oper.uponIn]at h4⊢;exact oO hj Qm dL N QI dz hW k _ _ w' h3 (λ_=>h5) rV (by rw[lL];exact bj) h4
     |halt x w'=>cases x<;>simp only[Oper.uponIn]at h4⊢<;>exact h4
    .have qi:=rz (W:=λt=>o.dst==some t) (λt ht=>by simp[ht]) hs
     have Ru:o.wpIn (FR ro) m P a w (λa' w'=>(wpAnyIn (FR ro) m P .any ops Q k (l.setIfInBounds i true) a' w'/\eE (λt=>o.dst==some t) a a')/\a'.tmps.size=n) Q:=by
      unfold Oper.wpIn at qi⊢;refine⟨qi.1,?_⟩;have h4:=qi.2
      generalize(o.semAt (FR ro).round a.eval).run P w=r at*
      cases r with
      |ok x w'=>
       cases x<;>simp only[Oper.uponIn]at h4⊢<;>first
        |exact⟨h4,by rw[lL];exact bj⟩
        |exact⟨h4.1,agh h4.2 (λe ju he=>by cases e<;>first|exact⟨he,by rw[lL];exact bj⟩|exact he)⟩
        |exact⟨h4.1,agw h4.2 (λ_ _ he=>⟨he,by rw[lL];exact bj⟩)⟩
        |exact⟨h4.1,agi h4.2 (λe ju he=>by cases e<;>first|exact⟨he,by rw[lL];exact bj⟩|exact he)⟩
      |halt x w'=>cases x<;>simp only[Oper.uponIn]at h4⊢<;>exact h4
     refine nX (λa' w' hh=>?_) (λe a w cP hh=>?_) Ru
     .exact oO hj Qm dL N QI dz hW k _ a' w' h3 (next a' hh.2 hh.1.2 ss) rV hh.2 hh.1.1
     .cases e<;>first|exact hh|exact absurd rfl cP
   .rename_i hw;rw[if_neg hw]at hs
    have ss:i≠j:=by
     rintro rfl;rw[hj]at ho;cases ho;simp[Region.wanted,Qm]at hw
    refine⟨hs.1,oO hj Qm dL N QI dz hW k _ _ w h3 (next _ (by rw[lL];exact bj) (eE.put (λt ht=>by simp[ht]) _) ss) rV (by rw[lL];exact bj) hs.2⟩
def PU (hG:ar GI) (hm:P.follows .mixedOrders=true) {id:Nat} {ops:Array Oper} {p:Nat} (Fp:cutAt ops p=true) (dL:(ops.extract 0 p).all (fun o=>eH o.op)=true) (bX:LP P n (ops.extract 0 p)=true)
  {l:List bH} (hl:bh P n true (ops.extract 0 p)=l) (l8:(ops.extract 0 p).size=p) {W:Nat->Bool} (hW:jO (ops.extract 0 p) W=true) (gj:GI w) (pr:Nat->Nat->Prop) (S:an)
  {j d:Nat} {oj:Oper} {T:List Nat} (hj:(ops.extract 0 p)[j]?=some oj) (Qm:oj.guard=none) (acC:eH oj.op=true) (N:Act->Prop)
  (QI:∀a a':Act,a'.tmps.getD d undef=a.tmps.getD d undef->(∀t∈T,a'.tmps.getD t undef=a.tmps.getD t undef)->N a->N a') (dz:∀(a:Act)(w:World),a.tmps.size=n->match(execOp a.eval oj).run P w with|.ok (.value v) _=>N (a.put oj.dst v)|.ok _ _=>False|.halt _ _=>True) (hWn:jO (ops.extract 0 p) (λt=>decide (t<n))=true)
  (iq:yv (ops.extract 0 p) j d T p (Array.replicate p false)=true)
  (bj:a.tmps.size=n) (eI:a.defers=[]) (hS:∀t,t<n->(S t).aJ=S t/\RV pr cQ w (S t) (a.tmps.getD t undef)) {K:an->ao->Prop}
  (h:cU P GI l K (eM l S) (dV l (λ_=>none)))
  (hk:∀g S' H' a' w',g.old=Old.plain pr w->Rel P w n bL g S' H' a' w'->K S' H'->eE W a a'->N a'->wpOpsIn (FR ro) m P ops Q (List.range' p (ops.size-p)) a' w'):
  (Code.region id ops true).wpIn (FR ro) m P Q a w:=by
 refine Q_ hm Fp ?_;have key:=lU (ro:=ro) (m:=m) (a:=a) (w:=w) hG gj hm (old:=Old.plain pr w) (ops:=ops.extract 0 p) (Q:=aN K) dL bX (λ_ _ _ _ h=>h) rfl (Rel.T4 pr bj eI hS) (by subst hl;exact h);rw[l8]at key
 have abW:=oO hj Qm acC N QI dz hWn p _ a _ iq (λhh=>by
  have:(Array.replicate p false).getD j false=false:=by
   rw[adE]
   by_cases hjp:j<p
   .simp[hjp]
   .simp[hjp]
  rw[this]at hh;cases hh) (by simpa using l8.symm) bj (jg hW _ _ _ _ key)
 refine fK ?_ _ _ _ _ abW;intro e a' w' hq
 cases e with
 |normal=>
  obtain⟨⟨⟨g',S',H',h1,h2,h3⟩,h4⟩,h5⟩:=hq;exact hk g' S' H' a' w' h1 h2 h3 h4 h5
 |exit id=>obtain⟨_,_,_,_,_,h⟩:=hq;exact h.elim
 |ret=>obtain⟨_,_,_,_,_,h⟩:=hq;exact h.elim
 |panic ch=>obtain⟨_,_,_,_,_,_,_,_,_,_,h⟩:=hq;exact h.elim
 |goto l=>exact hq.elim
 |outgrown=>exact hq.elim
end
section
variable{P:Program}{n:Nat}{a:Act}{w:World}{m:Nat}{Q:Exit->Act->World->Prop}
def jV {o:Oper} {t:TypeId} {x:Operand} {b off:Nat} {v:Value} {d:TypeDesc} (ho:o.op = .load t x) (hx:a.eval x = .pointer (some ⟨b,off,none⟩)) (hu:P.underlying t=some d) (hd:ef d=false) (hc:w.cell? ⟨b,off,none⟩=some v) :
  (execOp a.eval o).run P w=.ok (.value v) w:=by
 have kN:(isAgg t).run P w=.ok false w:=by
  unfold isAgg;rw[adq,adD hu w]
  cases d<;>simp_all[ef]
 unfold execOp;simp[ho,hx,Instr.loadAt,Instr.sureAddr,loadVar,adq,kN,hc]
def iV {o:Oper} {t:TypeId} {x y:Operand} {b:Nat} {v u:Value} {ty:TypeId} {i:TypeInfo} (ho:o.op = .store t x y) (hx:a.eval x = .pointer (some ⟨b,0,none⟩)) (hi:P.info? t=some i) (hs:i.size=1) (hb:w.heap[b]? = some (.cells #[u] ty (0,0)))
  (hv:(a.eval y)=v) (h1:v.oneCell'=true):(execOp a.eval o).run P w=.ok .skip (w.setRow b #[v]):=by
 have ko:v.cells=#[v]:=by cases v<;>first|rfl|cases h1
 have dz:=af5 P b 0 ty [v] 0 #[u] w hb ahi (λx hx=>by simp at hx;subst hx;exact h1);unfold execOp;simp only[ho,hx,hv,Instr.storeAt,Instr.sureAddr,storeVar,sizeOf,typeInfo,adq,Sem.run_pure,Result.andThen_ok,run_program,hi,hs,ko,ne_eq,aeV,adH];simp only[Nat.add_zero,List.take_zero,List.nil_append,List.length_singleton,afF,adW]at dz
 have e:(w.setRow b ([v]++List.drop 1 #[u].toList).toArray)=w.setRow b #[v]:=ahi
 rw[e]at dz;have bj:(#[v]:Array Value).size=1:=rfl;simp only[bj,aeV,adH];rw[show storeCells ⟨b,0,none⟩ (#[v]:Array Value).toList=storeCells ⟨b,0,none⟩ [v] 0 from rfl,dz]
 rfl
def QK {o:Oper} {cl:Call} {t:TypeId} {x:Operand} {ad:Option Addr} {k cap:Nat} {el:TypeId} (ho:o.op = .call cl) (kJ:cl.callee = .builtin .len) (ha:cl.args = #[x]) (ht:cl.argTypes = #[t]) (hu:P.underlying t=some (.slice el)) (hx:a.eval x = .slice ad k cap) :
  (execOp a.eval o).run P w=.ok (.value (.int .i64 k)) w:=by
 unfold execOp
 have hm:(Builtin.len_ #[t] o.type #[.slice ad k cap]).run P w=.ok (.int .i64 k) w:=by simp[Builtin.len_,adD hu,goInt]
 simp[ho,kJ,ha,ht,resolve,invoke,builtin,hx,hm]
def Jg {o:Oper} {t:TypeId} {x y:Operand} {g k cap:Nat} {el:TypeId} {i:TypeInfo} (ho:o.op = .slice t x none (some y) none) (hu:P.underlying t=some (.slice el)) (hi:P.info? el=some i) (hx:a.eval x = .slice (some ⟨g,0,none⟩) (k+1) cap) (hy:a.eval y = .int .i64 k) (hk:k≤cap) :
  (execOp a.eval o).run P w=.ok (.value (.slice (some ⟨g,0,none⟩) k cap)) w:=by
 have hb:=run_sliceBound (P:=P) (w:=w) (x:=.int .i64 k) (i:=k) (y:=cap) (code:=.sliceAcap) rfl zo zo
 have hbs:(Instr.sliceBounds true (k+1) cap none (some (.int .i64 k)) none).run P w=.ok (0,k,cap) w:=by
  unfold Instr.sliceBounds;simp[adq,hb]
 unfold execOp;simp[ho,hx,hy,Instr.sliceAt,adD hu,Instr.slice,hbs,sizeOf,typeInfo,hi,aei]
def Pu {o:Oper} {t t':TypeId} {x y:Operand} {p q:Int} (ho:o.op = .binOp .sub t x y t') (hx:a.eval x = .int .i64 p) (hy:a.eval y = .int .i64 q) :
  (execOp a.eval o).run P w=.ok (.value (.int .i64 (IntKind.i64.wrap (p-q)))) w:=by
 have h0:(eqGuard .sub t x y (.int .i64 p) (.int .i64 q)).run P w=.ok () w:=gO _ _ _ _ _ _ rfl
 have h1:(binOp .sub t (.int .i64 p) (.int .i64 q)).run P w=.ok (.int .i64 (IntKind.i64.wrap (p-q))) w:=by
  simp[binOp,Op.intArith]
 simp[execOp,ho,hx,hy,h0,h1]
def KK {ops:Array Oper} {T el ti ti':TypeId} {p t1 t2 t3 t4 t5 bN:Nat} {o0 o1 o2 o3 o4 o5:Oper} {cl:Call} {i iT:TypeInfo} {v:Value} {ty:TypeId} {k:Nat} {xs last:List Value}
  (h0:ops[0]?=some o0) (h1:ops[1]?=some o1) (h2:ops[2]?=some o2) (h3:ops[3]?=some o3) (h4:ops[4]?=some o4) (h5:ops[5]?=some o5)
  (q0:o0.op=.load T (.tmp p)/\o0.dst=some t1/\o0.guard=none) (q1:o1.op=.load T (.tmp p)/\o1.dst=some t2/\o1.guard=none) (q2:o2.op=.call cl/\o2.dst=some t3/\o2.guard=none) (q3:o3.op=.binOp .sub ti (.tmp t3) (.const (.int .i64 1)) ti'/\o3.dst=some t4/\o3.guard=none)
  (q4:o4.op=.slice T (.tmp t1) none (some (.tmp t4)) none/\o4.dst=some t5/\o4.guard=none) (q5:o5.op=.store T (.tmp p) (.tmp t5)/\o5.dst=none/\o5.guard=none)
  (kJ:cl.callee=.builtin .len) (BS:cl.args=#[.tmp t2]) (Cq:cl.argTypes=#[T]) (hu:P.underlying T=some (.slice el)) (TV:P.info? T=some iT) (SO:iT.size=1) (hi:P.info? el=some i)
  (hd:p≠t1/\p≠t2/\p≠t3/\p≠t4/\p≠t5/\t1≠t2/\t1≠t3/\t1≠t4/\t2≠t3/\t3≠t4/\t4≠t5) (bj:a.tmps.size=n) (hn:t1<n/\t2<n/\t3<n/\t4<n/\t5<n)
  (hp:a.tmps.getD p undef=.pointer (some ⟨bN,0,none⟩)) (hN:w.heap[bN]?=some (.cells #[v] ty (0,0))) (cV:w.ownsRow (bN+1) el i.size v (k+1) (xs++last)) (qK:xs.length=k*i.size) (hk:k<1000000)
  (hq:∀a' v',a'.tmps.size=n->a'.defers=a.defers->(∀t,t≠t1->t≠t2->t≠t3->t≠t4->t≠t5->a'.tmps.getD t undef=a.tmps.getD t undef)->v'.ownBlock=v.ownBlock->v.ownBlock.isSome=true->w.ownsRow (bN+1) el i.size v' k xs->Q .normal a' (w.setRow bN #[v'])):
  wpOpsIn (FR none) m P ops Q [0,1,2,3,4,5] a w:=by
 obtain⟨d1,d2,d3,d4,d5,d6,d7,d8,d9,d10,d11⟩:=hd;obtain⟨n1,n2,n3,n4,n5⟩:=hn
 have hc:w.cell? ⟨bN,0,none⟩=some v:=by simp[World.cell?,hN]
 obtain⟨g,cap,rfl⟩:∃g cap,v=.slice (some ⟨g,0,none⟩) (k+1) cap:=by
  rcases cV.2 with⟨_,h⟩|⟨g,cap,cur,h,_⟩
  .omega
  .exact⟨g,cap,h⟩
 have fh:k<=cap:=by
  rcases cV.2 with⟨h,_⟩|⟨g',Ke,cur,h,_,_,Ay,_⟩
  .cases h
  .cases h;omega
 have acd:w.ownsRow (bN+1) el i.size (.slice (some ⟨g,0,none⟩) k cap) k xs:=by
  obtain⟨_,h2⟩:=cV
  rcases h2 with⟨h0,_⟩|⟨g',Ke,cur,hv,hg,hh,hn,fh,bj,zF⟩
  .cases h0
  .cases hv;refine⟨qK,.inr ⟨g,cap,cur,rfl,hg,hh,zo,fh,bj,?_⟩⟩
   have h3:(cur.toList.take ((k+1)*i.size)).take (k*i.size)=(xs++last).take (k*i.size):=by rw[zF]
   rw[List.take_take,agj (aeF _ zo)]at h3;rw[h3,<-qK,afH]
 have fm:∀(a:Act)(d t:Nat)(c:Value),t≠d->(a.put (some d) c).tmps.getD t undef=a.tmps.getD t undef:=λa d t c h=>by
  simp[Act.put,adt (ad6 h)]
 have jK:∀(a:Act)(d:Nat)(c:Value),a.tmps.size=n->d<n->(a.put (some d) c).tmps.getD d undef=c:=λa d c h hd=>by
  simp[Act.put,h,hd]
 have kh:∀(a:Act)(d:Option Nat)(c:Value),(a.put d c).tmps.size=a.tmps.size:=λa d c=>by cases d<;>simp[Act.put]
 have so:∀(a:Act)(d:Option Nat)(c:Value),(a.put d c).defers=a.defers:=λa d c=>by cases d<;>rfl
 refine bg h0 q0.2.2 (by rw[q0.1];rfl) (jV q0.1 hp hu rfl hc) ?_;rw[q0.2.1]
 obtain⟨a1,nu⟩:∃a1,a.put (some t1) (.slice (some ⟨g,0,none⟩) (k+1) cap)=a1:=⟨_,rfl⟩
 have z1:a1.tmps.size=n:=by rw[<-nu,kh];exact bj
 have v1:a1.tmps.getD t1 undef=.slice (some ⟨g,0,none⟩) (k+1) cap:=by rw[<-nu];exact jK a t1 _ bj n1
 have p1:a1.tmps.getD p undef=.pointer (some ⟨bN,0,none⟩):=by rw[<-nu,fm _ _ _ _ d1];exact hp
 rw[nu];refine bg h1 q1.2.2 (by rw[q1.1];rfl) (jV q1.1 p1 hu rfl hc) ?_;rw[q1.2.1]
 obtain⟨a2,jG⟩:∃a2,a1.put (some t2) (.slice (some ⟨g,0,none⟩) (k+1) cap)=a2:=⟨_,rfl⟩
 have z2:a2.tmps.size=n:=by rw[<-jG,kh];exact z1
 have v2:a2.tmps.getD t2 undef=.slice (some ⟨g,0,none⟩) (k+1) cap:=by rw[<-jG];exact jK a1 t2 _ z1 n2
 have v1:a2.tmps.getD t1 undef=.slice (some ⟨g,0,none⟩) (k+1) cap:=by rw[<-jG,fm _ _ _ _ d6];exact v1
 have p2:a2.tmps.getD p undef=.pointer (some ⟨bN,0,none⟩):=by rw[<-jG,fm _ _ _ _ d2];exact p1
 rw[jG];refine bg h2 q2.2.2 (by rw[q2.1];rfl) (QK q2.1 kJ BS Cq hu v2) ?_;rw[q2.2.1]
 obtain⟨a3,se⟩:∃a3,a2.put (some t3) (.int .i64 ((k+1:Nat):Int))=a3:=⟨_,rfl⟩
 have z3:a3.tmps.size=n:=by rw[<-se,kh];exact z2
 have v3:a3.tmps.getD t3 undef=.int .i64 ((k+1:Nat):Int):=by rw[<-se];exact jK a2 t3 _ z2 n3
 have v1:a3.tmps.getD t1 undef=.slice (some ⟨g,0,none⟩) (k+1) cap:=by rw[<-se,fm _ _ _ _ d7];exact v1
 have p3:a3.tmps.getD p undef=.pointer (some ⟨bN,0,none⟩):=by rw[<-se,fm _ _ _ _ d3];exact p2
 rw[se];refine bg h3 q3.2.2 (by rw[q3.1];rfl) (Pu q3.1 v3 rfl) ?_;rw[q3.2.1]
 have hw:IntKind.i64.wrap (((k+1:Nat):Int)-1)=(k:Int):=by
  have key:∀m:Int,m=(((k+1:Nat):Int)-1) % 18446744073709551616->(if decide (m>=9223372036854775808)=true then m-18446744073709551616 else m)=(k:Int):=by
   intro m hm;split
   .rename_i hd;have:=afi hd;omega
   .omega
  exact key _ rfl
 rw[hw]
 obtain⟨a4,mg⟩:∃a4,a3.put (some t4) (.int .i64 (k:Int))=a4:=⟨_,rfl⟩
 have z4:a4.tmps.size=n:=by rw[<-mg,kh];exact z3
 have v4:a4.tmps.getD t4 undef=.int .i64 (k:Int):=by rw[<-mg];exact jK a3 t4 _ z3 n4
 have v1:a4.tmps.getD t1 undef=.slice (some ⟨g,0,none⟩) (k+1) cap:=by rw[<-mg,fm _ _ _ _ d8];exact v1
 have p4:a4.tmps.getD p undef=.pointer (some ⟨bN,0,none⟩):=by rw[<-mg,fm _ _ _ _ d4];exact p3
 rw[mg];refine bg h4 q4.2.2 (by rw[q4.1];rfl) (Jg q4.1 hu hi v1 v4 fh) ?_;rw[q4.2.1]
 obtain⟨a5,qM⟩:∃a5,a4.put (some t5) (.slice (some ⟨g,0,none⟩) k cap)=a5:=⟨_,rfl⟩
 have z5:a5.tmps.size=n:=by rw[<-qM,kh];exact z4
 have v5:a5.tmps.getD t5 undef=.slice (some ⟨g,0,none⟩) k cap:=by rw[<-qM];exact jK a4 t5 _ z4 n5
 have p5:a5.tmps.getD p undef=.pointer (some ⟨bN,0,none⟩):=by rw[<-qM,fm _ _ _ _ d5];exact p4
 rw[qM];refine eT h5 q5.2.2 (by rw[q5.1];rfl) (iV q5.1 p5 TV SO hN v5 rfl) ?_;rw[q5.2.1];refine hq a5 _ z5 ?_ (λt e1 e2 e3 e4 e5=>?_) rfl rfl acd
 .rw[<-qM,so,<-mg,so,<-se,so,<-jG,so,<-nu,so]
 .rw[<-qM,fm _ _ _ _ e5,<-mg,fm _ _ _ _ e4,<-se,fm _ _ _ _ e3,<-jG,fm _ _ _ _ e2,<-nu,fm _ _ _ _ e1]
def iF {F:Fence} {ops:Array Oper} {Q1:Exit→Act→World→Prop} {l2:List Nat} (hQ:∀ e a w,e ≠ .normal→Q1 e a w→Q e a w) (hn:∀ a w,Q1 .normal a w→wpOpsIn F m P ops Q l2 a w) :
  ∀(l1:List Nat)(a:Act)(w:World),wpOpsIn F m P ops Q1 l1 a w->wpOpsIn F m P ops Q (l1++l2) a w
 |[],a,w,h=>hn a w h
 |i::l,a,w,h=>by
  simp only[List.cons_append,wpOpsIn]at h⊢
  cases ho:ops[i]? with
  |none=>simp only[ho]at h⊢;exact iF hQ hn l a w h
  |some o=>
   simp only[ho]at h⊢;split
   .rename_i hw;rw[if_pos hw]at h;exact nX (λa w hh=>iF hQ hn l a w hh) hQ h
   .rename_i hw;rw[if_neg hw]at h;exact⟨h.1,iF hQ hn l _ w h.2⟩
def lu {GI:World→Prop} {ro:Option Nat} (hG:ar GI) {ops:Array Oper} {p:Nat} {l2:List Nat} (hr:List.range ops.size=List.range p++l2) (dL:ops.all (fun o=>eH o.op)=true) (bX:((bh P n false ops).take p).all (·.ok n)=true)
  {l:List bH} (hl:(bh P n false ops).take p=l) (hpn:p<=ops.size) {W:Nat->Bool} (hW:jO ops W=true) (gj:GI w) (pr:Nat->Nat->Prop) (S:an)
  (bj:a.tmps.size=n) (eI:a.defers=[]) (hS:∀t,t<n->(S t).aJ=S t/\RV pr cQ w (S t) (a.tmps.getD t undef)) {K:an->ao->Prop} (h:bp P GI l K (λ_=>False) S (λ_=>none))
  (hk:∀g S' H' a' w',g.old=Old.plain pr w->Rel P w n bL g S' H' a' w'->K S' H'->eE W a a'->wpOpsIn (FR ro) m P ops Q l2 a' w') {id:Nat}:(Code.region id ops false).wpIn (FR ro) m P Q a w:=by
 refine adP ?_;rw[hr];subst hl;have R:=Rel.T4 (P:=P) pr bj eI hS
 have key:=rU hG gj (old:=Old.plain pr w) (ops:=ops) (Q:=aN K) (S0:=S) (H0:=fun _=>none) (List.range p) (ops.toList.take p) _ S _ a w (by
   apply aeH;intro i;simp only[adO,afT]
   by_cases hi:i<p
   .have:i<ops.size:=zo
    simp[hi,this]
   .simp[hi]) (λo kv=>by
    simp only[bh,<-ae_,aeY,adw,Function.comp]at bX
    exact bX o kv) (λ_ _ _ _ h=>h) rfl R (by
    simp only[bh,<-ae_]at h
    exact h)
 refine iF (Q1:=zU W a (QQ P w n (Old.plain pr w) (aN K))) (λe a w cP hq=>?_) (λa' w' hq=>?_) _ _ _ (ji hW _ _ _ (p_ dL qd _ _ _ key))
 .cases e with
  |normal=>exact absurd rfl cP
  |exit id=>obtain⟨_,_,_,_,_,h⟩:=hq;exact h.elim
  |ret=>obtain⟨_,_,_,_,_,h⟩:=hq;exact h.elim
  |panic ch=>obtain⟨_,_,_,_,_,_,_,_,_,_,h⟩:=hq;exact h.elim
  |goto l=>exact hq.elim
  |outgrown=>exact hq.elim
 .obtain⟨⟨g',S',H',h1,h2,h3⟩,h4⟩:=hq;exact hk g' S' H' a' w' h1 h2 h3 h4
end
section
variable{P:Program}{GI:World->Prop}{n:Nat}{old:Old}{S:an}{H:ao}{Q:eW}
def tH (hG:ar GI) {w0:World} (cq:GI w0) {ro:Option Nat} {m:Nat} {ops:Array Oper} (dL:ops.all (fun o=>eH o.op)=true) {g:Gh} {a:Act} {w:World} (ho:g.old=old) (R:Rel P w0 n bL g S H a w) (l:List Nat) (os:List Oper) (hl:l.map (ops[·]?)=os.map some)
  (bX:∀o∈os,(bt P n false ops o).ok n=true) (bW:∀d,¬old.bx d) {K:an->ao->Prop} (h:bp P GI (os.map (bt P n false ops)) K (λ_=>False) S H):
  wpOpsIn (FR ro) m P ops (QQ P w0 n old (aN K)) l a w:=
 p_ dL qd _ _ _ (rU hG cq (old:=old) (ops:=ops) (Q:=aN K) (S0:=S) (H0:=H) l os g S H a w hl bX (λ_ _ _ _=>bW _) ho R h)
def SW.mid (hG:ar GI) {ro:Option Nat} {id p:Nat} {ops:Array Oper} {oh:Oper} {l2:List Nat} {kj nk:List Oper} (Ph:ops.toList=kj++oh::nk) (hp:kj.length=p) (hr:List.range ops.size=List.range p++(p::l2)) (ux:l2.map (ops[·]?)=nk.map some)
  (dL:ops.all (λo=>eH o.op)=true) (hgh:oh.guard=none) (bW:∀d,¬old.bx d)
  {n9 np:List bH} (yn:kj.map (bt P n false ops)=n9) (Kz:nk.map (bt P n false ops)=np) (cL:n9.all (·.ok n)=true) (fY:np.all (·.ok n)=true)
  {K1:an->ao->Prop} {K2 K3:Old->an->ao->Prop} (h1:bp P GI n9 K1 (λ_=>False) S H)
  (hand:∀w0 g S1 H1 a w,g.old=old->Rel P w0 n bL g S1 H1 a w->K1 S1 H1->∃v w' g2 S2 H2,((execOp a.eval oh).run P w=.ok (.value v) w'\/((execOp a.eval oh).run P w=.ok .skip w'/\v=undef))/\Rel P w0 n bL g2 S2 H2 (a.put oh.dst v) w'/\K2 g2.old S2 H2)
  (h2:∀o S H,K2 o S H->(∀d,¬o.bx d)/\bp P GI np (K3 o) (λ_=>False) S H) (hQ:∀o S H,K3 o S H->Q .normal o S H):SW P GI n ro (.region id ops false) Q old S H:=by
 intro w0 g a w m cq ho R;refine adP ?_;rw[hr]
 have HU:(List.range p).map (ops[·]?)=kj.map some:=by
  apply aeH;intro i;simp only[adO]
  by_cases hi:i<p
  .have h3:ops[i]? = kj[i]? := by
    rw[<-aev,Ph,aek zo]
   have h4:kj[i]?=some (kj[i]' zo):=adh zo;simp[hi,h3,h4]
  .have:kj[i]?=none:=adI zo;simp[hi,this]
 have YC:ops[p]?=some oh:=by
  rw[<-aev,Ph,aex zo];simp[hp]
 refine iF (Q1:=QQ P w0 n old (aN K1)) (fun e a w cP hq => ?_) (fun a1 w1 hq => ?_) _ _ _ (tH hG cq dL ho R (List.range p) kj HU (fun o kv=>by
   subst yn;simp only[aeY,adw,Function.comp]at cL
   exact cL o kv) bW (by rw[yn];exact h1))
 .cases e with
  |normal=>exact absurd rfl cP
  |exit id=>obtain⟨_,_,_,_,_,h⟩:=hq;exact h.elim
  |ret=>obtain⟨_,_,_,_,_,h⟩:=hq;exact h.elim
  |panic ch=>obtain⟨_,_,_,_,_,_,_,_,_,_,h⟩:=hq;exact h.elim
  |goto l=>exact hq.elim
  |outgrown=>exact hq.elim
 .obtain⟨g1,S1,H1,AD,R1,Sp⟩:=hq;obtain⟨v,w2,g2,S2,H2,dz,R2,kB⟩:=hand w0 g1 S1 H1 a1 w1 AD R1 Sp;obtain⟨iY,jG⟩:=h2 _ _ _ kB
  have WK:eH oh.op=true:=by
   have:=aet.1 dL oh (aen YC);exact this
  have rest:wpOpsIn (FR ro) m P ops (QS P w0 n Q) l2 (a1.put oh.dst v) w2:=by
   have:=tH (ro:=ro) (m:=m) hG cq dL (old:=g2.old) rfl R2 l2 nk ux (λo kv=>by
    subst Kz;simp only[aeY,adw,Function.comp]at fY
    exact fY o kv) iY (by rw[Kz];exact jG)
   refine fZ (λe a w hq=>?_) _ _ _ this
   cases e with
   |normal=>
    obtain⟨g3,S3,H3,Av,R3,C3⟩:=hq;exact⟨g3,S3,H3,R3,by rw[Av];exact hQ _ _ _ C3⟩
   |exit id=>obtain⟨_,_,_,_,_,h⟩:=hq;exact h.elim
   |ret=>obtain⟨_,_,_,_,_,h⟩:=hq;exact h.elim
   |panic ch=>obtain⟨_,_,_,_,_,_,_,_,_,_,h⟩:=hq;exact h.elim
   |goto l=>exact hq.elim
   |outgrown=>exact hq.elim
  rcases dz with dz|⟨dz,rfl⟩
  .exact bg YC hgh WK dz rest
  .exact eT YC hgh WK dz rest
variable{w0:World}{g:Gh}{a:Act}{w:World}
def Rel.nx(R:Rel P w0 n bL g S H a w)(o:Obj):Rel P w0 n bL { g with old:={ g.old with aV:=au g.old.aV w.heap.size (some o) } } S H a (w.alloc o):=by
 have hb:Below w.heap.size w (w.alloc o):=(aej _ _).alloc (adl _) _;have R':=Rel.jU R hb
 have hle:g.base<=w.heap.size:=by rw[R.base];exact R.below.size
 refine{ size:=R'.size,defers:=R'.defers,facts:=R'.facts,slot:=R'.slot,own:=λt ht hu=>(R'.own t ht hu).aV rfl λb hb=>⟨rfl,rfl,hb⟩,box:=?_,jQ:=R'.jQ,jX:=R'.jX,inj:=R'.inj,base:=R'.base,below:=R'.below,fresh:=R'.fresh,still:=R'.still,grown:=R'.grown,kept:=?_ }
 .intro i b hi;obtain⟨cs,vs,ty,h1,h2,h3,h4,h5,h6,h7,h8,h9⟩:=R'.box i b hi;exact⟨cs,vs,ty,h1,h2,h3,h4,h5,h6,h7,λj hj dU=>(h8 j hj dU).aV rfl λb hb=>⟨rfl,rfl,hb⟩,h9⟩
 .intro b ob h
  by_cases mm:b=w.heap.size
  .subst mm
   have:ob=o:=by simpa[au]using h.symm
   subst this;refine⟨hle,aee w _,(R.fresh _ (adl _)).1,(R.fresh _ (adl _)).2,λi hi=>?_⟩;obtain⟨_,_,_,_,_,h3,_⟩:=R.box i _ hi;have:=(adj.1 h3).1;omega
  .have h:g.old.aV b=some ob:=by simpa[au,mm]using h
   exact R'.kept b ob h
def rC(b:Nat)(ks vs:List AV):AV->AV
 |.val (.map (some b'))=>if b'=b then .map ks vs else .val (.map (some b'))
 |v=>v
def Oa(b:Nat)(ks vs:List AV)(v:AV)(h:v.one=true):(rC b ks vs v).one=true:=by
 unfold rC;split
 .split<;>rfl
 .exact h
def Rel.TX (R:Rel P w0 n bL g S H a w) {b:Nat} {es:Array MapEntry} {clock:Nat} (hk:g.old.aV b=some (.map es clock)) (ks vs:List AV) (jv:ks.length=es.size) (ZQ:vs.length=es.size)
  (Yr:∀i (h:i<ks.length)(h':i<es.size),RD (λ_ _=>False) w ks[i] (es[i]).key) (xy:∀i (h:i<vs.length)(h':i<es.size),RD (λ_ _=>False) w vs[i] (es[i]).val)
  (hf:g.old.facts=[]):∃g',g'.old={ g.old with aV:=au g.old.aV b none }/\Rel P w0 n bL g' (λt=>match S t with|.box i o=>.box i o|_=>.bo) (λi=>(H i).map λcs=>cs.map (rC b ks vs)) a w:=by
 obtain⟨k1,k2,k3,k4,k5⟩:=R.kept b _ hk
 let g':Gh:={ g with old:={ g.old with aV:=au g.old.aV b none },hi:=au g.hi b 1 }
 have qo:∀c k,g.Pr c k->g'.Pr c k:=by
  intro c k h;rcases h with h|h
  .exact .inl h
  .refine .inr ⟨h.1,?_⟩;show k<au g.hi b 1 c
   by_cases hc:c=b
   .subst hc;rw[k3]at h;omega
   .rw[aQ _ _ hc];exact h.2
 have hK:bf g.Pr g'.Pr w w:=bf.same λc k _ h=>qo c k h
 have O6:RD g'.Pr w (.map ks vs) (.map (some b)):=by
  refine .map ks vs b es clock (.inr ⟨k1,by show 0<au g.hi b 1 b;rw[aO];omega⟩) k2 jv ZQ (λi h h'=>(Yr i h h').mono (bf.same λ_ _ _ h=>h.elim)) (λi h h'=>(xy i h h').mono (bf.same λ_ _ _ h=>h.elim))
 have Zv:∀{v:AV}{c:Value},RD g.Pr w v c->RD g'.Pr w (rC b ks vs v) c:=by
  intro v c h;unfold rC;split
  .rename_i b';split
   .rename_i hb;subst hb;cases h;exact O6
   .exact h.mono hK
  .exact h.mono hK
 refine⟨g',rfl,{ size:=R.size,defers:=R.defers,facts:=λp hp=>(by rw[show g'.old.facts=g.old.facts from rfl,hf]at hp;cases hp),slot:=?_,own:=?_,box:=?_,jQ:=?_,jX:=R.jX,inj:=R.inj,base:=R.base,below:=R.below,fresh:=?_,still:=R.still.trans hK,grown:=R.grown,kept:=?_ }⟩
 .intro t ht hu;have h:=R.slot t ht hu;show RV g'.Pr g'.al w (match S t with|.box i o=>.box i o|_=>.bo) _;split
  .rename_i i o hs;rw[hs]at h;generalize a.tmps.getD t undef=c at h
   cases h with
   |data _ _ h=>cases h
   |box _ _ b h=>exact .box _ _ _ h
  .exact .bo _
 .intro t ht hu;show eK P w g' (.slot t) (match S t with|.box i o=>.box i o|_=>.bo) _
  split<;>trivial
 .intro i c hi;obtain⟨cs,ll,ty,h1,h2,h3,h4,h5,h6,h7,h8,h9⟩:=R.box i c hi
  have jP:c≠b:=by rintro rfl;exact k5 i hi
  refine⟨cs.map (rC b ks vs),ll,ty,by simp[h1],h2,h3,by show au g.hi b 1 c=0;rw[aQ _ _ jP];exact h4,h5,by simpa using h6,λj hj dU=>?_,λj hj dU=>?_,λj hj=>?_⟩
  .simp only[adn]at hj;simp only[adz];exact Zv (h7 j hj dU)
  .simp only[adn]at hj;simp only[adz];have ho:=h8 j hj dU;unfold rC;split
   .split<;>trivial
   .refine ho.aV rfl λb' im=>⟨rfl,?_,im⟩
    show au g.hi b 1 b'=g.hi b';exact aQ _ _ (by rintro rfl;rw[k4]at im;cases im)
  .simp only[adn]at hj;simp only[adz];exact Oa _ _ _ _ (h9 j hj)
 .intro i cs h hu;obtain⟨fU,h1,_⟩:=adv.1 h;exact R.jQ i fU h1 hu
 .intro c hc
  have jP:c≠b:=by
   rintro rfl;have:=(adj.1 k2).1;omega
  exact⟨by show au g.hi b 1 c=0;rw[aQ _ _ jP];exact(R.fresh c hc).1,(R.fresh c hc).2⟩
 .intro c ob h
  have jP:c≠b:=by rintro rfl;simp[g',au]at h
  have h:g.old.aV c=some ob:=by simpa[g',au,jP]using h
  obtain⟨q1,q2,q3,q4,q5⟩:=R.kept c ob h;exact⟨q1,q2,by show au g.hi b 1 c=0;rw[aQ _ _ jP];exact q3,q4,q5⟩
end
def wk(i:Nat)(cs:List AV):AV->AV
 |.box j off=>if j=i then .ref ((cs.map AV.aJ).drop off)else .box j off
 |v=>cd i v
section
variable{P:Program}{w0:World}{n:Nat}{g:Gh}{S:an}{H:ao}{a:Act}{w:World}
def Rel.freeze (R:Rel P w0 n bL g S H a w) {i:Nat} {cs:List AV} (hH:H i=some cs) (hf:g.old.facts=[]) :
  ∃g',g'.old=g.old/\Rel P w0 n bL g' (λt=>wk i cs (S t)) (au H i none) a w:=by
 obtain⟨b,hb⟩:=afR.1 (R.jQ i cs hH id);obtain⟨fU,vs,ty,e0,b1,b2,b3,b4,b5,b6,b7,b8⟩:=R.box i b hb;rw[hH]at e0;cases e0
 let g':Gh:={ g with al:=au g.al i none,hi:=au g.hi b cs.length }
 have qo:∀c k,g.Pr c k->g'.Pr c k:=by
  intro c k h;rcases h with h|h
  .exact .inl h
  .refine .inr ⟨h.1,?_⟩;show k<au g.hi b cs.length c
   by_cases hc:c=b
   .subst hc;rw[b3]at h;omega
   .rw[aQ _ _ hc];exact h.2
 have hK:bf g.Pr g'.Pr w w:=bf.same λc k _ h=>qo c k h
 have jC:∀j c,j≠i->g.al j=some c->g'.al j=some c:=λj c hj h=>by show au g.al i none j=_;rw[aQ _ _ hj];exact h
 have ZI:∀j c,j≠i->g.al j=some c->c≠b:=by
  rintro j c hj h rfl;exact hj (R.inj j i _ h hb)
 refine⟨g',rfl,{ size:=R.size,defers:=R.defers,facts:=λp hp=>(by rw[show g'.old.facts=g.old.facts from rfl,hf]at hp;cases hp),slot:=?_,own:=?_,box:=?_,jQ:=?_,jX:=λ_ h=>h.elim,inj:=?_,base:=R.base,below:=R.below,fresh:=?_,still:=R.still.trans hK,grown:=R.grown,kept:=?_ }⟩
 .intro t ht hu;have h:=R.slot t ht hu;generalize a.tmps.getD t undef=c at h;have h2:=(h.cd i jC).mono hK (λ_ _ h=>h);show RV g'.Pr g'.al w (wk i cs (S t)) c;generalize S t=v at h h2
  cases v<;>try exact h2
  rename_i j off;simp only[wk];simp only[cd]at h2;split
  .rename_i hj;subst hj
   have lS:∃c',c=.pointer (some ⟨c',off,none⟩)/\g.al j=some c':=by
    cases h with
    |data _ _ h=>cases h
    |box _ _ c' h=>exact⟨c',rfl,h⟩
   obtain⟨c',rfl,xk⟩:=lS;rw[hb]at xk;cases xk;refine .data _ _ (.ref _ b off (λk=>vs.getD (off+k) undef) (λk hk=>?_) (λk hk=>?_) (λk hk=>?_))
   .simp only[aeG,adz];simp only[ad0,adn]at hk;exact(AV.pc _).trans (b8 _ zo)
   .simp only[ad0,adn]at hk;refine⟨.inr ⟨b1,by show off+k<au g.hi b cs.length b;rw[aO];omega⟩,?_⟩
    have:off+k<vs.size:=zo
    simp[World.cell?,b2,this]
   .simp only[ad0,adn]at hk;simp only[aeG,adz];have hh:=b6 (off+k) zo zo
    have:off+k<vs.size:=zo
    have:=hh.aJ.mono hK;simpa[‹off+k<vs.size›]using this
  .rename_i hj;rw[if_neg hj]at h2;exact h2
 .intro t ht hu;have h:=R.own t ht hu;have h2:=Dw P w g (.slot t) i (S t) _ h
  have h3:eK P w g' (.slot t) (cd i (S t)) (a.tmps.getD t undef):=h2.aV rfl λc hc=>⟨rfl,by show au g.hi b cs.length c=g.hi c;exact aQ _ _ (by rintro rfl;rw[b4]at hc;cases hc),hc⟩
  show eK P w g' (.slot t) (wk i cs (S t)) _;generalize S t=v at h3
  cases v<;>try exact h3
  simp only[wk]
  split<;>trivial
 .intro j c hj
  have fD:j≠i:=by rintro rfl;simp[g',au]at hj
  have dU:g.al j=some c:=by simpa[g',au,fD]using hj
  have jP:=ZI j c fD dU;obtain⟨Vh,vs2,ty2,h1,h2,h3,h4,h5,h6,h7,h8,h9⟩:=R.box j c dU;refine⟨Vh,vs2,ty2,by rw[aQ _ _ fD];exact h1,h2,h3,by show au g.hi b cs.length c=0;rw[aQ _ _ jP];exact h4,h5,h6,λk hk cE=>(h7 k hk cE).mono hK,λk hk cE=>?_,h9⟩
  refine(h8 k hk cE).aV rfl λb' im=>⟨rfl,?_,im⟩
  show au g.hi b cs.length b'=g.hi b';exact aQ _ _ (by rintro rfl;rw[b4]at im;cases im)
 .intro j Vh h hu
  have fD:j≠i:=by rintro rfl;simp[au]at h
  have h':H j=some Vh:=by simpa[au,fD]using h
  show(au g.al i none j).isSome;rw[aQ _ _ fD];exact R.jQ j Vh h' hu
 .intro j k c h1 h2
  have hj:j≠i:=by rintro rfl;simp[g',au]at h1
  have hk:k≠i:=by rintro rfl;simp[g',au]at h2
  exact R.inj j k c (by simpa[g',au,hj]using h1) (by simpa[g',au,hk]using h2)
 .intro c hc
  have jP:c≠b:=by
   rintro rfl;have:=(adj.1 b2).1;omega
  exact⟨by show au g.hi b cs.length c=0;rw[aQ _ _ jP];exact(R.fresh c hc).1,(R.fresh c hc).2⟩
 .intro c ob h;obtain⟨q1,q2,q3,q4,q5⟩:=R.kept c ob h
  have jP:c≠b:=by rintro rfl;exact q5 i hb
  refine⟨q1,q2,by show au g.hi b cs.length c=0;rw[aQ _ _ jP];exact q3,q4,λj=>?_⟩;show au g.al i none j≠some c
  by_cases hj:j=i
  .subst hj;simp[au]
  .rw[aQ _ _ hj];exact q5 j
end
section
variable{P:Program}{GI:World->Prop}{n:Nat}{old:Old}{S:an}{H:ao}{Q:eW}{ro:Option Nat}
def SW.ghost{c:Code}{K:Old->an->ao->Prop}(h:∀w0 g a w,g.old=old->Rel P w0 n bL g S H a w->∃g2 S2 H2,Rel P w0 n bL g2 S2 H2 a w/\K g2.old S2 H2)(hc:∀o S H,K o S H->SW P GI n ro c Q o S H):SW P GI n ro c Q old S H:=by
 intro w0 g a w m hG ho R;obtain⟨g2,S2,H2,R2,hK⟩:=h w0 g a w ho R;exact hc _ _ _ hK w0 g2 a w m hG rfl R2
def SW.freeze{c:Code}{i:Nat}{cs:List AV}(hH:H i=some cs)(hf:old.facts=[])(hc:SW P GI n ro c Q old (λt=>wk i cs (S t)) (au H i none)):SW P GI n ro c Q old S H:=by
 intro w0 g a w m hG ho R;obtain⟨g',h1,R'⟩:=R.freeze hH (by rw[ho];exact hf);exact hc w0 g' a w m hG (h1.trans ho) R'
def HQ(P:Program)(w0:World)(n:Nat)(K:Old->an->ao->Prop):Exit->Act->World->Prop
 |.normal,a,w=>∃g S H,Rel P w0 n bL g S H a w/\K g.old S H
 |_,_,_=>False
def SW.hand (hG:ar GI) {id p:Nat} {ops:Array Oper} {lm l2:List Nat} {kj oh nk:List Oper} (Ph:ops.toList=kj++(oh++nk)) (hp:kj.length=p) (hr:List.range ops.size=List.range p++(lm++l2)) (ux:l2.map (ops[·]?)=nk.map some)
  (dL:ops.all (λo=>eH o.op)=true) (bW:∀d,¬old.bx d)
  {n9 np:List bH} (yn:kj.map (bt P n false ops)=n9) (Kz:nk.map (bt P n false ops)=np) (cL:n9.all (·.ok n)=true) (fY:np.all (·.ok n)=true)
  {K1:an->ao->Prop} {K2 K3:Old->an->ao->Prop} (h1:bp P GI n9 K1 (λ_=>False) S H)
  (hand:∀w0 g S1 H1 a w m,GI w0->g.old=old->Rel P w0 n bL g S1 H1 a w->K1 S1 H1->wpOpsIn (FR ro) m P ops (HQ P w0 n K2) lm a w)
  (h2:∀o S H,K2 o S H->(∀d,¬o.bx d)/\bp P GI np (K3 o) (λ_=>False) S H) (hQ:∀o S H,K3 o S H->Q .normal o S H):SW P GI n ro (.region id ops false) Q old S H:=by
 intro w0 g a w m cq ho R;refine adP ?_;rw[hr]
 have HU:(List.range p).map (ops[·]?)=kj.map some:=by
  apply aeH;intro i;simp only[adO]
  by_cases hi:i<p
  .have h3:ops[i]? = kj[i]? := by
    rw[<-aev,Ph,aek zo]
   have h4:kj[i]?=some (kj[i]' zo):=adh zo;simp[hi,h3,h4]
  .have:kj[i]?=none:=adI zo;simp[hi,this]
 refine iF (Q1:=QQ P w0 n old (aN K1)) (fun e a w cP hq => ?_) (fun a1 w1 hq => ?_) _ _ _ (tH hG cq dL ho R (List.range p) kj HU (fun o kv=>by
   subst yn;simp only[aeY,adw,Function.comp]at cL
   exact cL o kv) bW (by rw[yn];exact h1))
 .cases e with
  |normal=>exact absurd rfl cP
  |exit id=>obtain⟨_,_,_,_,_,h⟩:=hq;exact h.elim
  |ret=>obtain⟨_,_,_,_,_,h⟩:=hq;exact h.elim
  |panic ch=>obtain⟨_,_,_,_,_,_,_,_,_,_,h⟩:=hq;exact h.elim
  |goto l=>exact hq.elim
  |outgrown=>exact hq.elim
 .obtain⟨g1,S1,H1,AD,R1,Sp⟩:=hq;refine iF (Q1:=HQ P w0 n K2) (λe a w cP hq=>?_) (λa2 w2 hq=>?_) _ _ _ (hand w0 g1 S1 H1 a1 w1 m cq AD R1 Sp)
  .cases e with
   |normal=>exact absurd rfl cP
   |_=>exact hq.elim
  .obtain⟨g2,S2,H2,R2,kB⟩:=hq;obtain⟨iY,jG⟩:=h2 _ _ _ kB
   have:=tH (ro:=ro) (m:=m) hG cq dL (old:=g2.old) rfl R2 l2 nk ux (λo kv=>by
    subst Kz;simp only[aeY,adw,Function.comp]at fY
    exact fY o kv) iY (by rw[Kz];exact jG)
   refine fZ (λe a w hq=>?_) _ _ _ this
   cases e with
   |normal=>
    obtain⟨g3,S3,H3,Av,R3,C3⟩:=hq;exact⟨g3,S3,H3,R3,by rw[Av];exact hQ _ _ _ C3⟩
   |exit id=>obtain⟨_,_,_,_,_,h⟩:=hq;exact h.elim
   |ret=>obtain⟨_,_,_,_,_,h⟩:=hq;exact h.elim
   |panic ch=>obtain⟨_,_,_,_,_,_,_,_,_,_,h⟩:=hq;exact h.elim
   |goto l=>exact hq.elim
   |outgrown=>exact hq.elim
end
section
variable{P:Program}{a:Act}{w:World}
def BA {o:Oper} {t:TypeId} {x:Operand} {s:ByteArray} (ho:o.op = .range t x) (hu:P.underlying t=some .string) (hx:a.eval x = .string s) :
  (execOp a.eval o).run P w=.ok (.value (.pointer (some ⟨w.heap.size,0,none⟩))) (w.alloc (.stringIter s 0)):=by
 unfold execOp;simp only[ho,hx,adq,run_range_string w t s hu]
 rfl
def uO {o:Oper} {x:Operand} {b:Nat} {s:ByteArray} {pos:Nat} (ho:o.op = .next x true) (hx:a.eval x = .pointer (some ⟨b,0,none⟩)) (hb:w.heap[b]? = some (.stringIter s pos)) (h:¬ pos < s.size) :
  (execOp a.eval o).run P w=.ok (.value (.tuple #[.bool false])) w:=by
 unfold execOp;simp[ho,hx,Instr.next,getObj,Sem.run,hb,h]
end
section
variable{P:Program}{GI:World->Prop}{n:Nat}{old:Old}{S:an}{H:ao}{Q:eW}{ro:Option Nat}
def SW.Uw{c:Code}(I:Old->an->ao->Prop)(μ:Old->an->ao->Nat)(h0:I old S H)(hr:∀o S H,I o S H->SW P GI n ro c (thenS (λo' S' H'=>I o' S' H'/\μ o' S' H'<μ o S H) Q) o S H):SW P GI n ro (.loop c) Q old S H:=by
 intro w0 g a w m hG ho R;subst ho
 have key:∀ (k:Nat) (g:Gh) (S:an) (H:ao) (a:Act) (w:World),Rel P w0 n bL g S H a w→I g.old S H→μ g.old S H=k→∀ (b:Frame) (kk:List Item) (cs:List Frame),b.roundOf=ro→(FR ro).room (cs.length+1+m) →
   ∃e a' w',QS P w0 n Q e a' w'/\ArrivesIn (Machine.fenced P (FR ro)) P (lone (b.atR a (.code c::.inLoop c::kk)) cs w) b kk cs e a' w':=by
  intro k
  induction k using Nat.strongRecOn with
  |_ k ih=>
   intro g S H a w R hI hk b kk cs vW iQ;obtain⟨e,jw,lz,hq,h_⟩:=hr g.old S H hI w0 g a w m hG rfl R b (.inLoop c::kk) cs vW trivial iQ
   cases e with
   |normal=>
    obtain⟨g',S',H',h2,h3,h4⟩:=hq;obtain⟨CM,DN,CP,ye,qv⟩:=ih _ (by rw[<-hk];exact h4) g' S' H' jw lz h2 h3 rfl b kk cs vW iQ;exact⟨CM,DN,CP,ye,.of_steps (agB h_ (.one (afC (F:=FR ro) (fr:=b.atR jw (.inLoop c::kk)) trivial iQ rfl) aht)) qv⟩
   |exit id=>exact⟨.exit id,jw,lz,hq,.pass (x:=.inLoop c) rfl (λ_ _=>.inl ahi) h_⟩
   |goto l=>exact hq.elim
   |ret=>exact⟨.ret,jw,lz,hq,.pass (x:=.inLoop c) rfl (λ_ _=>.inl ahi) h_⟩
   |panic ch=>exact⟨.panic ch,jw,lz,hq,.pass (x:=.inLoop c) rfl (λ_ _=>.inl ahi) h_⟩
   |outgrown=>exact hq.elim
 intro b kk cs vW hF iQ;obtain⟨e,a',w',hq,h_⟩:=key _ g S H a w R h0 rfl b kk cs vW iQ;exact⟨e,a',w',hq,.of_steps (.one (afC (F:=FR ro) (fr:=b.atR a (.code (.loop c)::kk)) trivial iQ rfl) stepR_loop) h_⟩
end
section
variable{P:Program}{GI:World->Prop}{call:DB}{n:Nat}{ro:Option Nat}{Q:eW}{old:Old}
def Nw{c:Code}{x y:ah}(h:dw P n c=.seq x y):∃x' y',c=.seq x' y'/\dw P n x'=x/\dw P n y'=y:=by
 cases c with
 |seq x' y'=>simp only[dw,ah.seq.injEq]at h;exact⟨x',y',rfl,h.1,h.2⟩
 |region id ops draw=>
  simp only[dw]at h;split at h
  .split at h<;>cases h
  .split at h<;>cases h
 |cond c x y=>simp only[dw]at h;split at h<;>cases h
 |_=>cases h
end
section
variable{P:Program}{GI:World->Prop}{n:Nat}{w0:World}
def A6(P:Program)(GI:World->Prop)(i:Nat):Nat->ah->(dT->an->ao->Prop)->an->ao->Prop
 |0,ac,Q,S,H=>∃cs,H i=some cs/\bD P GI ac Q (λt=>wk i cs (S t)) (au H i none)
 |k+1,.seq x y,Q,S,H=>bD P GI x (λe S' H'=>match e with
  |.normal=>A6 P GI i k y Q S' H'
  |e=>Q e S' H') S H
 |_+1,_,_,_,_=>False
def LO(hG:ar GI)(cq:GI w0)(hm:P.follows .mixedOrders=true){old:Old}{i:Nat}(hf:old.facts=[])(bW:∀d,¬old.bx d):∀(k:Nat)(c:Code)(Q:dT->an->ao->Prop)(g:Gh)(S:an)(H:ao)(a:Act)(w:World),g.old=old->Rel P w0 n bL g S H a w->A6 P GI i k (dw P n c) Q S H->c.wp P (QQ P w0 n old Q) a w
 |0,c,Q,g,S,H,a,w,ho,R,h=>by
  obtain⟨cs,hH,h⟩:=h;obtain⟨g',h1,R'⟩:=R.freeze hH (by rw[ho];exact hf);exact mI hG cq hm c _ g' _ _ a w (λd _=>bW d) (h1.trans ho) R' h
 |k+1,c,Q,g,S,H,a,w,ho,R,h=>by
  cases oI:dw P n c<;>rw[oI]at h<;>try (exact h.elim)
  rename_i xa ya;obtain⟨x,y,rfl,rfl,rfl⟩:=Nw oI;refine wp_seq (agK (mI hG cq hm x _ g S H a w (λd _=>bW d) ho R h) ?_);intro e a' w' he
  cases e with
  |normal=>
   obtain⟨g',S',H',e1,R',h'⟩:=he;exact LO hG cq hm hf bW k y Q g' S' H' a' w' e1 R' h'
  |_=>exact he
def AC.PN (hG:ar GI) (hm:P.follows .mixedOrders=true) {f:Nat} {fn:Func} {c:Code} {args:List AV} {out:iJ} (i k:Nat) (hf:P.funcs[f]? = some fn) (hb:fn.body=some c) (hn:fn.ntmps=n) (hl:args.length≤n) {ac:ah} (hc:dw P n c=ac)
  (h:A6 P GI i k ac (post P n fn.results.toList out) (start args) (λ_=>none)):AC P GI f args out:=by
 intro w old bP gj hlen hr;refine afo hf hb ?_;subst hc;have R:Rel P w n bL _ (start args) (λ_=>none) { tmps:=bP++Array.replicate (fn.ntmps-bP.size) undef,defers:=[] } w:=Rel.begin hn hl hlen hr;refine agK (LO hG gj hm (old:=Old.plain old w) rfl (λ_ h=>h) k c _ _ _ _ _ w rfl R h) ?_;intro e a' w' he
 have fin:(∃ g' S H,g'.old=Old.plain old w∧Rel P w n bL g' S H a' w'∧∃ v,cM P n fn.results.toList S H=some v∧out = .ret v) →
   a'.defers=[]/\∃v,(results fn a'.tmps).run P w'=.ok v w'/\Ends P old w out (.returned v) w':=by
  rintro⟨g',S,H,e1,R',v,hv,rfl⟩;obtain⟨c,r1,r2,r3⟩:=vj R' hv;refine⟨by rw[R'.defers,e1];rfl,c,r1,?_,g'.hi,λb hb=>(R'.fresh b hb).1,c,rfl,?_,?_⟩
  .have:=R'.below;rwa [R'.base]at this
  .have:g'.Pr=pK w.heap.size old g'.hi:=by
    funext b k
    simp only[Gh.Pr,pK,R'.base,e1,Old.plain]
   rw[this]at r2;exact .data _ _ r2
  .rwa [R'.base]at r3
 cases e with
 |normal=>exact fin he
 |ret=>exact fin he
 |exit id=>obtain⟨_,_,_,_,_,h⟩:=he;exact h.elim
 |panic chain=>
  obtain⟨hd,v,c,hi,S,H,h1,h2,h3,h4,h5⟩:=he;subst h1;cases(show out=.panic v from h5);exact⟨hd,h2,hi,h3,c,rfl,h4⟩
 |goto l=>exact he.elim
 |outgrown=>exact he.elim
def QU{i k:Nat}{x y:ah}{Q:dT->an->ao->Prop}{S:an}{H:ao}(K:an->ao->Prop)(hx:bD P GI x (λe S H=>e=.normal/\K S H) S H)(rA:∀{Q Q':dT->an->ao->Prop},(∀e S H,Q e S H->Q' e S H)->bD P GI x Q S H->bD P GI x Q' S H)(hy:∀S' H',K S' H'->A6 P GI i k y Q S' H'):A6 P GI i (k+1) (.seq x y) Q S H:=
 rA (λe S' H' h=>by obtain⟨rfl,h⟩:=h;exact hy S' H' h) hx
def Ns{i:Nat}{ac:ah}{Q:dT->an->ao->Prop}{S:an}{H:ao}(cs:List AV)(K:an->ao->Prop)(hH:H i=some cs)(hK:K (λt=>wk i cs (S t)) (au H i none))(hc:∀S' H',K S' H'->bD P GI ac Q S' H'):A6 P GI i 0 ac Q S H:=⟨cs,hH,hc _ _ hK⟩
end
section
variable{P:Program}{GI:World->Prop}{w0:World}{n:Nat}{g:Gh}{S:an}{H:ao}{a:Act}{w:World}
def Rel.OT (R:Rel P w0 n bL g S H a w) {w':World} (hb:Below w.heap.size w w') {b:Nat} (hle:w.heap.size≤b) {o:Obj} (ho:w'.heap[b]? = some o) :
  Rel P w0 n bL { g with old:={ g.old with aV:=au g.old.aV b (some o) } } S H a w':=by
 have R':=Rel.jU R hb
 have gy:g.base<=w.heap.size:=by rw[R.base];exact R.below.size
 refine{ size:=R'.size,defers:=R'.defers,facts:=R'.facts,slot:=R'.slot,own:=λt ht hu=>(R'.own t ht hu).aV rfl λb hb=>⟨rfl,rfl,hb⟩,box:=?_,jQ:=R'.jQ,jX:=R'.jX,inj:=R'.inj,base:=R'.base,below:=R'.below,fresh:=R'.fresh,still:=R'.still,grown:=R'.grown,kept:=?_ }
 .intro i c hi;obtain⟨cs,vs,ty,h1,h2,h3,h4,h5,h6,h7,h8,h9⟩:=R'.box i c hi;exact⟨cs,vs,ty,h1,h2,h3,h4,h5,h6,h7,λj hj dU=>(h8 j hj dU).aV rfl λb hb=>⟨rfl,rfl,hb⟩,h9⟩
 .intro c ob h
  by_cases mm:c=b
  .subst mm
   have:ob=o:=by simpa[au]using h.symm
   subst this;refine⟨aeo gy hle,ho,(R.fresh _ hle).1,(R.fresh _ hle).2,λi hi=>?_⟩;obtain⟨_,_,_,_,_,h3,_⟩:=R.box i _ hi;have:=(adj.1 h3).1;omega
  .have h:g.old.aV c=some ob:=by simpa[au,mm]using h
   exact R'.kept c ob h
def RD.flat{Pr:Nat->Nat->Prop}{v:AV}{c:Value}(h:RD Pr w v c):Go.AL.flat v=true/\∀d,cd d v=v:=by
 have:=h.cg
 cases v<;>first|exact⟨rfl,λ_=>rfl⟩|cases this
def Rel.hand (R:Rel P w0 n bL g S H a w) {b:Nat} {o:Obj} (hk:g.old.aV b=some o) (m:Nat) :
  ∃g',g'.old={ g.old with aV:=au g.old.aV b none }/\g'.base=g.base/\Rel P w0 n bL g' S H a w/\(∀c k,g.Pr c k->g'.Pr c k)/\∀k,k<m->g'.Pr b k:=by
 obtain⟨k1,k2,k3,k4,k5⟩:=R.kept b o hk
 have R1:Rel P w0 n bL { g with old:={ g.old with aV:=au g.old.aV b none } } S H a w:=by
  refine{ size:=R.size,defers:=R.defers,facts:=R.facts,slot:=R.slot,own:=λt ht hu=>(R.own t ht hu).aV rfl λb hb=>⟨rfl,rfl,hb⟩,box:=?_,jQ:=R.jQ,jX:=R.jX,inj:=R.inj,base:=R.base,below:=R.below,fresh:=R.fresh,still:=R.still,grown:=R.grown,kept:=?_ }
  .intro i c hi;obtain⟨cs,vs,ty,h1,h2,h3,h4,h5,h6,h7,h8,h9⟩:=R.box i c hi;exact⟨cs,vs,ty,h1,h2,h3,h4,h5,h6,h7,λj hj dU=>(h8 j hj dU).aV rfl λb hb=>⟨rfl,rfl,hb⟩,h9⟩
  .intro c ob h
   have hc:c≠b:=by rintro rfl;simp[au]at h
   exact R.kept c ob (by simpa[au,hc]using h)
 have aq:=(adj.1 k2).1;have R2:=R1.kW (G:=λc=>c=b) (λ_=>m) (λc hc=>by subst hc;exact⟨⟨k1,k3,k4,k5⟩,aq,aO _ _ _⟩);refine⟨Gh.kW { g with old:={ g.old with aV:=au g.old.aV b none } } (λc=>c=b) (λ_=>m),rfl,rfl,R2,λc k hp=>?_,λk hkm=>.inr ⟨k1,?_⟩⟩
 .rcases hp with hp|hp
  .exact .inl hp
  .refine .inr ⟨hp.1,?_⟩;simp only[Gh.kW]
   by_cases hc:c=b
   .subst hc;rw[k3]at hp;omega
   .rw[if_neg hc];exact hp.2
 .simp only[Gh.kW];rw[if_pos trivial];exact hkm
end
section
variable{P:Program}{GI:World->Prop}{md:Region.Mode}{ops:Array Oper}{n:Nat}
def Hu(P:Program)(GI:World->Prop)(o:bH)(S:an)(H:ao)(v:AV):Prop:=
 aF S o.guard=some true/\match o.op with
 |.call f args=>(args.any λy=>cW (ev S y))=false/\eb P f=true/\AC P GI f (args.map λy=>fz H (ev S y)) (.panic v)
 |_=>False
def J7{x y:bH}{S:an}{H:ao}{ex:aP}{v:AV}(ha:x.apart y=true)(hx:eu P GI x S H ex)(hy:Hu P GI y (ex.S S x.dst) (ex.H H) v):Hu P GI y S H v:=by
 obtain⟨h1,h2,h3⟩:=apart_spec ha;obtain⟨d1,d2⟩:=fj hx
 have hS:∀t∈y.reads,ex.S S x.dst t=S t:=λt ht=>aP.uQ (λh=>(h1 t (fk (.inl h))).1 ht) (λh=>(h1 t (fk (.inr (d1 t h)))).1 ht)
 unfold Hu at hy⊢;obtain⟨hw,hy⟩:=hy;refine⟨by rw[<-hw];exact(vi λt b CH=>hS t (by simp[bH.reads,CH])).symm,?_⟩;generalize dj:y.op=op at hy
 cases op<;>try (exact hy.elim)
 rename_i f args;simp only at hy⊢
 have qN:∀z∈args,∀t∈z.tmps,ex.S S x.dst t=S t:=λz hz t ht=>hS t (by
  simp only[bH.reads,dj,eC.rd,adm,adX]
  exact .inl ⟨z,hz,ht⟩)
 have e1:(args.any λy=>cW (ev (ex.S S x.dst) y))=(args.any λy=>cW (ev S y)):=by
  rw[ad5];simp only[aeK]
  constructor
  .rintro⟨y,hy,hb⟩;exact⟨y,hy,by rw[<-bK (qN y hy)];exact hb⟩
  .rintro⟨y,hy,hb⟩;exact⟨y,hy,by rw[bK (qN y hy)];exact hb⟩
 obtain⟨hb,hc,oI⟩:=hy
 have e2:(args.map λy=>fz (ex.H H) (ev (ex.S S x.dst) y))=(args.map λy=>fz H (ev S y)):=aeb λy hy=>by
  simp only[aeg,ae0]at hb;rw[Ab (hb y hy) (H':=H),bK (qN y hy)]
 rw[e1]at hb;rw[e2]at oI;exact⟨hb,hc,oI⟩
def Fk(P:Program)(GI:World->Prop)(n:Nat)(ops:Array Oper)(i:Nat)(K:an->ao->Prop)(Qp:AV->Prop)(S:an)(H:ao):Prop:=
 match jq P n ops i with
 |none=>False
 |some o=>(∃e,eu P GI o S H e/\K (e.S S o.dst) (e.H H))\/∃v,Hu P GI o S H v/\Qp v
def Ga(P:Program)(GI:World->Prop)(n:Nat)(md:Region.Mode)(ops:Array Oper)(QA:an->ao->Prop)(Qp:AV->Prop):Nat->Array Bool->an->ao->Prop
 |0,listed,S,H=>Region.ready md ops listed=[]/\QA S H
 |fuel+1,listed,S,H=>(Region.ready md ops listed=[]->QA S H)/\∀i∈Region.ready md ops listed,Fk P GI n ops i (Ga P GI n md ops QA Qp fuel (listed.setIfInBounds i true)) Qp S H
def LY {QA:an→ao→Prop} {Qp:AV→Prop} {i:Nat} {oi:bH} {e:aP} (hi:jq P n ops i=some oi) :
  ∀(fuel:Nat)(listed:Array Bool)(S:an)(H:ao),
   (∀j o aj,ops[j]?=some o->jq P n ops j=some aj->j≠i->listed.getD j true=false->(∀ed∈o.after,Region.binds md ed=true->ed.on≠i)->oi.apart aj=true)->
   i∈Region.ready md ops listed->eu P GI oi S H e->
   Ga P GI n md ops QA Qp fuel (listed.setIfInBounds i true) (e.S S oi.dst) (e.H H)->Ga P GI n md ops QA Qp (fuel+1) listed S H:=by
 intro fuel
 induction fuel with
 |zero=>
  intro listed S H _ hr hy hK;refine⟨λh=>(by rw[h]at hr;cases hr),λj hj=>?_⟩
  by_cases fD:j=i
  .subst fD;unfold Fk;rw[hi];exact .inl ⟨e,hy,hK⟩
  .have:=afl hj fD;rw[hK.1]at this;cases this
 |succ fuel ih=>
  intro listed S H mR hr hy hK;refine⟨λh=>(by rw[h]at hr;cases hr),λj hj=>?_⟩
  by_cases fD:j=i
  .subst fD;unfold Fk;rw[hi];exact .inl ⟨e,hy,hK⟩
  .have h1:=hK.2 j (afl hj fD);obtain⟨zf,o,ho,eF⟩:=afe.1 hj
   have sB:jq P n ops j=some (bt P n true ops o):=by simp[jq,ho]
   have JY:∀ed∈o.after,Region.binds md ed=true->ed.on≠i:=λed Uv hb heq=>by
    have h1:=eF ed Uv hb;have h0:=(afe.1 hr).1;rw[heq]at h1;rcases aeI i listed.size with h'|h'
    .simp[h']at h0 h1;rw[h0]at h1;cases h1
    .simp[aeN h']at h1
   have jZ:=mR j o _ ho sB fD zf JY;unfold Fk at h1⊢;rw[sB]at h1⊢
   rcases h1 with h1|⟨v,hg,hq⟩
   case inr=>exact .inr ⟨v,J7 jZ hy hg,hq⟩
   obtain⟨ej,Ez,PK⟩:=h1;have uY:=tj jZ hy Ez;refine .inl ⟨ej,uY,?_⟩
   have vE:∀k o' ak,ops[k]?=some o'->jq P n ops k=some ak->k≠i->(listed.setIfInBounds j true).getD k true=false->(∀ed∈o'.after,Region.binds md ed=true->ed.on≠i)->oi.apart ak=true:=by
    intro k o' ak hk Om BR fq iq;refine mR k o' ak hk Om BR ?_ iq
    by_cases xK:j=k
    .subst xK;exact zf
    .rw[afB true xK]at fq;exact fq
   refine ih (listed.setIfInBounds j true) _ _ vE (afl hr (ad6 fD)) (tz jZ uY hy) ?_;rw[afp _ _ fD];rw[<-yj jZ (fj hy).1 (fj Ez).1,<-xw jZ (fj hy).2 (fj uY).2];exact PK
def C5(md:Region.Mode)(ops:Array Oper)(al:List bH)(ps:List Nat):List Nat->Array Bool->Bool
 |[],listed=>(Region.ready md ops listed).isEmpty
 |k::ord,listed=>(Region.ready md ops listed).contains k&&Ik md ops al listed k&&(!ps.contains k||Region.ready md ops listed==[k])&&C5 md ops al ps ord (listed.setIfInBounds k true)
def HB(P:Program)(GI:World->Prop)(op:eC)(dst:Option Nat)(K:an->ao->Prop)(Qp:AV->Prop)(S:an)(H:ao):Prop:=
 match op with
 |.call f args=>(args.any λy=>cW (ev S y))=false/\ba P GI (.call f args) dst K Qp S H
 |_=>False
def tv(P:Program)(GI:World->Prop)(al:List bH)(ps:List Nat):List Nat->(an->ao->Prop)->(AV->Prop)->an->ao->Prop
 |[],K,_,S,H=>K S H
 |k::ord,K,Qp,S,H=>match al[k]? with
  |none=>False
  |some o=>match aF S o.guard with
   |some true=>if ps.contains k then HB P GI o.op o.dst (tv P GI al ps ord K Qp) Qp S H else jD P GI o.op o.dst (tv P GI al ps ord K Qp) S H
   |some false=>tv P GI al ps ord K Qp (aX S o.dst cz) H
   |none=>False
def FN {QA:an→ao→Prop} {Qp:AV→Prop} {ps:List Nat}:∀ (ord:List Nat) (listed:Array Bool) (S:an) (H:ao),
  C5 md ops (bh P n true ops) ps ord listed=true->tv P GI (bh P n true ops) ps ord QA Qp S H->Ga P GI n md ops QA Qp ord.length listed S H
 |[],_,_,_,hB,h=>⟨by simpa[C5]using hB,h⟩
 |k::ord,listed,S,H,hB,h=>by
  simp only[C5,adk]at hB;obtain⟨⟨⟨hr,hf⟩,hp⟩,Nf⟩:=hB;simp only[tv]at h;split at h
  case h_1=>exact h.elim
  rename_i o ho
  have ha:jq P n ops k=some o:=by rw[<-fx];exact ho
  have js:k∈Region.ready md ops listed:=by simpa using hr
  have step:∀e,eu P GI o S H e->tv P GI (bh P n true ops) ps ord QA Qp (e.S S o.dst) (e.H H)->Ga P GI n md ops QA Qp (k::ord).length listed S H:=λe hy hK=>
   LY ha ord.length listed S H (Bl ha hf) js hy (FN ord _ _ _ Nf hK)
  split at h
  .rename_i hw;split at h
   .rename_i kh;simp only[kh,ahe,Bool.false_or,adY]at hp;unfold HB at h;split at h
    case h_2=>exact h.elim
    rename_i f args dj;obtain⟨hb,out,h1,h2,h3,h4⟩:=h
    cases out with
    |ret v=>
     refine step { v:=v } ?_ h4;unfold eu;rw[hw];simp only[dj];exact⟨hb,.ret v,h1,h2,h3,rfl⟩
    |panic v=>
     refine⟨λhn=>(by rw[hn]at js;cases js),λj hj=>?_⟩;rw[hp,adJ]at hj;subst hj;unfold Fk;rw[ha];refine .inr ⟨v,⟨hw,?_⟩,h4⟩;rw[dj];exact⟨hb,h1,h2⟩
   .obtain⟨e,he,hK⟩:=uJ h;exact step e (by unfold eu;rw[hw];exact he) hK
  .rename_i hw;exact step { v:=cz } (by unfold eu;rw[hw]) h
  .exact h.elim
variable{w0:World}{g:Gh}{S:an}{H:ao}{a:Act}{w:World}
def Rs (hG:ar GI) (cq:GI w0) {old:Old} {Q:dT→an→ao→Prop} {S0:an} {H0:ao} (hA:∀ o∈ops,∀ t z,(bt P n true ops o).op ≠ .alloc t z) (bX:∀ o∈ops,(bt P n true ops o).ok n=true) :
  ∀(fuel:Nat)(listed:Array Bool)(g:Gh)(S:an)(H:ao)(a:Act)(w:World),g.old=old->Rel P w0 n bL g S H a w->
   Ga P GI n .any ops (Q .normal) (λv=>Q (.panic v) S0 H0) fuel listed S H->wpAny P .any ops (QQ P w0 n old Q) fuel listed a w:=by
 intro fuel
 induction fuel with
 |zero=>
  intro listed g S H a w ho R h;exact⟨h.1,g,S,H,ho,R,h.2⟩
 |succ fuel ih=>
  intro listed g S H a w ho R h;refine⟨λhr=>⟨g,S,H,ho,R,h.1 hr⟩,λi hi=>?_⟩;have hd:=h.2 i hi;obtain⟨o,jW,AE⟩:=wX (P:=P) (n:=n) hi;unfold Fk at hd;rw[AE]at hd;have FT:=aen jW;have tT:=bX o FT;have acf:=hA o FT
  have uP:∀t,o.dst=some t->t<n/\t∉(bt P n true ops o).op.rd:=by
   intro t ht;simp only[bH.ok,adk]at tT;have h1:=tT.1;rw[show(bt P n true ops o).dst=o.dst from rfl,ht]at h1;simpa using h1
  unfold wpOp;simp only[jW]
  rcases hd with⟨e,hy,hK⟩|⟨v,⟨zH,hv⟩,hq⟩
  case inr=>
   rw[sM R (λ_ _ _=>id) tT zH];simp only[adS];refine .inl ?_;generalize dj:(bt P n true ops o).op=op at hv;have ve:comp P n (match o.dst with|some d=>taken ops d|none=>false) (Pe ops o) o=op:=dj
   cases op<;>try (exact hv.elim)
   rename_i f args;obtain⟨hb,h1,h2⟩:=hv;refine tG R hG cq ve (λt ht=>⟨(uP t ht).1,id⟩) (λ_ _=>id) (KA:=λ_=>False) (Qp:=λv'=>v'=v) ⟨.panic v,h1,h2,⟨λh=>absurd (hb.symm.trans h) zd,rfl⟩⟩ (λ_ _ _ _ _ _ _ hf=>hf.elim) ?_;intro v' c dv w' k1 k2 k3 k4;subst k4;exact⟨by rw[<-ho];exact R.defers,v',c,dv,S0,H0,rfl,k1,k2,by rw[<-ho];exact k3,hq⟩
  unfold eu at hy
  cases zH:aF S (bt P n true ops o).guard with
  |none=>rw[zH]at hy;exact hy.elim
  |some b=>
   rw[sM R (λ_ _ _=>id) tT zH];rw[zH]at hy
   cases b with
   |false=>
    simp only at hy;subst hy;simp only[ads,adH];exact ih _ g _ _ _ _ ho (R.aX o.dst _ _ (λt ht=>(uP t ht).1) (.data _ _ (vg _ _)) λ_ _=>trivial) hK
   |true=>
    simp only at hy;simp only[adS];refine .inl ?_
    have next:∀(g':Gh)(a':Act)(w':World),g'.old=g.old->Rel P w0 n bL g' (e.S S o.dst) (e.H H) a' w'->wpAny P .any ops (QQ P w0 n old Q) fuel (listed.setIfInBounds i true) a' w':=
     λg' a' w' h2 R'=>ih _ g' _ _ _ _ (h2.trans ho) R' hK
    by_cases bV:(bt P n true ops o).op.calm=true
    .exact(yi R rfl bV (λt ht=>⟨(uP t ht).1,id⟩) (λ_ _=>id) (λt ht=>(uP t ht).2) (DW bV hy)).wp λg' a' w' e1 e2 R'=>next g' a' w' e2 R'
    .generalize dj:(bt P n true ops o).op=op at bV hy;have ve:comp P n (match o.dst with|some d=>taken ops d|none=>false) (Pe ops o) o=op:=dj
     cases op<;>try (exact absurd rfl bV)
     case alloc t cs=>exact absurd dj (acf t cs)
     case call f args=>
      exact tG R hG cq ve (λt ht=>⟨(uP t ht).1,id⟩) (λ_ _=>id) hy.2 (λv g' a' w' e1 e2 R' hk=>by subst hk;exact next g' a' w' e2 R') (λ_ _ _ _ _ _ _ hf=>hf.elim)
     case gr f args=>
      simp only[lh]at hy;split at hy
      case h_2=>exact hy.elim
      rename_i k first cap zb;exact va R hG cq ve (λt ht=>⟨(uP t ht).1,id⟩) (λ_ _=>id) zb hy.2 (λv g' a' w' e1 e2 R' hk=>by subst hk;exact next g' a' w' e2 R') (λ_ _ _ _ _ _ _ hf=>hf.elim)
     case box=>exact hy.elim
     case panic=>exact hy.elim
     case other=>exact hy.elim
def Jb(l:List bH):Bool:=l.all λo=>match o.op with|.alloc ..=>false|_=>true
def Sx(P:Program)(n:Nat)(ops:Array Oper)(ps ord:List Nat):Bool:=
 (bh P n true ops).all (·.ok n)&&Jb (bh P n true ops)&&decide (ord.length=ops.size)&&C5 .any ops (bh P n true ops) ps ord (Array.replicate ops.size false)
def SW.X0 (hG:ar GI) (hm:P.follows .mixedOrders=true) {ro:Option Nat} {old:Old} {Q:eW} {id:Nat} {ps ord:List Nat} (dL:ops.all (fun o=>eH o.op)=true) (bX:Sx P n ops ps ord=true)
  {l:List bH} (hl:bh P n true ops=l) (h:tv P GI l ps ord (Q .normal old) (λv=>Q (.panic v) old S H) S H):SW P GI n ro (.region id ops true) Q old S H:=by
 subst hl;intro w0 g a w m cq ho R;simp only[Sx,adk,adr]at bX;obtain⟨⟨⟨h1,h2⟩,h3⟩,h4⟩:=bX;have R0:Rel P w0 n bL g S H a { w with drawn:=w.drawn+1 }:=R.jU ((aej _ w).drew)
 refine ae1 (aeW hm (vJ dL qd _ _ _ _ (Rs hG cq (old:=old) (Q:=Q.bD old) (S0:=S) (H0:=H) (λo kv t z hz=>?_) (λo kv=>?_) ops.size (Array.replicate ops.size false) g S H a _ ho R0 ?_))) λ_ _ _ hq=>Ap hq
 .have:=adw.1 h2 (bt P n true ops o) (afr (by simpa using kv));rw[hz]at this;cases this
 .simp only[bh,aeY,adw,Function.comp]at h1;exact h1 o (by simpa using kv)
 .rw[<-h3];exact FN ord _ S H (by rw[h3];exact h4) h
def oz(P:Program)(GI:World->Prop):List (Bool×bH)->(an->ao->Prop)->(AV->Prop)->an->ao->Prop
 |[],K,_,S,H=>K S H
 |(b,o)::L,K,Qp,S,H=>match aF S o.guard with
  |some true=>if b then HB P GI o.op o.dst (oz P GI L K Qp) Qp S H else jD P GI o.op o.dst (oz P GI L K Qp) S H
  |some false=>oz P GI L K Qp (aX S o.dst cz) H
  |none=>False
def FU{al:List bH}{ps:List Nat}{K:an->ao->Prop}{Qp:AV->Prop}:∀(ord:List Nat)(L:List (Bool×bH)),(ord.map λk=>(ps.contains k,al[k]?))=(L.map λx=>(x.1,some x.2))->tv P GI al ps ord K Qp=oz P GI L K Qp
 |[],[],_=>rfl
 |[],_::_,h=>by simp at h
 |_::_,[],h=>by simp at h
 |k::ord,(b,o)::L,h=>by
  simp only[ady,ae7,afO]at h;obtain⟨⟨h1,h2⟩,h3⟩:=h
  funext S H
  simp only[tv,oz,h1,h2,FU ord L h3]
def sX{op:eC}{dst:Option Nat}{K K':an->ao->Prop}(hK:∀S H,K S H->K' S H){S:an}{H:ao}(h:jD P GI op dst K S H):jD P GI op dst K' S H:=by
 cases op<;>simp only[jD,ba]at h⊢<;>(try exact h)
 case alloc=>cases dst<;>first|exact h|exact hK _ _ h
 case call f args=>
  obtain⟨hb,out,h1,h2,h3,h4⟩:=h;refine⟨hb,out,h1,h2,h3,?_⟩
  cases out with
  |ret v=>exact hK _ _ h4
  |panic v=>exact h4
 case gr f args=>
  refine⟨h.1,?_⟩;have h:=h.2;split at h
  .obtain⟨out,h1,h2,h3,h4⟩:=h;refine⟨out,h1,h2,h3,?_⟩
   cases out with
   |ret v=>exact hK _ _ h4
   |panic v=>exact h4
  .exact h.elim
 all_goals
  split at h
  .exact hK _ _ h
  .exact h.elim
def lv{K:an->ao->Prop}{Qp:AV->Prop}{L:List (Bool×bH)}:∀(l:List bH){S:an}{H:ao},cU P GI l (oz P GI L K Qp) S H->oz P GI (l.map (λo=>(false,o))++L) K Qp S H
 |[],_,_,h=>h
 |o::l,S,H,h=>by
  simp only[ady,List.cons_append,oz,cU]at h⊢
  cases hw:aF S o.guard with
  |none=>rw[hw]at h;exact h.elim
  |some b=>
   rw[hw]at h
   cases b with
   |true=>exact sX (λS H h=>lv l h) h
   |false=>exact lv l h
def jL {K:an→ao→Prop} {Qp:AV→Prop} {L:List (Bool×bH)} {d:Option Nat} {f:Nat} {args:List cT} {S:an} {H:ao} (hb:(args.any fun y=>cW (ev S y))=false) (hc:eb P f=true) {out:iJ} (h:AC P GI f (args.map fun y=>fz H (ev S y)) out)
  (hk:match(generalizing:=false) out with|.ret v=>oz P GI L K Qp (aX S d v) H|.panic v=>Qp v):oz P GI ((true,⟨d,none,.call f args⟩)::L) K Qp S H:=by
 simp only[oz,aF,adS,HB];refine⟨hb,out,hc,h,λh=>absurd (hb.symm.trans h) zd,?_⟩
 cases out<;>exact hk
def tQ{K:an->ao->Prop}{Qp:AV->Prop}(l:List bH){S:an}{H:ao}(h:cU P GI l K S H):oz P GI (l.map (λo=>(false,o))) K Qp S H:=by
 have:=lv (P:=P) (GI:=GI) (K:=K) (Qp:=Qp) (L:=[]) l h;rwa [ael]at this
def SW.Gx (hG:ar GI) (hm:P.follows .mixedOrders=true) {ro:Option Nat} {old:Old} {Q:eW} {id:Nat} (ps ord:List Nat) (dL:ops.all (fun o=>eH o.op)=true) (bX:Sx P n ops ps ord=true)
  {l:List bH} (hl:bh P n true ops=l) (L:List (Bool×bH)) (hL:(ord.map λk=>(ps.contains k,l[k]?))=(L.map λx=>(x.1,some x.2))) (h:oz P GI L (Q .normal old) (λv=>Q (.panic v) old S H) S H):SW P GI n ro (.region id ops true) Q old S H:=
 SW.X0 hG hm dL bX hl (by rw[FU ord L hL];exact h)
end
section
variable{P:Program}{GI:World->Prop}{n:Nat}{a:Act}{w:World}{S:an}{H:ao}
def uj {o:Oper} {s el:TypeId} {i:TypeInfo} {x1 x2:Operand} {b m cap k:Nat} (ho:o.op = .indexAddr s x1 x2) (hs:P.underlying s=some (.slice el)) (hi:P.info? el=some i)
  (h1:a.eval x1=.slice (some ⟨b,0,none⟩) m cap) (h2:a.eval x2=.int .i64 k) (hk:k<m):(execOp a.eval o).run P w=.ok (.value (.pointer (some ⟨b,k*i.size,none⟩))) w:=by
 have Ib:(0:Int)<=k:=zo
 have jv:(k:Int)<m:=zo
 simp[execOp,ho,h1,h2,Instr.indexAt,asIntOf,adD hs,Ib,jv,sizeOf,typeInfo,hi,aei,hk]
def BP {o:Oper} {s:TypeId} {fs:Array Field} {f:Field} {i:TypeInfo} {j:Nat} {x:Operand} {b off:Nat} (ho:o.op = .fieldAddr s x j) (hs:P.underlying s=some (.struct fs)) (hf:fs[j]? = some f) (hi:P.info? f.type=some i) (hz:i.size≠0)
  (hx:a.eval x=.pointer (some ⟨b,off,none⟩)):(execOp a.eval o).run P w=.ok (.value (.pointer (some ⟨b,off+f.offset,none⟩))) w:=by
 simp[execOp,ho,hx,Instr.fieldAt,adD hs,hf,Instr.sureAddr,fieldPlace,sizeOf,typeInfo,hi,hz,aei]
def nK(w:World){b:Nat}{cs fU:Array Value}{ty:TypeId}(h:w.heap[b]?=some (.cells cs ty (0,0))):w.setRow b fU=w.putObj b (.cells fU ty (0,0)):=by
 unfold World.setRow World.putObj
 congr 1
 apply ahu;intro k;rw[Array.getElem?_modify,aez];have aq:=(adj.1 h).1
 by_cases hk:b=k
 .subst hk;have e:=(adj.1 h).2;simp[aq,e]
 .simp[hk]
def L9 {o:Oper} {t:TypeId} {x y:Operand} {b off:Nat} {v:Value} {ty:TypeId} {i:TypeInfo} {arr:Array Value} (ho:o.op = .store t x y) (hx:a.eval x = .pointer (some ⟨b,off,none⟩)) (hi:P.info? t=some i) (hs:i.size=1) (hb:w.heap[b]? = some (.cells arr ty (0,0)))
  (Rn:off<arr.size) (hv:(a.eval y)=v) (h1:v.oneCell'=true):∃SX:Array Value,(execOp a.eval o).run P w=.ok .skip (w.putObj b (.cells SX ty (0,0)))/\SX.size=arr.size/\∀k,SX.getD k undef=if k=off then v else arr.getD k undef:=by
 have ko:v.cells=#[v]:=by cases v<;>first|rfl|cases h1
 have dz:=af5 P b off ty [v] 0 arr w hb (by simp;omega) (λx hx=>by simp at hx;subst hx;exact h1)
 have he:(arr.toList.take off++[v]++arr.toList.drop (off+1)).toArray=arr.setIfInBounds off v:=by
  apply Array.toList_inj.1;rw[Array.toList_setIfInBounds,List.set_eq_take_append_cons_drop,if_pos (by simpa using Rn)];simp
 refine⟨arr.setIfInBounds off v,?_,ahi,λk=>?_⟩
 .rw[<-nK w hb,<-he];unfold execOp;simp only[ho,hx,hv,Instr.storeAt,Instr.sureAddr,storeVar,sizeOf,typeInfo,adq,Sem.run_pure,Result.andThen_ok,run_program,hi,hs,ko,ne_eq,aeV,adH];have bj:(#[v]:Array Value).size=1:=rfl;simp only[bj,aeV,adH];rw[show storeCells ⟨b,off,none⟩ (#[v]:Array Value).toList=storeCells ⟨b,off,none⟩ [v] 0 from rfl];simp only[Nat.add_zero,List.length_singleton]at dz;rw[dz]
  rfl
 .simp only[adE,aez]
  by_cases hk:off=k
  .subst hk;simp[Rn]
  .rw[if_neg hk,if_neg (ad6 hk)]
end
def AX{κ:Type}(enc:κ->Value)(es:Array MapEntry)(l:List (κ×Value)):Prop:=es.size=l.length/\∀i (h:i<es.size)(h':i<l.length),(es[i]).key=enc l[i].1/\(es[i]).val=l[i].2
def oF{κ:Type}[BEq κ](k:κ):List (κ×Value)->Nat->Option (Nat×Value)
 |[],_=>none
 |(k',v)::l,i=>if(k==k')=true then some (i,v)else oF k l (i+1)
def AX.push{κ:Type}{enc:κ->Value}{es:Array MapEntry}{l:List (κ×Value)}(h:AX enc es l)(k:κ)(v:Value)(born:Nat):AX enc (es.push { key:=enc k,val:=v,born:=born }) (l++[(k,v)]):=by
 refine⟨by simp[h.1],λi hi dv=>?_⟩;rw[Array.getElem_push,List.getElem_append];have hs:=h.1
 by_cases aq:i<es.size
 .rw[dif_pos aq,dif_pos zo];exact h.2 i aq zo
 .rw[dif_neg aq,dif_neg zo];simp
def AX.list{κ:Type}{enc:κ->Value}{es:Array MapEntry}{l:List (κ×Value)}(h:AX enc es l):∀i (h:i<es.toList.length)(h':i<l.length),(es.toList[i]).key=enc l[i].1/\(es.toList[i]).val=l[i].2:=λi hi dv=>by
 have:=h.2 i (by simpa using hi) dv;simpa using this
def sV(k:Int):∀(es:List MapEntry)(l:List (Int×Value))(i:Nat),es.length=l.length->(∀j (h:j<es.length)(h':j<l.length),(es[j]).key=.int .i64 l[j].1/\(es[j]).val=l[j].2)->Instr.findNow (.int .i64) (.int .i64 k) es i=some (oF k l i)
 |[],[],_,_,_=>rfl
 |[],_::_,_,h,_=>by simp at h
 |_::_,[],_,h,_=>by simp at h
 |e::es,(k',v)::l,i,hl,h=>by
  obtain⟨h1,h2⟩:=h 0 ahi ahi;simp only[List.getElem_cons_zero]at h1 h2;unfold Instr.findNow oF;rw[h1];simp only[Instr.sameNow,adS]
  by_cases hk:k=k'
  .subst hk;simp[h2]
  .have:(k==k')=false:=by simpa using hk
   rw[this];simp only[ads,adH]
   exact sV k es l (i+1) (by simpa using hl) λj hj dU=>h (j+1) (aga hj) (aga dU)
section
variable{P:Program}{a:Act}{w:World}
def GW {o:Oper} {t kt el:TypeId} {x1 x2 x3:Operand} {b clock:Nat} {es:Array MapEntry} {k:Int} {l:List (Int×Value)} (ho:o.op = .mapUpdate t x1 x2 x3) (fq:P.underlying t=some (.map kt el)) (hu:P.underlying kt=some (.int .i64)) (h1:a.eval x1 = .map (some b)) (h2:a.eval x2 = .int .i64 k)
  (hb:w.heap[b]?=some (.map es clock)) (he:AX (.int .i64) es l) (iq:oF k l 0=none):(execOp a.eval o).run P w=.ok .skip (w.putObj b (.map (es.push { key:=.int .i64 k,val:=a.eval x3,born:=clock }) (clock+1))):=by
 have hf:=sV k es.toList l 0 (by simpa using he.1) he.list;rw[iq]at hf;have xp:=MapKept.run_findKey (P:=P) (w:=w) hu hf
 have y9:(Instr.checkKey false 10000 kt (.int .i64 k)).run P w=.ok () w:=by
  unfold Instr.checkKey;simp[adq,adD hu]
 unfold execOp;simp only[ho,h1,h2,Instr.mapUpdate,adq,adD fq,Result.andThen_ok,afA hb,y9,xp,ag0 _ hb]
 rfl
def IH {o:Oper} {t kt el:TypeId} {ie:TypeInfo} {z:Value} {x1 x2:Operand} {b clock:Nat} {es:Array MapEntry} {k:Int} {l:List (Int×Value)} (ho:o.op = .lookup t x1 x2 false) (fq:P.underlying t=some (.map kt el)) (hu:P.underlying kt=some (.int .i64)) (hi:P.info? el=some ie) (hz:ie.zero=some z)
  (h1:a.eval x1=.map (some b)) (h2:a.eval x2=.int .i64 k) (hb:w.heap[b]?=some (.map es clock)) (he:AX (.int .i64) es l):(execOp a.eval o).run P w=.ok (.value (((oF k l 0).map (·.2)).getD z)) w:=by
 have hf:=sV k es.toList l 0 (by simpa using he.1) he.list;have xp:=MapKept.run_findKey (P:=P) (w:=w) hu hf
 have y9:∀e,(Instr.checkKey e 10000 kt (.int .i64 k)).run P w=.ok () w:=λe=>by
  unfold Instr.checkKey;simp[adq,adD hu]
 unfold execOp;simp only[ho,h1,h2,Instr.lookup,adq,adD fq,Result.andThen_ok,afA hb,Sem.run_pure,y9,xp]
 cases oF k l 0 with
 |none=>simp[zeroValue,typeInfo,hi,hz]
 |some q=>simp
end
def Gi(x y:bH):Bool:=match x.dst,x.guard,x.op,y.dst,y.guard,y.op with
 |some d,none,.loadT _ a,some d',none,.loadT _ a'=>d !=d'&&!a'.tmps.contains d&&!a.tmps.contains d'
 |_,_,_,_,_,_=>false
def rJ(S:an)(x y:bH):Prop:=match x.op,y.op with
 |.loadT _ a,.loadT _ a'=>∃i o i' o',ev S a=.box i o/\ev S a'=.box i' o'/\(i≠i'\/o≠o')
 |_,_=>False
section
variable{P:Program}{GI:World->Prop}{md:Region.Mode}{ops:Array Oper}{n:Nat}
def PL {x y:bH} {S:an} {H:ao} {ex ey:aP} (hs:Gi x y=true) (hA:rJ S x y) (hx:eu P GI x S H ex) (hy:eu P GI y (ex.S S x.dst) (ex.H H) ey) :
  ∃IZ y0,eu P GI y S H IZ/\eu P GI x (IZ.S S y.dst) (IZ.H H) y0/\y0.S (IZ.S S y.dst) x.dst=ey.S (ex.S S x.dst) y.dst/\y0.H (IZ.H H)=ey.H (ex.H H)/\IZ.dm=none:=by
 obtain⟨xd,xg,xo⟩:=x;obtain⟨yd,yg,yo⟩:=y;unfold Gi at hs;split at hs
 case h_2=>cases hs
 rename_i d h a d' h' a' q1 q2 q3 q4 q5 q6;simp only at q1 q2 q3 q4 q5 q6;subst q1 q2 q3 q4 q5 q6;simp only[adk,afZ,ne_eq,aeh,afL,afu]at hs;obtain⟨⟨hd,E2⟩,uK⟩:=hs;obtain⟨i,o,i',o',e1,e2,cP⟩:=hA;simp only[eu,aF,lh,aD,e1]at hx;split at hx
 case isFalse=>cases hx
 rename_i bX;split at hx
 case h_2=>cases hx
 rename_i cs rW;split at hx
 case h_2=>cases hx
 rename_i v hv;cases hx;simp only[aP.S,aX,aP.H]at hy
 have N':ev (au S d v) a'=.box i' o':=by
  rw[<-e2];exact bK λt ht=>aQ _ _ (by rintro rfl;exact E2 ht)
 simp only[eu,aF,lh,aD,N']at hy;split at hy
 case isFalse=>cases hy
 rename_i Er;split at hy
 case h_2=>cases hy
 rename_i fU Pg;split at hy
 case h_2=>cases hy
 rename_i v' pE;cases hy
 have yp:ev (au S d' v') a=.box i o:=by
  rw[<-e1];exact bK λt ht=>aQ _ _ (by rintro rfl;exact uK ht)
 have hSc:au (au S d' v') d v=au (au S d v) d' v':=by
  funext t
  simp only[au]
  by_cases h1:t=d
  .subst h1;simp[hd]
  .simp[h1]
 by_cases hi:i=i'
 .subst hi
  have ho:o≠o':=by rcases cP with h|h;exact absurd rfl h;exact h
  rw[aO]at Pg;cases Pg;rw[ag_ ho]at pE;refine⟨{ v:=v',hw:=some (i,cs.set o' v'.aJ) },{ v:=v,hw:=some (i,(cs.set o' v'.aJ).set o v.aJ) },?_,?_,hSc,?_,rfl⟩
  .simp[eu,aF,lh,aD,e2,Er,rW,pE]
  .have:(cs.set o' v'.aJ)[o]?=some v:=by rw[ag_ (ad6 ho)];exact hv
   simp[eu,aF,lh,aD,aP.S,aP.H,aX,yp,bX,aO,this]
  .simp only[aP.H];rw[List.set_comm _ _ (ad6 ho)]
   funext t
   simp only[au]
   split<;>rfl
 .rw[aQ _ _ (ad6 hi)]at Pg;refine⟨{ v:=v',hw:=some (i',fU.set o' v'.aJ) },{ v:=v,hw:=some (i,cs.set o v.aJ) },?_,?_,hSc,?_,rfl⟩
  .simp[eu,aF,lh,aD,e2,Er,Pg,pE]
  .simp[eu,aF,lh,aD,aP.S,aP.H,aX,yp,bX,aQ _ _ hi,rW,hv]
  .simp only[aP.H]
   funext t
   simp only[au]
   by_cases h1:t=i
   .subst h1;simp[hi]
   .simp[h1]
def rJ.aV{S S':an}{x y:bH}(h:rJ S x y)(hS:∀t∈x.op.rd++y.op.rd,S' t=S t):rJ S' x y:=by
 obtain⟨xd,xg,xo⟩:=x;obtain⟨yd,yg,yo⟩:=y;unfold rJ at h⊢;simp only at h hS⊢;split at h
 case h_2=>exact h.elim
 obtain⟨i,o,i',o',e1,e2,cP⟩:=h;refine⟨i,o,i',o',?_,?_,cP⟩
 .rw[<-e1];exact bK λt ht=>hS t (afm _ ht)
 .rw[<-e2];exact bK λt ht=>hS t (afJ _ ht)
def stay(P:Program)(n:Nat)(ops:Array Oper)(listed:Array Bool)(ts:List Nat):Prop:=∀k ak,jq P n ops k=some ak->listed.getD k true=false->∀t∈ts,t∉ak.writes
def IA {QA:an→ao→Prop} {i:Nat} {oi:bH} (hi:jq P n ops i=some oi) :
  ∀(fuel:Nat)(listed:Array Bool)(S:an)(H:ao)(e:aP),
   (∀j o aj,ops[j]?=some o->jq P n ops j=some aj->j≠i->listed.getD j true=false->(∀ed∈o.after,Region.binds md ed=true->ed.on≠i)->oi.apart aj=true\/(Gi oi aj=true/\rJ S oi aj/\stay P n ops listed (oi.op.rd++aj.op.rd)))->
   i∈Region.ready md ops listed->eu P GI oi S H e->
   yN P GI n md ops QA fuel (listed.setIfInBounds i true) (e.S S oi.dst) (e.H H)->yN P GI n md ops QA (fuel+1) listed S H:=by
 intro fuel
 induction fuel with
 |zero=>
  intro listed S H e _ hr hy hK;refine⟨λh=>(by rw[h]at hr;cases hr),λj hj=>?_⟩
  by_cases fD:j=i
  .subst fD;unfold JA;rw[hi];exact⟨e,hy,hK⟩
  .have:=afl hj fD;rw[hK.1]at this;cases this
 |succ fuel ih=>
  intro listed S H e mR hr hy hK;refine⟨λh=>(by rw[h]at hr;cases hr),λj hj=>?_⟩
  by_cases fD:j=i
  .subst fD;unfold JA;rw[hi];exact⟨e,hy,hK⟩
  .have h1:=hK.2 j (afl hj fD);obtain⟨zf,o,ho,eF⟩:=afe.1 hj
   have sB:jq P n ops j=some (bt P n true ops o):=by simp[jq,ho]
   have JY:∀ed∈o.after,Region.binds md ed=true->ed.on≠i:=λed Uv hb heq=>by
    have h1:=eF ed Uv hb;have h0:=(afe.1 hr).1;rw[heq]at h1;rcases aeI i listed.size with h'|h'
    .simp[h']at h0 h1;rw[h0]at h1;cases h1
    .simp[aeN h']at h1
   have jZ:=mR j o _ ho sB fD zf JY;unfold JA at h1⊢;rw[sB]at h1⊢;obtain⟨ej,Ez,PK⟩:=h1
   have Ww:∀k,(listed.setIfInBounds j true).getD k true=false->listed.getD k true=false:=λk hk=>by
    by_cases xK:j=k
    .subst xK;exact zf
    .rwa [afB true xK]at hk
   have vE:∀ Ze:aP,(∀ t,Ze.dm=some t→t∈(bt P n true ops o).op.wr)→∀ k o' ak,ops[k]? = some o'→jq P n ops k=some ak→k≠i→(listed.setIfInBounds j true).getD k true=false→(∀ ed∈o'.after,Region.binds md ed=true→ed.on≠i) →
     oi.apart ak=true\/(Gi oi ak=true/\rJ (Ze.S S (bt P n true ops o).dst) oi ak/\stay P n ops (listed.setIfInBounds j true) (oi.op.rd++ak.op.rd)):=by
    intro Ze HY k o' ak hk Om BR fq iq
    rcases mR k o' ak hk Om BR (Ww k fq) iq with h|⟨h1,h2,h3⟩
    .exact .inl h
    .refine .inr ⟨h1,h2.aV λt ht=>?_,λm am hm hu=>h3 m am hm (Ww m hu)⟩;have:=h3 j _ sB zf t ht;exact aP.uQ (λh=>this (fk (.inl h))) (λh=>this (fk (.inr (HY t h))))
   rcases jZ with jZ|⟨hs,hA,_⟩
   .have uY:=tj jZ hy Ez;refine⟨ej,uY,?_⟩;refine ih (listed.setIfInBounds j true) _ _ e (vE ej (fj Ez).1) (afl hr (ad6 fD)) (tz jZ uY hy) ?_;rw[afp _ _ fD];rw[<-yj jZ (fj hy).1 (fj Ez).1,<-xw jZ (fj hy).2 (fj uY).2];exact PK
   .obtain⟨IZ,y0,q1,q2,q3,q4,q5⟩:=PL hs hA hy Ez;refine⟨IZ,q1,?_⟩;refine ih (listed.setIfInBounds j true) _ _ y0 (vE IZ (λt h=>by rw[q5]at h;cases h)) (afl hr (ad6 fD)) q2 ?_;rw[afp _ _ fD,q3,q4];exact PK
def G3(md:Region.Mode)(ops:Array Oper)(al:List bH)(p q:Nat)(listed:Array Bool)(i:Nat):Bool:=
 match al[i]? with
 |none=>false
 |some oi=>(List.range ops.size).all fun j=>j==i || listed.getD j true || match ops[j]?,al[j]? with
   |some oj,some aj=>oj.after.any (fun e=>Region.binds md e && e.on==i) || oi.apart aj ||
     (i==p&&j==q&&Gi oi aj&&(List.range ops.size).all λk=>listed.getD k true||match al[k]? with
      |some ak=>(oi.op.rd++aj.op.rd).all λt=>!ak.writes.contains t
      |none=>true)
   |_,_=>true
def D4(md:Region.Mode)(ops:Array Oper)(al:List bH)(p q:Nat):List Nat->Array Bool->Bool
 |[],listed=>(Region.ready md ops listed).isEmpty
 |k::r,listed=>(Region.ready md ops listed).contains k&&G3 md ops al p q listed k&&D4 md ops al p q r (listed.setIfInBounds k true)
def IV {p q i:Nat} {oi:bH} {listed:Array Bool} {S:an} (hi:jq P n ops i=some oi) (h:G3 md ops (bh P n true ops) p q listed i=true) (hS:i=p→∀ aj,jq P n ops q=some aj→rJ S oi aj) (j:Nat) (o:Oper) (aj:bH)
  (hj:ops[j]?=some o) (sB:jq P n ops j=some aj) (cP:j≠i) (fq:listed.getD j true=false) (iq:∀e∈o.after,Region.binds md e=true->e.on≠i):oi.apart aj=true\/(Gi oi aj=true/\rJ S oi aj/\stay P n ops listed (oi.op.rd++aj.op.rd)):=by
 simp only[G3,fx,hi,adw,adQ]at h;have h1:=h j (adj.1 hj).1;simp only[hj,sB,aeE,adY,cP,agN,fq,ads,adk]at h1
 rcases h1 with(h1|h1)|⟨⟨⟨h1,h2⟩,h3⟩,h4⟩
 .obtain⟨e,he,hb⟩:=afS.1 h1;simp only[adk,adY]at hb;exact absurd hb.2 (iq e he hb.1)
 .exact .inl h1
 .subst h1 h2;refine .inr ⟨h3,hS rfl aj sB,λk ak hk hu t ht hw=>?_⟩
  have jv:k<ops.size:=by
   unfold jq at hk
   cases ho:ops[k]? with
   |none=>rw[ho]at hk;cases hk
   |some x=>exact(adj.1 ho).1
  have h5:=adw.1 h4 k (adQ.2 jv);simp only[hu,Bool.false_or,hk]at h5;have:=adw.1 h5 t ht;simp[hw]at this
def vn{K K':an->ao->Prop}(hK:∀S H,K S H->K' S H):∀(l:List bH)(S:an)(H:ao),cU P GI l K S H->cU P GI l K' S H
 |[],_,_,h=>hK _ _ h
 |o::rest,S,H,h=>by
  simp only[cU]at h⊢;split
  .rename_i hw;simp only[hw]at h;exact sX (λS H=>vn hK rest S H) h
  .rename_i hw;simp only[hw]at h;exact vn hK rest _ _ h
  .rename_i hw;simp only[hw]at h
def Ad(P:Program)(GI:World->Prop)(al:List bH)(p q:Nat)(K:an->ao->Prop):List Nat->an->ao->Prop
 |[],S,H=>K S H
 |k::r,S,H=>∃o,al[k]?=some o/\(k=p->∀aj,al[q]?=some aj->rJ S o aj)/\cU P GI [o] (Ad P GI al p q K r) S H
def Dg {QA:an→ao→Prop} {p q:Nat}:∀ (ord:List Nat) (listed:Array Bool) (S:an) (H:ao),
  D4 md ops (bh P n true ops) p q ord listed=true->Ad P GI (bh P n true ops) p q QA ord S H->yN P GI n md ops QA ord.length listed S H
 |[],_,_,_,hB,h=>⟨by simpa[D4]using hB,h⟩
 |k::r,listed,S,H,hB,h=>by
  obtain⟨o,ha,hS,h⟩:=h;rw[fx]at ha;simp only[D4,adk]at hB;obtain⟨⟨hr,hf⟩,Nf⟩:=hB;obtain⟨e,hy,hK⟩:=tZ h
  exact IA ha r.length listed S H e (IV ha hf (λhk aj sB=>hS hk aj (by rw[fx];exact sB))) (by simpa using hr) hy
   (Dg r _ _ _ Nf hK)
def Xa(P:Program)(n:Nat)(ops:Array Oper)(p q:Nat)(ord:List Nat):Bool:=
 (bh P n true ops).all (·.ok n)&&ot .any ops (bh P n true ops)&&Jb (bh P n true ops)&&decide (ord.length=ops.size)&&D4 .any ops (bh P n true ops) p q ord (Array.replicate ops.size false)
def C9{al:List bH}{p q:Nat}{K:an->ao->Prop}{r:List Nat}:∀(ks:List Nat)(l:List bH){S:an}{H:ao},ks.map (al[·]?)=l.map some->(∀k∈ks,k≠p)->cU P GI l (Ad P GI al p q K r) S H->Ad P GI al p q K (ks++r) S H
 |[],[],_,_,_,_,h=>h
 |[],_::_,_,_,h,_,_=>by simp at h
 |_::_,[],_,_,h,_,_=>by simp at h
 |k::ks,o::l,S,H,he,hp,h=>by
  simp only[ady,ae7]at he;refine⟨o,he.1,λhk=>absurd hk (hp k ahi),?_⟩
  have hm:∀S H,cU P GI l (Ad P GI al p q K r) S H->Ad P GI al p q K (ks++r) S H:=λS H h=>C9 ks l he.2 (λk hk=>hp k (adu _ hk)) h
  simp only[cU]at h⊢;split
  .rename_i hw;simp only[hw]at h;exact sX hm h
  .rename_i hw;simp only[hw]at h;exact hm _ _ h
  .rename_i hw;simp only[hw]at h
end
section
variable{P:Program}{GI:World->Prop}{n:Nat}{ops:Array Oper}{S:an}{H:ao}
end
section
variable{P:Program}{GI:World->Prop}{n m:Nat}{Q:Exit->Act->World->Prop}
section
variable{ops:Array Oper}{p:Nat}{la l:Array Bool}(hp:p<=ops.size)
 (hw:∀i o,ops[i]?=some o->if i<p then∀e∈o.after,Region.binds .any e=true->e.on<i else∀j,j<p->∃e∈o.after,Region.binds .any e=true/\e.on=j)
include hp hw
end
end
section
variable{P:Program}{Q:Exit->Act->World->Prop}{ro:Option Nat}{m n:Nat}{ops:Array Oper}
structure AI(ops:Array Oper)(n:Nat)(a0:Act)(val:Nat->Value)(l:Array Bool)(a:Act):Prop where
 size:a.tmps.size=n
 defers:a.defers=a0.defers
 old:∀t:Nat,(∀(i:Nat)(o:Oper),ops[i]?=some o->o.dst≠some t)->a.tmps.getD t undef=a0.tmps.getD t undef
 got:∀(i:Nat)(o:Oper)(t:Nat),ops[i]?=some o->o.dst=some t->l.getD i false=true->a.tmps.getD t undef=val t
section
variable{a:Act}{w:World}
def NJ {i:Nat} {rest:List Nat} {o:Oper} (ho:ops[i]? = some o) (hw:Region.wanted o (yielded ops a.tmps)=true) (dL:eH o.op=true) {v:Value} {w':World}
  (hr:(execOp a.eval o).run P w=.ok (.value v) w') (hk:wpOpsIn (FR ro) m P ops Q rest (a.put o.dst v) w'):wpOpsIn (FR ro) m P ops Q (i::rest) a w:=by
 simp only[wpOpsIn,ho];rw[if_pos hw];refine⟨λ_ _=>trivial,?_⟩;rw[aeM _ _ _ (λc hc=>by rw[hc]at dL;cases dL),hr];exact hk
end
end
section
variable{P:Program}{GI:World->Prop}{w0:World}{n:Nat}{g:Gh}{S:an}{H:ao}{a:Act}{w:World}
def Rel.Vy (R:Rel P w0 n bL g S H a w) (d:Nat) (hd:d < n) (bW:¬ g.old.bx d) (cs:List AV) (vs:Array Value) (ty:TypeId) (hr:py g.Pr w cs vs)
  (ho:∀(g':Gh) j (h:j<cs.length)(h':j<vs.size),(cs[j]).mf/\eK P w g' (.cell d j) cs[j] vs[j]):
  ∃g',g'.base=g.base/\g'.old=g.old/\g'.hi=g.hi/\g'.owner=g.owner/\g'.al d=some w.heap.size/\Rel P w0 n bL g' (au (λt=>cd d (S t)) d (.box d 0)) (au H d (some cs)) (a.put (some d) (.pointer (some ⟨w.heap.size,0,none⟩))) (w.alloc (.cells vs ty)):=by
 have R1:=R.suspend d bW (.box d 0) cs;have R2:=R1.G8 d (.inr rfl) hd cs vs ty (aO _ _ _) (aO _ _ _) hr.1 hr.2.1 (λj h h'=>ho _ j h h') hr.2.2;rw[Gg]at R2;exact⟨{ g with al:=au (au g.al d none) d (some w.heap.size) },rfl,rfl,rfl,rfl,aO _ _ _,R2⟩
def KH{o:Oper}{t:TypeId}{it:TypeInfo}{z:Value}(ho:o.op=.alloc t)(hi:P.info? t=some it)(hz:it.zero=some z):(execOp a.eval o).run P w=.ok (.value (.pointer (some ⟨w.heap.size,0,none⟩))) (w.alloc (.cells z.cells t)):=by
 unfold execOp;simp[ho,Instr.alloc,zeroValue,typeInfo,hi,hz,newVar,newRow]
def Fa {o:Oper} {t:TypeId} {x y:Operand} {b:Nat} {c:Value} {vs:Array Value} {ty:TypeId} {i:TypeInfo} (ho:o.op = .store t x y) (hx:a.eval x = .pointer (some ⟨b,0,none⟩)) (hi:P.info? t=some i) (hb:w.heap[b]? = some (.cells vs ty (0,0))) (hy:a.eval y=c)
  (bj:c.cells.size=i.size) (xy:vs.size=i.size) (og:∀u∈c.cells.toList,u.oneCell'=true):(execOp a.eval o).run P w=.ok .skip (w.setRow b c.cells):=by
 have dz:=af5 P b 0 ty c.cells.toList 0 vs w hb (by simp;omega) og
 have e:(vs.toList.take 0++c.cells.toList++vs.toList.drop (0+c.cells.toList.length)).toArray=c.cells:=by
  simp[aey,bj,xy]
 simp only[Nat.add_zero]at dz;rw[e]at dz;unfold execOp;simp only[ho,hx,hy,Instr.storeAt,Instr.sureAddr,storeVar,sizeOf,typeInfo,adq,Sem.run_pure,Result.andThen_ok,run_program,hi,bj,ne_eq,aeV,adH];rw[show storeCells ⟨b,0,none⟩ c.cells.toList=storeCells ⟨b,0,none⟩ c.cells.toList 0 from rfl,dz]
 rfl
end
end Go.AL
namespace Go.Proofs.Tryz
open Go.AL
noncomputable def codeOf(f:Go.Func):Go.Code:=match f.body with|some c=>c|none=>f.body.get!
abbrev Ev(n:Nat)(f:Go.Func):={c:ah//dw prog n (codeOf f)=c}
def _root_.Go.Code.cA:Go.Code->Go.Code
 |.seq x _=>x
 |.cond _ x _=>x
 |c=>c
def _root_.Go.Code.cB:Go.Code->Go.Code
 |.seq _ y=>y
 |.cond _ _ y=>y
 |.block _ c=>c
 |.loop c=>c
 |c=>c
noncomputable def _root_.Go.Func.cO(f:Go.Func):Go.Code:=match f.body with|some c=>c|none=>f.body.get!
@[simp] noncomputable def bc(n:Nat)(c:Go.Code){a:ah}(_h:dw prog n c=a:=by conv=>lhs;cbv):ah:=a
end Go.Proofs.Tryz
namespace Go.AL
def aT{n:Int}(h: -9223372036854775808<=n/\n<9223372036854775808):IntKind.i64.wrap n=n:=by
 have key:∀m:Int,m=n % 18446744073709551616->(if decide (m>=9223372036854775808)=true then m-18446744073709551616 else m)=n:=by
  intro m hm;split
  .rename_i hd;have:=afi hd;omega
  .rename_i hd
   have Zp:¬m>=9223372036854775808:=λhh=>hd (af2 hh)
   omega
 exact key _ rfl
def ints(l:List Int):List AV:=l.map (.int .i64)
def cZ(l:List Int):(ints l).length=l.length:=by simp[ints]
def dZ(l:List Int)(i:Nat)(h:i<(ints l).length):(ints l)[i]=.int .i64 (l[i]'(by simpa[ints]using h)):=by simp[ints]
def vI(l:List Int):AV:=.slice .view (ints l)
def int(n:Int):AV:=.int .i64 n
def bf.of_eq{Pr eS:Nat->Nat->Prop}{w w':World}(h:∀b k,Pr b k->eS b k/\w'.heap[b]?=w.heap[b]?):bf Pr eS w w':={
 cell b k hp u hu:=⟨(h b k hp).1,by rw[ae5 (w:=w) (h b k hp).2];exact hu⟩
 map b hp es c hm:=⟨(h b 0 hp).1,by rw[(h b 0 hp).2];exact hm⟩ }
def RV.fL{Pr:Nat->Nat->Prop}{al:Nat->Option Nat}{w:World}{b:Bool}{c:Value}(h:RV Pr al w (.bool b) c):c=.bool b:=by
 cases h;rename_i h;cases h;rfl
def RV.int_eq{Pr:Nat->Nat->Prop}{al:Nat->Option Nat}{w:World}{k:IntKind}{n:Int}{c:Value}(h:RV Pr al w (.int k n) c):c=.int k n:=by
 cases h;rename_i h;cases h;rfl
def RV.jo{Pr:Nat->Nat->Prop}{al:Nat->Option Nat}{w:World}{v c:Value}(h:RV Pr al w (.val v) c):c=v:=by
 cases h;rename_i h;cases h;rfl
def hZ{P:Program}{ro:Option Nat}{m:Nat}{c:Code}{Q:Exit->Act->World->Prop}{a:Act}{w:World}(A:Act->Prop)(ha:A a)(h:∀a,A a->c.wpIn (FR ro) m P Q a w):c.wpIn (FR ro) m P Q a w:=h a ha
def o9 {P:Program} {a:Act} {w:World} {ro:Option Nat} {m:Nat} {Q:Exit→Act→World→Prop} {ops:Array Oper} {i:Nat} {rest:List Nat} {o:Oper} (ho:ops[i]? = some o) (hg:o.guard=none) (dL:eH o.op=true) {f:Nat} {args:Array Value} {w':World}
    (hr:(execOp a.eval o).run P w=.ok (.enter f args) w') {R:Ending->World->Prop} (hc:Calls P f args w' R)
    (hk:∀e ju,R e ju->match e with|.returned v=>wpOpsIn (FR ro) m P ops Q rest (a.put o.dst v) ju|.panicked ch=>Q (.panic ch) a ju|.outgrown=>False):wpOpsIn (FR ro) m P ops Q (i::rest) a w:=by
  simp only[wpOpsIn,ho]
  have:Region.wanted o (yielded ops a.tmps)=true:=by simp[Region.wanted,hg]
  rw[if_pos this];refine⟨λ_ _=>trivial,?_⟩;rw[aeM _ _ _ (λc hc=>by rw[hc]at dL;cases dL),hr];refine⟨λh=>by simp[FR,Fence.wide]at h,iU.2 (hc.mono λe ju hh=>?_)⟩;have:=hk e ju hh
  cases e with
  |returned v=>exact this
  |panicked ch=>exact this
  |outgrown=>exact this.elim
def AO {P:Program} {a:Act} {w:World} {m:Nat} {Q:Exit→Act→World→Prop} {ops:Array Oper} {i:Nat} {rest:List Nat} {o:Oper} (ho:ops[i]? = some o) (hg:o.guard=none) {d:Deferred} {w':World}
    (hr:(execOp a.eval o).run P w=.ok (.defer d) w') (hk:wpOpsIn (FR none) m P ops Q rest ({ a with defers:=d::a.defers }.put o.dst undef) w'):wpOpsIn (FR none) m P ops Q (i::rest) a w:=by
  simp only[wpOpsIn,ho]
  have:Region.wanted o (yielded ops a.tmps)=true:=by simp[Region.wanted,hg]
  rw[if_pos this];refine⟨λ_ _=>trivial,?_⟩;show Oper.uponIn _ _ _ _ _ _ _ ((Oper.semAt none a.eval o).run P w);rw[Oper.semAt_none,hr];exact hk
section
variable{P:Program}{GI:World->Prop}{n:Nat}{ro:Option Nat}{old:Old}{S:an}{H:ao}{Q:eW}
def SW.cut (hG:ar GI) (hm:P.follows .mixedOrders=true) {x y:Code} (hc:kY x=true) {ac:ah} (oI:dw P n x=ac) (bW:∀ d∈ac.names,¬ old.bx d) (K:an→ao→Prop) (h:bD P GI ac (aN K) S H)
  (hy:∀S' H',K S' H'->SW P GI n ro y Q old S' H'):SW P GI n ro (.seq x y) Q old S H:=by
 subst oI;intro w0 g a w m cq ho R;refine adB (ae1 (jb hG cq hm x (aN K) g S H a w hc bW ho R h) ?_);intro e a' w' hq
 cases e with
 |normal=>
  obtain⟨g',S',H',h1,h2,h3⟩:=hq;exact hy S' H' h3 w0 g' a' w' m cq h1 h2
 |exit id=>obtain⟨_,_,_,_,_,h⟩:=hq;exact h.elim
 |ret=>obtain⟨_,_,_,_,_,h⟩:=hq;exact h.elim
 |panic ch=>obtain⟨_,_,_,_,_,_,_,_,_,_,h⟩:=hq;exact h.elim
 |goto l=>exact hq.elim
 |outgrown=>exact hq.elim
end
section
def gn {P:Program} {a:Act} {o:Oper} {cl:Call} {k:Nat} {args:Array Value} (w:World) (ho:o.op = .call cl) (hc:cl.callee = .value (.func k)) (ha:cl.args.map a.eval=args) (hk:eb P k=true) :
  (execOp a.eval o).run P w=.ok (.enter k args) w:=by
 unfold execOp;simp only[ho,fe hc,show a.eval (.func k)=.func (.func k) #[] #[]from rfl,Deferred.ofValue,adq,Sem.run_pure,Result.andThen_ok,invoke,ahr,ahs,ha];rw[f_ hk]
def ck(a:Act)(d t:Nat)(c:Value)(hd:d<a.tmps.size):(a.put (some d) c).eval (.tmp t)=if t=d then c else a.eval (.tmp t):=i_ a d t c hd
def lX(a:Act)(d:Option Nat)(c:Value):(a.put d c).tmps.size=a.tmps.size:=by cases d<;>simp[Act.put]
end
end Go.AL
namespace Go.AL
open Go.RowKit
section
variable{P:Program}{GI:World->Prop}{n:Nat}{a:Act}{w w0:World}{m:Nat}{Q:Exit->Act->World->Prop}{g:Gh}{S:an}{H:ao}{ro:Option Nat}
def jM (R:Rel P w0 n bL g S H a w) (hG:ar GI) (cq:GI w0) (hm:P.follows .mixedOrders=true) {id:Nat} {ops:Array Oper} {draw:Bool} (hc:kY (.region id ops draw)=true) {ac:ah} (oI:dw P n (.region id ops draw)=ac) {W:Nat→Bool} (hW:jO ops W=true)
  (bW:∀d,¬g.old.bx d) {K:an->ao->Prop} (h:bD P GI ac (aN K) S H)
  (hk:∀g' S' H' a' w',g'.old=g.old->Rel P w0 n bL g' S' H' a' w'->K S' H'->eE W a a'->Q .normal a' w'):(Code.region id ops draw).wpIn (FR ro) m P Q a w:=by
 subst oI
 have fin:∀e a' w',zU W a (QQ P w0 n g.old (aN K)) e a' w'->Q e a' w':=by
  intro e a' w' hq
  cases e with
  |normal=>
   obtain⟨⟨g',S',H',h1,h2,h3⟩,h4⟩:=hq;exact hk g' S' H' a' w' h1 h2 h3 h4
  |exit id=>obtain⟨_,_,_,_,_,h⟩:=hq;exact h.elim
  |ret=>obtain⟨_,_,_,_,_,h⟩:=hq;exact h.elim
  |panic ch=>obtain⟨_,_,_,_,_,_,_,_,_,_,h⟩:=hq;exact h.elim
  |goto l=>exact hq.elim
  |outgrown=>exact hq.elim
 simp only[dw]at h
 cases draw with
 |true=>
  simp only[adS]at h;split at h
  case isFalse=>exact h.elim
  rename_i bX;exact aeW hm (fK fin _ _ _ _ (jg hW _ _ _ _ (lU hG cq hm hc bX (λ_ _ _ _=>bW _) rfl R h)))
 |false=>
  simp only[ads,adH]at h;split at h
  case isFalse=>exact h.elim
  rename_i bX;exact adP (fZ fin _ _ _ (ji hW _ _ _ (rn hG cq hc bX (λ_ _ _ _=>bW _) rfl R h)))
def lE{o:Oper}{t:TypeId}{z:Value}(ho:o.op=.alloc t)(hz:(P.info? t).bind (·.zero)=some z):(execOp a.eval o).run P w=.ok (.value (.pointer (some ⟨w.heap.size,0,none⟩))) (w.alloc (.cells z.cells t)):=by
 obtain⟨it,h1,h2⟩:=aeJ.1 hz;unfold execOp;simp[ho,Instr.alloc,zeroValue,typeInfo,h1,h2,newVar,newRow]
def mr{o:Oper}{fn:Fn}{c:Array Operand}(ho:o.op=.makeFunc fn #[] c):(execOp a.eval o).run P w=.ok (.value (.func fn #[] (c.map a.eval))) w:=by
 simp[execOp,ho,Instr.makeFunc]
end
section
variable{P:Program}{GI:World->Prop}{n:Nat}{ro:Option Nat}{old:Old}{S:an}{H:ao}{Q:eW}{a:Act}{w:World}
def run_makeMap{o:Oper}{t:TypeId}(ho:o.op=.makeMap t none):(execOp a.eval o).run P w=.ok (.value (.map (some w.heap.size))) (w.alloc (.map #[] 0)):=by
 unfold execOp;simp[ho,Instr.makeMap,run_newObj_alloc]
def KZ {o:Oper} {t kt el:TypeId} {fs:Array Field} {k:Nat} {x1 x2 x3:Operand} {b clock:Nat} {es:Array MapEntry} {key:List Int} {val:Value} {ks vs:List AV} {Pr:Nat→Nat→Prop} (ho:o.op = .mapUpdate t x1 x2 x3)
  (fq:P.underlying t=some (.map kt el)) (hu:P.underlying kt=some (.struct fs)) (hk:l_ P 10000 kt=some k) (h1:a.eval x1=.map (some b)) (h2:a.eval x2=.agg (gm key)) (h3:a.eval x3=val)
  (hb:w.heap[b]?=some (.map es clock)) (hl:key.length=k) (jv:ks.length=es.size) (ZQ:vs.length=es.size) (Yr:∀i (h:i<ks.length)(h':i<es.size),RD Pr w ks[i] (es[i]).key) (xy:∀i (h:i<vs.length)(h':i<es.size),RD Pr w vs[i] (es[i]).val)
  (iq:oD key ks vs=some none):(execOp a.eval o).run P w=.ok .skip (w.putObj b (.map (es.push { key:=.agg (gm key),val:=val,born:=clock }) (clock+1))):=by
 have yk:(match P.underlying kt with|some (.array _ _)|some (.struct _)=>true|_=>false)=true:=by rw[hu]
 have y9:=vu (P:=P) (w:=w) false 10000 kt k hk key hl;simp only[od,hu]at y9;obtain⟨q,q1,q2⟩:=lM (w:=w) (Pr:=Pr) hu hk key hl ks vs es.toList 0 none (by simpa using jv) (by simpa using ZQ) (λj h h'=>by simpa using Yr j h (by simpa using h')) (λj h h'=>by simpa using xy j h (by simpa using h')) iq
 have hq:q=none:=by cases q with|none=>rfl|some p=>exact q2.elim
 subst hq;have xp:=(run_findKey_eq (P:=P) (w:=w) yk (.agg (gm key)) es.toList).trans q1;unfold execOp;simp only[ho,h1,h2,h3,Instr.mapUpdate,adq,adD fq,Result.andThen_ok,afA hb,y9,xp,ag0 _ hb]
 rfl
end
section
variable{P:Program}{GI:World->Prop}{n m:Nat}{a:Act}{w w0:World}{Q:Exit->Act->World->Prop}{g:Gh}{S:an}{H:ao}{ro:Option Nat}
def B0 {o:Oper} {s el:TypeId} {len:Nat} {i:TypeInfo} {x1 x2:Operand} {b off k:Nat} (ho:o.op = .indexAddr s x1 x2) (hs:P.underlying s=some (.array len el)) (hi:P.info? el=some i)
  (h1:a.eval x1=.pointer (some ⟨b,off,none⟩)) (h2:a.eval x2=.int .i64 k) (hk:k<len):(execOp a.eval o).run P w=.ok (.value (.pointer (some ⟨b,off+k*i.size,none⟩))) w:=by
 have Ib:(0:Int)<=k:=zo
 have jv:(k:Int)<len:=zo
 simp[execOp,ho,h1,h2,Instr.indexAt,asIntOf,adD hs,Ib,jv,sizeOf,typeInfo,hi,aei,hk,Instr.sureAddr]
def Bd {o:Oper} {t:TypeId} {d:TypeDesc} {x:Operand} {b off:Nat} {v:Value} {vs:Array Value} {ty:TypeId} (ho:o.op = .load t x) (hx:a.eval x = .pointer (some ⟨b,off,none⟩)) (hd:P.underlying t=some d) (Zp:ef d=false) (hb:w.heap[b]? = some (.cells vs ty (0,0))) (hv:vs[off]? = some v) :
  (execOp a.eval o).run P w=.ok (.value v) w:=by
 refine jV ho hx hd Zp ?_;simp[World.cell?,hb,hv]
def AI.aV{ops:Array Oper}{a0:Act}{val:Nat->Value}{l:Array Bool}(h:AI ops n a0 val l a){t:Nat}(ht:ops.all (λo=>o.dst !=some t)=true):a.tmps.getD t undef=a0.tmps.getD t undef:=
 h.old t λi o ho hd=>by
  have:=aet.1 ht o (aen ho);simp[hd]at this
def AI.at{ops:Array Oper}{a0:Act}{val:Nat->Value}{l:Array Bool}(h:AI ops n a0 val l a)(i t:Nat)(ho:∃o,ops[i]?=some o/\o.dst=some t)(hl:l.getD i false=true):a.tmps.getD t undef=val t:=by
 obtain⟨o,h1,h2⟩:=ho;exact h.got i o t h1 h2 hl
end
section
variable{P:Program}{GI:World->Prop}{n m:Nat}{a:Act}{w w0:World}{Q:Exit->Act->World->Prop}{g:Gh}{S:an}{H:ao}{ro:Option Nat}
def Bn{κ:Type}[BEq κ][LawfulBEq κ]{k:κ}:∀{l:List (κ×Value)}{i:Nat},(∀x∈l,x.1≠k)->oF k l i=none
 |[],_,_=>rfl
 |(k',v)::l,i,h=>by
  have h1:k'≠k:=h (k',v) ahi;unfold oF;rw[if_neg (by simpa using ad6 h1)]
  exact Bn λx hx=>h x (adu _ hx)
end
section
variable{P:Program}{GI:World->Prop}{n m:Nat}{a:Act}{w:World}{Q:Exit->Act->World->Prop}{S:an}{ro:Option Nat}
end
section
variable{P:Program}{n m:Nat}{a:Act}{w:World}{Q:Exit->Act->World->Prop}{ro:Option Nat}
def Ce(P:Program)(t j:Nat):Option (Nat×Nat):=match P.underlying t with
 |some (.struct fs)=>match fs[j]? with
  |some f=>match P.info? f.type with
   |some i=>some (f.offset,i.size)
   |none=>none
  |none=>none
 |_=>none
def uf{o:Oper}{s j WM sz:Nat}{x:Operand}{b off:Nat}(h:Ce P s j=some (WM,sz))(hz:sz≠0)(ho:o.op=.fieldAddr s x j)(hx:a.eval x=.pointer (some ⟨b,off,none⟩)):(execOp a.eval o).run P w=.ok (.value (.pointer (some ⟨b,off+WM,none⟩))) w:=by
 unfold Ce at h;split at h
 .rename_i fs fw;split at h
  .rename_i f hf;split at h
   .rename_i i hi;simp only[adN,afO]at h;obtain⟨rfl,rfl⟩:=h;exact BP ho fw hf hi hz hx
   .cases h
  .cases h
 .cases h
end
section
variable{P:Program}{GI:World->Prop}{n m:Nat}{a:Act}{w:World}{Q:Exit->Act->World->Prop}{ro:Option Nat}
def lH(o:Oper):List Nat:=(o.after.toList.filter (Region.binds .any ·)).map (·.on)
def Hn(ops:Array Oper):Nat->List Nat->List Nat
 |0,s=>s
 |k+1,s=>Hn ops k (if s.contains k then s++((ops[k]?).map lH).getD []else s)
def wC{ops:Array Oper}{L:Nat->Prop}:∀(n:Nat),(∀k,k<n->∀o,ops[k]?=some o->L k->∀y∈lH o,L y)->∀s,(∀y∈s,L y)->∀y∈Hn ops n s,L y
 |0,_,s,hs,y,hy=>hs y hy
 |k+1,h,s,hs,y,hy=>by
  refine wC k (λk' cE=>h k' zo) _ (λz hz=>?_) y hy;split at hz
  .rename_i hc;rcases adm.1 hz with hz|hz
   .exact hs z hz
   .cases ho:ops[k]? with
    |none=>rw[ho]at hz;cases hz
    |some o=>
     rw[ho]at hz;exact h k zo o ho (hs k (by simpa using hc)) z hz
  .exact hs z hz
def Hm(ops:Array Oper)(p:Nat):Bool:=
 decide (p<=ops.size)&&(ops.extract 0 p).all (λo=>match o.guard with|none=>true|some (j,_)=>decide (j<p))&&
 (List.range ops.size).all (λi=>((ops[i]?).map λo=>if i<p then(lH o).all (λy=>decide (y<i))else let c:=Hn ops i (lH o);(List.range p).all λj=>c.contains j).getD true)&&
 oJ ops (ops.size-p) p ((List.range ops.size).map λi=>decide (i<p)).toArray
def wT{F:Fence}{ops:Array Oper}(x:Nat):∀(k i:Nat)(l:Array Bool)(a:Act)(w:World),oJ ops k i l=true->wpOpsIn F m P ops Q (List.range' i k) a w->wpAnyIn F m P .any ops Q (x+k) l a w
 |0,i,l,a,w,h,hh=>by
  have h0:Region.ready .any ops l=[]:=by simpa[oJ]using h
  cases x with
  |zero=>exact⟨h0,hh⟩
  |succ x=>exact⟨λ_=>hh,λi hi=>by rw[h0]at hi;cases hi⟩
 |k+1,i,l,a,w,h,hh=>by
  simp only[oJ,adk,adY]at h;refine⟨λhr=>(by rw[hr]at h;cases h.1),λj hj=>?_⟩;rw[h.1,adJ]at hj;subst hj;simp only[aeS]at hh;rw[wpOpsIn_cons]at hh;exact wpOpIn_mono (λa w hq=>wT x k _ _ a w h.2 hq) hh
structure Lu(ops:Array Oper)(p:Nat)(la l:Array Bool):Prop where
 TL:la.size=p
 sl:l.size=ops.size
 front:∀i,i<p->l[i]?=la[i]?
 back:∀i,p<=i->i<ops.size->l[i]?=some false
 closed:∀(i:Nat)(o:Oper),ops[i]?=some o->l.getD i false=true->∀y∈lH o,l.getD y false=true
section
variable{ops:Array Oper}{p:Nat}{la l:Array Bool}(hp:p<=ops.size)
 (hw:∀i o,ops[i]?=some o->if i<p then∀e∈o.after,Region.binds .any e=true->e.on<i else∀j,j<p->j∈Hn ops i (lH o))
include hp hw
def LA(h:Lu ops p la l){j:Nat}(hj:j<p)(EP:la[j]?=some false):Region.ready .any ops l=Region.ready .any (ops.extract 0 p) la:=by
 unfold Region.ready
 have bj:(ops.extract 0 p).size=p:=by simp;omega
 rw[bj]
 have hr:List.range ops.size=List.range p++List.range' p (ops.size-p):=by
  rw[ae8,ae8];have:=agk (s:=0) (m:=p) (n:=ops.size-p);rw[adW]at this;rw[this]
  congr 1;omega
 rw[hr,ahv]
 have hb:(List.range' p (ops.size-p)).filter (λi=>!l.getD i true&&((ops[i]?).map (·.after.all λe=>!Region.binds .any e||l.getD e.on false)).getD false)=[]:=by
  rw[ag1];intro i hi;have hi:=afG.1 hi;have PC:p<=i:=hi.1
  have xM:i<ops.size:=zo
  have ho:ops[i]?=some ops[i]:=adK xM;have vV:=hw i _ ho;rw[if_neg zo]at vV;rw[ho];simp only[Option.map_some,Option.getD_some,adk,not_and];intro _ eF;have eF:=aet.1 eF
  have hL:=wC (L:=λy=>l.getD y false=true) (ops:=ops) i (λk _ o ho hLk=>h.closed k o ho hLk) (lH ops[i]) (λy hy=>by
   simp only[lH,adF,afy,agl]at hy;obtain⟨e,⟨he,zP⟩,rfl⟩:=hy
   simpa[zP]using eF e he) j (vV j hj)
  rw[adE,h.front j hj,EP]at hL;cases hL
 rw[hb,ael]
 refine List.filter_congr λi hi=>?_
 have hi:=adQ.1 hi;have ho:ops[i]?=some (ops[i]' zo):=adK zo;have vV:=hw i _ ho;rw[if_pos hi]at vV
 have YG:(ops.extract 0 p)[i]?=ops[i]?:=by
  rw[aeZ]
  have:i<min p ops.size-0:=zo
  rw[if_pos this,adW]
 rw[YG,ho];simp only[Option.map_some,Option.getD_some,adE,h.front i hi]
 congr 1
 rw[ad5,aet,aet]
 refine forall_congr' λe=>forall_congr' λhe=>?_
 cases zP:Region.binds .any e with
 |false=>simp
 |true=>
  have:=vV e he zP;rw[h.front e.on zo]
def uX(h:Lu ops p la l){j:Nat}(hj:j<p)(EP:la[j]?=some false):Region.ready .any (ops.extract 0 p) la≠[]:=by
 have bj:(ops.extract 0 p).size=p:=by simp;omega
 have ex:∃j,j<p/\la[j]?=some false/\∀i,i<j->la[i]?=some true:=by
  induction j using Nat.strongRecOn with
  |_ j ih=>
   by_cases hx:∃i,i<j/\la[i]?=some false
   .obtain⟨i,hi,hiu⟩:=hx;exact ih i hi zo hiu
   .refine⟨j,hj,EP,λi hi=>?_⟩
    have di:i<la.size:=by rw[h.TL];omega
    rw[adK di]
    cases hb:la[i]with
    |true=>rfl
    |false=>exact absurd ⟨i,hi,by rw[adK di,hb]⟩ hx
 obtain⟨j,hj,EP,Ul⟩:=ex;intro uh
 have:j∈Region.ready .any (ops.extract 0 p) la:=by
  unfold Region.ready;rw[afy];refine⟨adQ.2 zo,?_⟩;have ho:ops[j]?=some (ops[j]' zo):=adK zo;have vV:=hw j _ ho;rw[if_pos hj]at vV
  have YG:(ops.extract 0 p)[j]?=ops[j]?:=by
   rw[aeZ]
   have:j<min p ops.size-0:=zo
   rw[if_pos this,adW]
  rw[YG,ho];simp only[Option.map_some,Option.getD_some,adk,adE,EP,agu,ag8];rw[aet];intro e he
  cases zP:Region.binds .any e with
  |false=>rfl
  |true=>
   rw[Ul e.on (vV e he zP)];rfl
 rw[uh]at this;cases this
def LW {F:Fence} (hg:(ops.extract 0 p).all (fun o=>match o.guard with | none=>true | some (j,_)=>decide (j < p))=true) (It:oJ ops (ops.size - p) p ((List.range ops.size).map fun i=>decide (i < p)).toArray=true):∀ (k:Nat) (la l:Array Bool) (a:Act) (w:World),Lu ops p la l →
  wpAnyIn F m P .any (ops.extract 0 p) (Jm (wpOpsIn F m P ops Q (List.range' p (ops.size-p))) Q) k la a w->wpAnyIn F m P .any ops Q (k+(ops.size-p)) l a w:=by
 have bj:(ops.extract 0 p).size=p:=by simp;omega
 have final:∀(k:Nat)(la l:Array Bool)(a:Act)(w:World),Lu ops p la l->(¬∃j,j<p/\la[j]?=some false)->wpOpsIn F m P ops Q (List.range' p (ops.size-p)) a w->wpAnyIn F m P .any ops Q (k+(ops.size-p)) l a w:=by
  intro k la l a w h eF hh
  have hl:l=((List.range ops.size).map λi=>decide (i<p)).toArray:=by
   apply ahu;intro i
   by_cases hi:i<ops.size
   .simp only[agb,adO,ahj hi,Option.map_some]
    by_cases yG:i<p
    .rw[h.front i yG]
     have di:i<la.size:=by rw[h.TL];omega
     rw[adK di]
     cases hb:la[i]with
     |true=>simp[yG]
     |false=>exact absurd ⟨i,yG,by rw[adK di,hb]⟩ eF
    .rw[h.back i zo hi];simp[yG]
   .have Vs:=h.sl;rw[aeN zo,aeN (by simp;omega)]
  rw[hl];exact wT k _ _ _ a w It hh
 intro k
 induction k with
 |zero=>
  intro la l a w h hh;refine final 0 la l a w h ?_ hh.2;rintro⟨j,hj,EP⟩;exact uX hp hw h hj EP hh.1
 |succ k ih=>
  intro la l a w h hh
  by_cases eF:∃j,j<p/\la[j]?=some false
  case neg=>
   have h0:Region.ready .any (ops.extract 0 p) la=[]:=by
    unfold Region.ready;rw[ag1];intro i hi;have hi:=adQ.1 hi
    have di:i<la.size:=by rw[h.TL];omega
    cases hb:la[i]with
    |true=>simp[adE,adK di,hb]
    |false=>exact absurd ⟨i,zo,by rw[adK di,hb]⟩ eF
   exact final (k+1) la l a w h eF (hh.1 h0)
  obtain⟨j,hj,EP⟩:=eF;have h1:=uX hp hw h hj EP;have h2:=LA hp hw h hj EP;rw[show k+1+(ops.size-p)=(k+(ops.size-p))+1 by omega];refine⟨λhr=>absurd (h2▸hr) h1,λi hi=>?_⟩
  have dv:i∈Region.ready .any (ops.extract 0 p) la:=by rw[<-h2];exact hi
  have yG:i<p:=by
   have:=adQ.1 (afy.1 dv).1;omega
  have hI:Lu ops p (la.setIfInBounds i true) (l.setIfInBounds i true):=by
   have VT:∀o,ops[i]?=some o->∀y∈lH o,l.getD y false=true:=λo ho y hy=>by
    obtain⟨_,o',oV,eF⟩:=afe.1 hi;rw[ho]at oV;cases oV;simp only[lH,adF,afy,agl]at hy;obtain⟨e,⟨he,zP⟩,rfl⟩:=hy;exact eF e he zP
   have rA:∀y,l.getD y false=true->(l.setIfInBounds i true).getD y false=true:=λy hy=>by
    rw[adE,aez]
    by_cases hiy:i=y
    .subst hiy;rw[adE]at hy;split
     .split
      .rfl
      .rename_i h1 h2;rw[aeN zo]at hy;cases hy
     .exact hy
    .rw[if_neg hiy,<-adE];exact hy
   refine⟨by simpa using h.TL,by simpa using h.sl,λq hq=>?_,λq hq NY=>?_,λq o ho hLq y hy=>?_⟩
   .rw[aez,aez,h.front q hq];have e1:=h.TL;have e2:=h.sl
    by_cases P6:i=q
    .subst P6;rw[if_pos rfl,if_pos rfl,if_pos zo,if_pos zo]
    .rw[if_neg P6,if_neg P6]
   .rw[aez,if_neg zo];exact h.back q hq NY
   .by_cases P6:q=i
    .subst P6;exact rA y (VT o ho y hy)
    .refine rA y (h.closed q o ho ?_ y hy);rw[adE,aez,if_neg (ad6 P6),<-adE]at hLq;exact hLq
  have hs:=hh.2 i dv;unfold wpOpIn at hs⊢
  have ib:∀i,i<p->(ops.extract 0 p)[i]?=ops[i]?:=λi yG=>by
   rw[aeZ]
   have:i<min p ops.size-0:=zo
   rw[if_pos this,adW]
  have ES:=ib i yG;rw[ES]at hs
  cases ho:ops[i]? with
  |none=>rw[ho]at hs;exact ih _ _ a w hI hs
  |some o=>
   rw[ho]at hs ES
   have hw:Region.wanted o (yielded (ops.extract 0 p) a.tmps)=Region.wanted o (yielded ops a.tmps):=by
    have:=aet.1 hg o (aen ES);unfold Region.wanted
    cases ru:o.guard with
    |none=>rfl
    |some q=>
     obtain⟨j,b⟩:=q;rw[ru]at this;simp only[adr]at this;simp only[yielded,ib j this]
   simp only[hw]at hs;simp only;split
   .rename_i K7;rw[if_pos K7]at hs;exact af1 (λa w hq=>ih _ _ a w hI hq) (Ci hs)
   .rename_i K7;rw[if_neg K7]at hs;exact⟨hs.1,ih _ _ _ w hI hs.2⟩
end
def Nc (hm:P.follows .mixedOrders=true) {F:Fence} {id p:Nat} {ops:Array Oper} {a:Act} {w:World} (h:Hm ops p=true)
  (hh:wpAnyIn F m P .any (ops.extract 0 p) (Jm (wpOpsIn F m P ops Q (List.range' p (ops.size-p))) Q) p (Array.replicate p false) a { w with drawn:=w.drawn+1 }):(Code.region id ops true).wpIn F m P Q a w:=by
 simp only[Hm,adk,adr]at h;obtain⟨⟨⟨h1,h2⟩,h3⟩,h4⟩:=h;refine aeW hm ?_
 have:=LW (P:=P) (Q:=Q) (m:=m) h1 (λi o ho=>by
  have hi:=(adj.1 ho).1;have:=adw.1 h3 i (adQ.2 hi);rw[ho]at this;simp only[Option.map_some,Option.getD_some]at this;split
  .rename_i yG;rw[if_pos yG,adw]at this;intro e he hb
   have:=this e.on (by
    simp only[lH,adF,afy,agl]
    exact⟨e,⟨he,hb⟩,rfl⟩)
   simpa using this
  .rename_i yG;rw[if_neg yG]at this;intro j hj;have:=adw.1 this j (adQ.2 hj)
   simpa using this) (F:=F) h2 h4 p (Array.replicate p false) (Array.replicate ops.size false) a _ ⟨ahi,ahi,λi hi=>by
    rw[afq,afq,if_pos zo,if_pos hi],λi hi dv=>by rw[afq,if_pos dv],λi o ho hL=>by
    rw[adE,afq]at hL
    split at hL<;>cases hL⟩ hh
 rwa [show p+(ops.size-p)=ops.size by omega]at this
end
def RO{α:Type}(P:Program)(x:Sem α):Prop:=∀w r w',x.run P w=.ok r w'->w'=w
def NK{α:Type}(P:Program)(x:Sem α):Prop:=∀w r w',x.run P w≠.ok r w'
section
variable{P:Program}{α β:Type}
def RO.pure(a:α):RO P (Pure.pure a:Sem α):=λw r w' h=>by
 have:(Pure.pure a:Sem α).run P w=.ok a w:=rfl;rw[this]at h;cases h;rfl
def RO.bind{x:Sem α}{f:α->Sem β}(hx:RO P x)(hf:∀a,RO P (f a)):RO P (x >>= f):=λw r w' h=>by
 rw[adq]at h
 cases hr:x.run P w with
 |ok a w1=>
  rw[hr]at h;have h1:=hf a w1 r w' h;rw[h1,hx w a w1 hr]
 |halt e w1=>rw[hr]at h;cases h
def NK.ro{x:Sem α}(h:NK P x):RO P x:=λw r w' hh=>absurd hh (h w r w')
def NK.bind{x:Sem α}{f:α->Sem β}(hf:∀a,NK P (f a)):NK P (x >>= f):=λw r w' h=>by
 rw[adq]at h
 cases hr:x.run P w with
 |ok a w1=>rw[hr]at h;exact hf a w1 r w' h
 |halt e w1=>rw[hr]at h;cases h
def NK.Z6{x:Sem α}{f:α->Sem β}(hx:NK P x):NK P (x >>= f):=λw r w' h=>by
 rw[adq]at h
 cases hr:x.run P w with
 |ok a w1=>exact hx w a w1 hr
 |halt e w1=>rw[hr]at h;cases h
def NK.halt(e:Halt):NK P (.halt e:Sem α):=λw r w' h=>by cases h
def RO.load(m:Mode)(a:Addr):RO P (.load m a .pure):=λw r w' h=>by
 simp only[Sem.run]at h;split at h
 .cases h;rfl
 .split at h
  .cases h;rfl
  .cases h
def RO.underlying(t:TypeId):RO P (Go.underlying t):=λw r w' h=>by
 simp only[Go.underlying,program]at h;rw[adq]at h;simp only[Sem.run,Result.andThen]at h;split at h
 .cases h;rfl
 .cases h
def RO.typeInfo(t:TypeId):RO P (Go.typeInfo t):=λw r w' h=>by
 simp only[Go.typeInfo,program]at h;rw[adq]at h;simp only[Sem.run,Result.andThen]at h;split at h
 .cases h;rfl
 .cases h
def RO.sizeOf(t:TypeId):RO P (Go.sizeOf t):=(RO.typeInfo t).bind λ_=>RO.pure _
def RO.isAgg(t:TypeId):RO P (Go.isAgg t):=(RO.underlying t).bind λd=>by split<;>exact RO.pure _
def RO.loadCellsFrom(a:Addr):∀(n i:Nat)(acc:Array Value),RO P (Go.loadCellsFrom a i n acc)
 |0,_,_=>RO.pure _
 |n+1,i,acc=>(RO.load _ _).bind λ_=>RO.loadCellsFrom a n _ _
def RO.loadVar(t:TypeId)(a:Addr):RO P (Go.loadVar t a):=by
 unfold Go.loadVar
 refine(RO.isAgg t).bind λb=>?_
 cases b
 .exact RO.load _ _
 .exact(RO.sizeOf t).bind λn=>(RO.loadCellsFrom a n 0 #[]).bind λ_=>RO.pure _
def RO.sureAddr(v:Value):RO P (Instr.sureAddr v):=by
 unfold Instr.sureAddr;split
 .exact RO.pure _
 .exact(NK.halt _).ro
def RO.loadAt(t:TypeId)(v:Value):RO P (Instr.loadAt t v):=(RO.sureAddr v).bind λa=>RO.loadVar t a
def RO.asIntOf(v:Value):RO P (Go.asIntOf v):=by
 unfold Go.asIntOf;split
 .exact RO.pure _
 .exact(NK.halt _).ro
 .exact(NK.halt _).ro
def NK.bounds(k:IntKind)(x y:Int)(c:BoundsCode):NK P (boundsPanic k x y c:Sem α):=by
 have h:∀s:Bool,NK P (runtimePanic (.bounds (IntKind.i64.wrap x) y s c):Sem α):=λs=>NK.bind λp=>NK.halt _
 unfold boundsPanic;dsimp only;split
 .exact NK.bind h
 .exact NK.bind h
def RO.indexAt(t:TypeId)(x ix:Value):RO P (Instr.indexAt t x ix):=by
 have key:∀ (k:IntKind) (i:Int) (b:Option Addr) (len:Nat) (elem:TypeId),RO P (do
   let d<-Go.underlying t
   let abG:Bool:=decide (len<=1)&&(match d with|.array ..=>true|_=>false)
   match b with
   |some a=>
    if 0<=i/\i<(len:Int)then do
     let sz<-Go.sizeOf elem
     Pure.pure (Value.pointer (some (a.add (i.toNat*sz))))
    else if abG=true then unsupported (Unsupported.noEntry "op/indexAddr.an index out of range at an array of length 0 or 1 (ledger 616)")
    else boundsPanic k i len BoundsCode.index
   |none=>boundsPanic k i 0 BoundsCode.index):=by
  intro k i b len elem
  refine(RO.underlying t).bind λd=>?_
  cases b with
  |some a=>
   simp only;split
   .exact(RO.sizeOf _).bind λ_=>RO.pure _
   .generalize(decide (len<=1)&&_)=tn;cases tn
    .exact(NK.bounds _ _ _ _).ro
    .exact(NK.halt _).ro
  |none=>exact(NK.bounds _ _ _ _).ro
 unfold Instr.indexAt
 refine(RO.asIntOf ix).bind λ⟨k,i⟩=>?_
 refine(RO.underlying t).bind λd=>?_
 dsimp only;split
 .exact(RO.sureAddr _).bind λ_=>(RO.pure _).bind λ⟨base,len,elem⟩=>key k i base len elem
 .exact(RO.pure _).bind λ⟨base,len,elem⟩=>key k i base len elem
 .exact(NK.Z6 (NK.halt _)).ro
def ZL{ρ:Operand->Value}{o:Oper}(h:match o.op with|.move _|.assign _|.load ..|.indexAddr ..=>true|_=>false):RO P (execOp ρ o):=by
 unfold execOp
 split at h<;>try cases h
 .rename_i x e;simp only[e];exact RO.pure _
 .rename_i x e;simp only[e];exact RO.pure _
 .rename_i t x e;simp only[e];exact(RO.loadAt _ _).bind λ_=>RO.pure _
 .rename_i t x ix e;simp only[e];exact(RO.indexAt _ _ _).bind λ_=>RO.pure _
def qX{ρ:Operand->Value}{o:Oper}(h:match o.op with|.move _|.assign _|.load ..|.indexAddr ..=>true|_=>false){w w':World}{x:Next}(hr:(execOp ρ o).run P w=.ok x w'):w'=w/\∃v,x=.value v:=by
 refine⟨ZL h w x w' hr,?_⟩
 have key:∀(s:Sem Value),(do let v<-s;pure (Next.value v):Sem Next).run P w=.ok x w'->∃v,x=.value v:=λs hs=>by
  rw[adq]at hs
  cases hq:s.run P w with
  |ok a w1=>rw[hq]at hs;cases hs;exact⟨_,rfl⟩
  |halt e w1=>rw[hq]at hs;cases hs
 unfold execOp at hr
 split at h<;>try cases h
 .rename_i x e;simp only[e]at hr;cases hr;exact⟨_,rfl⟩
 .rename_i x e;simp only[e]at hr;cases hr;exact⟨_,rfl⟩
 .rename_i t x e;simp only[e]at hr;exact key _ hr
 .rename_i t x ix e;simp only[e]at hr;exact key _ hr
end
section
variable{P:Program}{ops ops':Array Oper}{Q:Exit->Act->World->Prop}{m:Nat}
structure Dj(ops ops':Array Oper):Prop where
 size:ops'.size=ops.size
 each:∀(i:Nat)(o:Oper),ops[i]?=some o->∃o',ops'[i]?=some o'/\o'.dst=o.dst/\o'.after=o.after/\o'.guard=none/\o.guard=none
def Dj.ready(h:Dj ops ops')(l:Array Bool):Region.ready .any ops' l=Region.ready .any ops l:=by
 unfold Region.ready;rw[h.size]
 refine List.filter_congr λi hi=>?_
 have hi:=adQ.1 hi;obtain⟨o',oV,_,ha,_⟩:=h.each i _ (adK hi);rw[oV,adK hi];simp only[Option.map_some,Option.getD_some,ha]
def EA (bn:Dj ops ops') (I:Array Bool→Act→World→Prop)
  (mb:∀(i:Nat)(o o':Oper)(l:Array Bool)(a:Act)(w:World),ops[i]?=some o->ops'[i]?=some o'->l.size=ops.size->l.getD i true=false->I l a w->(∀e∈o.after,Region.binds .any e=true->l.getD e.on false=true)->
   (o.semAt none a.eval).run P w=(o'.semAt none a.eval).run P w/\((∀a' w',I (l.setIfInBounds i true) a' w')\/
    ∀x w',(o.semAt none a.eval).run P w=.ok x w'->∃v,x=.value v/\I (l.setIfInBounds i true) (a.put o.dst v) w')):
  ∀(fuel:Nat)(l:Array Bool)(a:Act)(w:World),l.size=ops.size->I l a w->wpAnyIn (FR none) m P .any ops' Q fuel l a w->wpAnyIn (FR none) m P .any ops Q fuel l a w:=by
 intro fuel
 induction fuel with
 |zero=>
  intro l a w _ _ h;exact⟨(bn.ready l)▸h.1,h.2⟩
 |succ fuel ih=>
  intro l a w hl hI h;refine⟨λhr=>h.1 (by rw[bn.ready];exact hr),λi hi=>?_⟩;have h1:=h.2 i (by rw[bn.ready];exact hi);obtain⟨fq,o,ho,eF⟩:=afe.1 hi;obtain⟨o',oV,hd,ha,AF,hg⟩:=bn.each i o ho;obtain⟨he,hx⟩:=mb i o o' l a w ho oV hl fq hI eF
  have rV:(l.setIfInBounds i true).size=ops.size:=by simpa using hl
  have hw:Region.wanted o (yielded ops a.tmps)=true:=by simp[Region.wanted,hg]
  have K7:Region.wanted o' (yielded ops' a.tmps)=true:=by simp[Region.wanted,AF]
  simp only[wpOpIn,oV,K7,adS]at h1;simp only[wpOpIn,ho,hw,adS]
  have hu:∀K r,o'.uponIn (FR none) m P a K Q r=o.uponIn (FR none) m P a K Q r:=λK r=>by unfold Oper.uponIn;rw[hd]
  have h2:o.wpIn (FR none) m P a w (wpAnyIn (FR none) m P .any ops' Q fuel (l.setIfInBounds i true)) Q:=by
   refine⟨λ_ _=>trivial,?_⟩;have h3:=h1.2;rw[hu]at h3
   change o.uponIn (FR none) m P a _ Q ((o'.semAt none a.eval).run P w)at h3
   change o.uponIn (FR none) m P a _ Q ((o.semAt none a.eval).run P w)
   rw[he];exact h3
  rcases hx with hx|hx
  .exact af1 (λa' w' hh=>ih _ _ _ rV (hx a' w') hh) h2
  .refine⟨h2.1,?_⟩;have h3:=h2.2
   change o.uponIn (FR none) m P a _ Q ((o.semAt none a.eval).run P w)at h3
   change o.uponIn (FR none) m P a _ Q ((o.semAt none a.eval).run P w)
   cases hr:(o.semAt none a.eval).run P w with
   |ok x w'=>
    rw[hr]at h3;obtain⟨v,rfl,hv⟩:=hx x w' hr;simp only[Oper.uponIn_value]at h3⊢;exact ih _ _ _ rV hv h3
   |halt x w'=>
    rw[hr]at h3
    cases x<;>exact h3
def zm(h:Nat->Op->Op)(ops:Array Oper):Array Oper:=ops.mapIdx λi o=>{ o with op:=h i o.op }
def AT(h:Nat->Op->Op)(i:Nat):(zm h ops)[i]?=(ops[i]?).map λo=>{ o with op:=h i o.op }:=by
 simp[zm]
def II(h:Nat->Op->Op)(hg:ops.all (λo=>o.guard.isNone)=true):Dj ops (zm h ops):=by
 refine⟨by simp[zm],λi o ho=>⟨{ o with op:=h i o.op },by rw[AT,ho];rfl,rfl,rfl,?_,?_⟩⟩
 all_goals
  have:=aet.1 hg o (aen ho);simpa using this
end
section
variable{P:Program}{GI:World->Prop}{n:Nat}{ops ops':Array Oper}{S:an}{H:ao}
def SW.YL (hG:ar GI) (hm:P.follows .mixedOrders=true) {old:Old} {Q:eW} {id:Nat} (bn:Dj ops ops') (dL:ops'.all (fun o=>eH o.op)=true) (bX:Xa P n ops' ops'.size ops'.size (List.range ops'.size)=true)
  {l:List bH} (hl:bh P n true ops'=l)
  (hI:∀(w0:World)(g:Gh)(a:Act)(w:World),g.old=old->Rel P w0 n bL g S H a w->∃I:Array Bool->Act->World->Prop,I (Array.replicate ops.size false) a { w with drawn:=w.drawn+1 }/\
   ∀(i:Nat)(o o':Oper)(l:Array Bool)(a:Act)(w:World),ops[i]?=some o->ops'[i]?=some o'->l.size=ops.size->l.getD i true=false->I l a w->(∀e∈o.after,Region.binds .any e=true->l.getD e.on false=true)->
    (o.semAt none a.eval).run P w=(o'.semAt none a.eval).run P w/\((∀a' w',I (l.setIfInBounds i true) a' w')\/
     ∀x w',(o.semAt none a.eval).run P w=.ok x w'->∃v,x=.value v/\I (l.setIfInBounds i true) (a.put o.dst v) w'))
  (h:cU P GI l (λS H=>Q .normal old S H) S H):SW P GI n none (.region id ops true) Q old S H:=by
 subst hl;intro w0 g a w m cq ho R;simp only[Xa,adk,adr]at bX;obtain⟨⟨⟨⟨q1,q2⟩,q3⟩,q4⟩,q5⟩:=bX
 have iq:∀j o d z,jq P n ops' j=some o->bG o=some (d,z)->False:=λj o d z hj hz=>by
  rw[<-fx]at hj;have:=adw.1 q3 o (aer hj);unfold bG at hz;split at hz
  .rename_i h _;rw[h]at this;cases this
  .cases hz
 have R0:Rel P w0 n bL g S H a { w with drawn:=w.drawn+1 }:=R.jU ((aej _ w).drew)
 have hU:UU P n ops' (Array.replicate ops'.size false)=bL:=by
  funext t
  simp only[UU,bL,af0,iff_false];rintro⟨j,o,z,k1,k2,_⟩;exact iq j o t z k1 k2
 obtain⟨I,i0,mb⟩:=hI w0 g a w ho R;refine aeW hm (EA bn I mb ops.size _ a _ ahi i0 ?_);rw[<-bn.size];refine fK (Q:=QQ P w0 n old (Q.bD old)) (λ_ _ _ hq=>Ap hq) _ _ _ _ (vJ dL qd _ _ _ _ (Ht (Q:=Q.bD old) (old:=old) hG cq q2 (λo kv=>?_) ops'.size (Array.replicate ops'.size false) g S H a _ ahi ho (by rw[hU];exact R0) (λj o d z k1 k2 k3=>(iq j o d z k1 k2).elim) ?_))
 .simp only[bh,aeY,adw,Function.comp]at q1;exact q1 o (by simpa using kv)
 .have:=Dg (P:=P) (GI:=GI) (n:=n) (md:=.any) (ops:=ops') (QA:=Q.bD old .normal) (p:=ops'.size) (q:=ops'.size) (List.range ops'.size) (Array.replicate ops'.size false) S H q5 ?_
  .rw[q4]at this;exact this
  .have:=C9 (P:=P) (GI:=GI) (al:=bh P n true ops') (p:=ops'.size) (q:=ops'.size) (K:=Q.bD old .normal) (r:=[]) (List.range ops'.size) (bh P n true ops') (by
    apply aeH;intro k
    by_cases hk:k<ops'.size
    .simp[hk,bh]
    .simp[hk,bh]) (λk hk=>by have:=adQ.1 hk;omega) (S:=S) (H:=H) (vn (λS H h=>h) _ _ _ h)
   simpa using this
end
def Iy:AV->Value
 |.bool b=>.bool b
 |.int k n=>.int k n
 |_=>undef
def O8:AV->Bool
 |.bool _|.int _ _=>true
 |_=>false
def RD.yT{Pr:Nat->Nat->Prop}{w:World}{v:AV}{c:Value}(h:RD Pr w v c)(hv:O8 v=true):c=Iy v:=by
 cases h<;>first|rfl|cases hv
def RD.aaN{Pr:Nat->Nat->Prop}{w:World}{v:AV}(hv:O8 v=true):RD Pr w v (Iy v):=by
 cases v<;>first|exact .bool _|exact .int _ _|cases hv
def F7{v:AV}(hv:O8 v=true):v.one=true:=by cases v<;>first|rfl|cases hv
def om(es:List AV):List Value:=(es.flatMap AV.cells).map Iy
def j8(size:Nat)(es:List AV):Prop:=∀x∈es,x.storable=true/\x.cells.length=size/\∀c∈x.cells,O8 c=true
def j8.elems{size:Nat}{es:List AV}(h:j8 size es):aG size es=true:=nN.2 λv hv=>⟨(h v hv).1,(h v hv).2.1⟩
def F9{size:Nat}:∀{es:List AV},j8 size es->(es.flatMap AV.cells).length=es.length*size
 |[],_=>ahi
 |x::es,h=>by
  rw[aeD,adC,F9 λy hy=>h y (adu _ hy),(h x adx).2.1,List.length_cons,aeT];omega
def sC{size:Nat}{es:List AV}(h:j8 size es):(om es).length=es.length*size:=by
 rw[om,adn,F9 h]
def QC(es fs:List AV):om (es++fs)=om es++om fs:=by simp[om]
def flat_get{size:Nat}:∀{es:List AV},j8 size es->∀j (h:j<es.length) k (hk:k<(es[j]).cells.length),(es.flatMap AV.cells)[j*size+k]?=some (es[j]).cells[k]
 |[],_,_,h,_,_=>by simp at h
 |x::es,ho,0,h,k,hk=>by
  rw[aeD,ahw,adW];exact(aek hk).trans (adh hk)
 |x::es,ho,j+1,h,k,hk=>by
  have hx:=(ho x adx).2.1;rw[aeD,aex (by rw[hx,aeT];omega),hx,show(j+1)*size+k-size=j*size+k by rw[aeT];omega];exact flat_get (λy hy=>ho y (adu _ hy)) j (by simpa using h) k hk
def qc{size:Nat}{es:List AV}(ho:j8 size es){j:Nat}(h:j<es.length){k:Nat}(hk:k<(es[j]).cells.length):(om es)[j*size+k]?=some (Iy (es[j]).cells[k]):=by
 rw[om,adO,flat_get ho j h k hk];rfl
def j8.flat{size:Nat}{es:List AV}(ho:j8 size es)(Pr:Nat->Nat->Prop)(w:World):jn Pr w size es (om es):=
 ⟨λx hx=>⟨(ho x hx).2.1,(ho x hx).1,λc hc=>F7 ((ho x hx).2.2 c hc)⟩,λj h k hk=>⟨_,qc ho h hk,RD.aaN ((ho _ (adi h)).2.2 _ (adi hk))⟩⟩
def j8.app{size:Nat}{es fs:List AV}(h:j8 size es)(h':j8 size fs):j8 size (es++fs):=λx hx=>by
 rcases adm.1 hx with hx|hx
 .exact h x hx
 .exact h' x hx
structure KO(cc:Nat->Nat->Prop)(e:TypeId)(size:Nat)(es:List AV)(o:Old)(v:Value):Prop where
 c:o.c=cc
 ds:o.ds=[]
 bx:∀d,¬o.bx d
 ok:j8 size es
 row:((∃a0,v=.slice a0 0 0)/\es=[])\/∃b cap cur,v=.slice (some ⟨b,0,none⟩) es.length cap/\o.aV b=some (.cells cur e (0,0))/\es.length<=cap/\cap<=maxLen/\cur.size=cap*size/\cur.toList.take (es.length*size)=om es
section
variable{P:Program}{GI:World->Prop}{w0:World}{n:Nat}{g:Gh}{S:an}{H:ao}{a:Act}{w:World}{cc:Nat->Nat->Prop}{e:TypeId}{size:Nat}{es:List AV}{v:Value}
def Rel.U8 (R:Rel P w0 n bL g S H a w) {b:Nat} (hf:wU g b) {o:Obj} (ho:w.heap[b]? = some o) :
  Rel P w0 n bL { g with old:={ g.old with aV:=au g.old.aV b (some o) } } S H a w:=by
 refine{ size:=R.size,defers:=R.defers,facts:=R.facts,slot:=R.slot,own:=λt ht hu=>(R.own t ht hu).aV rfl λb hb=>⟨rfl,rfl,hb⟩,box:=?_,jQ:=R.jQ,jX:=R.jX,inj:=R.inj,base:=R.base,below:=R.below,fresh:=R.fresh,still:=R.still,grown:=R.grown,kept:=?_ }
 .intro i c hi;obtain⟨cs,vs,ty,h1,h2,h3,h4,h5,h6,h7,h8,h9⟩:=R.box i c hi;exact⟨cs,vs,ty,h1,h2,h3,h4,h5,h6,h7,λj hj dU=>(h8 j hj dU).aV rfl λb hb=>⟨rfl,rfl,hb⟩,h9⟩
 .intro c ob h
  by_cases mm:c=b
  .subst mm
   have:ob=o:=by simpa[au]using h.symm
   subst this;exact⟨hf.1,ho,hf.2.1,hf.2.2.1,hf.2.2.2⟩
  .exact R.kept c ob (by simpa[au,mm]using h)
def Rel.Qs (R:Rel P w0 n bL g S H a w) {b:Nat} {o:Obj} (hk:g.old.aV b=some o) :
  Rel P w0 n bL { g with old:={ g.old with aV:=au g.old.aV b none } } S H a w/\wU { g with old:={ g.old with aV:=au g.old.aV b none } } b/\w.heap[b]?=some o:=by
 obtain⟨k1,k2,k3,k4,k5⟩:=R.kept b o hk;refine⟨?_,⟨k1,k3,k4,k5⟩,k2⟩;refine{ size:=R.size,defers:=R.defers,facts:=R.facts,slot:=R.slot,own:=λt ht hu=>(R.own t ht hu).aV rfl λb hb=>⟨rfl,rfl,hb⟩,box:=?_,jQ:=R.jQ,jX:=R.jX,inj:=R.inj,base:=R.base,below:=R.below,fresh:=R.fresh,still:=R.still,grown:=R.grown,kept:=?_ }
 .intro i c hi;obtain⟨cs,vs,ty,h1,h2,h3,h4,h5,h6,h7,h8,h9⟩:=R.box i c hi;exact⟨cs,vs,ty,h1,h2,h3,h4,h5,h6,h7,λj hj dU=>(h8 j hj dU).aV rfl λb hb=>⟨rfl,rfl,hb⟩,h9⟩
 .intro c ob h
  have hc:c≠b:=by rintro rfl;simp[au]at h
  exact R.kept c ob (by simpa[au,hc]using h)
def Rel.DX (R:Rel P w0 n bL g S H a w) (hp:g.old.c=cc∧g.old.ds=[]∧∀ d,¬ g.old.bx d) {w':World} (hb:Below w.heap.size w w') (bX:j8 size es) (cV:w'.ownsRow w.heap.size e size v es.length (om es)) :
  ∃g',Rel P w0 n bL g' S H a w'/\KO cc e size es g'.old v:=by
 rcases cV.2 with⟨rfl,h0⟩|⟨b,cap,cur,rfl,lS,hg,h1,h2,h3,h4⟩
 .exact⟨g,R.jU hb,hp.1,hp.2.1,hp.2.2,bX,.inl ⟨⟨_,rfl⟩,ad1 h0⟩⟩
 .exact⟨_,R.OT hb lS hg,hp.1,hp.2.1,hp.2.2,bX,.inr ⟨b,cap,cur,rfl,aO _ _ _,h1,h2,h3,h4⟩⟩
def KO.append (R:Rel P w0 n bL g S H a w) {i:TypeInfo} (hK:KO cc e i.size es g.old v) {o:Oper} {cl:Call} {t:TypeId} {z:Value} {x1 x2:Operand} (ho:o.op = .call cl) (kJ:cl.callee = .builtin .append) (BS:cl.args = #[x1,x2]) (Cq:cl.argTypes = #[t,t])
  (fq:P.underlying t=some (.slice e)) (hi:P.info? e=some i) (hz:i.zero=some z) (pT:z.cells.size=i.size) (HD:i.bytes<=65536) (hv:a.eval x1=v) {y2:cT} (mC:du n x2=some y2) {oo:Ow} {x:AV} (hS:ev S y2=.slice oo [x]) (hx:j8 i.size [x]) (hlen:es.length+1<=2097152):
  ∃v' w' g',(execOp a.eval o).run P w=.ok (.value v') w'/\Rel P w0 n bL g' S H a w'/\KO cc e i.size (es++[x]) g'.old v':=by
 have hle:g.base<=w.heap.size:=by rw[R.base];exact R.below.size
 have fc:=R.ev mC (λ_ _=>id);rw[hS]at fc
 have run:∀v' w',(Builtin.append_ #[t,t] o.type #[v,a.eval x2]).run P w=.ok v' w'->(execOp a.eval o).run P w=.ok (.value v') w':=by
  intro v' w' h;rw[<-hv]at h;unfold execOp;simp[ho,kJ,BS,Cq,resolve,invoke,builtin,h]
 have bytes:∀m,m<=2097152->m*i.bytes<=140737488355328:=λm hm=>aeo (agt hm HD) zd
 rcases(fc.dW rfl).nj i.size hx.elems with⟨h0,_⟩|⟨b,off,cap,news,jB,hl,hn,h1,hr⟩
 .cases h0
 have sR:news=om [x]:=by
  apply aeH;intro j
  by_cases hj:j<i.size
  .have EE:([x][0]).cells.length=i.size:=(hx x ahi).2.1;obtain⟨u,u1,u2⟩:=hr 0 ahi j (by rw[EE];exact hj);have e1:=qc hx (j:=0) ahi (k:=j) (by rw[EE];exact hj);rw[ahw,adW]at u1 e1;rw[u1,e1,u2.yT ((hx x ahi).2.2 _ (adi _))]
  .rw[adI (by rw[hl];simp;omega),adI (by rw[sC hx];simp;omega)]
 have Er:j8 i.size (es++[x]):=hK.ok.app hx
 have xG:(es++[x]).length=es.length+1:=ahi
 rcases hK.row with⟨⟨a0,rfl⟩,rfl⟩|⟨bk,aav,cur,hvk,hk,q1,q2,q3,q4⟩
 .obtain⟨v',w',r1,r2,r3,r4,r5⟩:=tP (P:=P) (w:=w) w.heap.size t o.type e i z fq hi hz pT a0 ⟨b,off,none⟩ 1 cap news (by rw[hl];rfl) (λj u hu=>by rw[aei];exact hn j u hu) zo zo (bytes _ zo) (adl _);rw[sR]at r2;obtain⟨g',R',Zj⟩:=R.DX (es:=[x]) ⟨hK.c,hK.ds,hK.bx⟩ ⟨r4.os,r4.tape,r4.output,r4.size,λk hk=>r4.block k hk ahi⟩ hx r2;exact⟨v',w',g',run _ _ (by rw[jB];exact r1),R',Zj⟩
 .have cP:es≠[]\/es=[]:=(Decidable.em _).symm;obtain⟨k1,k2,k3,k4,k5⟩:=R.kept bk _ hk
  have cV:w.ownsRow g.base e i.size v es.length (om es):=⟨sC hK.ok,.inr ⟨bk,aav,cur,hvk,k1,k2,q1,q2,q3,q4⟩⟩
  obtain⟨v',w',b',r1,r2,r3,r4⟩:=rQ (P:=P) (w:=w) g.base t o.type e i z fq hi hz pT v es.length (om es) bk cV (by rw[hvk];rfl) ⟨b,off,none⟩ 1 cap news (by rw[hl];rfl) (λj u hu=>by rw[aei];exact hn j u hu) h1 hlen (bytes _ hlen) hle;rw[sR,<-QC]at r2
  have pt:∃Dc FY,v'=.slice (some ⟨b',0,none⟩) (es++[x]).length Dc/\w'.heap[b']?=some (.cells FY e (0,0))/\(es++[x]).length<=Dc/\Dc<=maxLen/\FY.size=Dc*i.size/\FY.toList.take ((es++[x]).length*i.size)=om (es++[x]):=by
   rcases r2.2 with⟨_,h0⟩|⟨gg,cp,cu,rfl,_,m1,m2,m3,m4,m5⟩
   .omega
   .have:gg=b':=by simpa[Value.ownBlock]using r3
    subst this;rw[xG];exact⟨cp,cu,rfl,m1,m2,m3,m4,m5⟩
  obtain⟨Dc,FY,pE,im,m2,m3,m4,m5⟩:=pt
  rcases r4 with⟨rfl,iD⟩|⟨rfl,iD,bj⟩
  .obtain⟨R1,hf,_⟩:=R.Qs hk;have R2:=R1.dQ (M:=λc=>c=b') (w':=w') ⟨iD.os,iD.tape,iD.output,iD.size,λk hk hm=>iD.block k hk (by simpa using hm)⟩ (λc hc=>by subst hc;exact hf) (λc hc=>by subst hc;exact aO _ _ _);have R3:=R2.U8 hf im;exact⟨v',w',_,run _ _ (by rw[jB];exact r1),R3,hK.c,hK.ds,hK.bx,Er,.inr ⟨b',Dc,FY,pE,aO _ _ _,m2,m3,m4,m5⟩⟩
  .have R2:=R.OT (w':=w') ⟨iD.os,iD.tape,iD.output,iD.size,λk hk=>iD.block k hk ahi⟩ (adl _) im;exact⟨v',w',_,run _ _ (by rw[jB];exact r1),R2,hK.c,hK.ds,hK.bx,Er,.inr ⟨w.heap.size,Dc,FY,pE,aO _ _ _,m2,m3,m4,m5⟩⟩
def KO.cell (hK:KO cc e size es g.old v) (R:Rel P w0 n bL g S H a w) {j:Nat} (hj:j < es.length) :
  ∃b cap cur,v=.slice (some ⟨b,0,none⟩) es.length cap/\g.old.aV b=some (.cells cur e (0,0))/\w.heap[b]?=some (.cells cur e (0,0))/\∀k (hk:k<(es[j]).cells.length),j*size+k<cur.size/\cur[j*size+k]?=some (Iy (es[j]).cells[k]):=by
 rcases hK.row with⟨_,rfl⟩|⟨b,cap,cur,hv,hk,h1,h2,h3,h4⟩
 .simp at hj
 refine⟨b,cap,cur,hv,hk,(R.kept b _ hk).2.1,λk CN=>?_⟩;have hg:=qc hK.ok hj CN;rw[<-h4,afT]at hg;split at hg
 .have nH:cur[j*size+k]?=some (Iy (es[j]).cells[k]):=by rw[<-hg,aev]
  exact⟨(adj.1 nH).1,nH⟩
 .cases hg
def KO.set (hK:KO cc e size es g.old v) {j k:Nat} (hj:j < es.length) (hk:k < (es[j]).cells.length) {x:AV} (hx:j8 size [x]) {u:AV} (hu:x.cells=(es[j]).cells.set k u) {b cap:Nat} {cur Dl:Array Value} (hv:v = .slice (some ⟨b,0,none⟩) es.length cap) (zX:g.old.aV b=some (.cells cur e (0,0)))
  (bj:Dl.size=cur.size) (hc:∀m,Dl.getD m undef=if m=j*size+k then Iy u else cur.getD m undef):KO cc e size (es.set j x) { g.old with aV:=au g.old.aV b (some (.cells Dl e (0,0))) } v:=by
 have bX:j8 size (es.set j x):=λy hy=>by
  rcases agH hy with h|h
  .exact hK.ok y h
  .subst h;exact hx y ahi
 refine⟨hK.c,hK.ds,hK.bx,bX,.inr ⟨b,cap,Dl,by rw[aff];exact hv,aO _ _ _,?_⟩⟩;rw[aff]
 rcases hK.row with⟨_,rfl⟩|⟨b2,ac_,ada,fc,kB,h1,h2,h3,h4⟩
 .simp at hj
 rw[hv]at fc;cases fc;rw[zX]at kB;cases kB;refine⟨h1,h2,by rw[bj];exact h3,?_⟩
 have hle:es.length*size<=cur.size:=by rw[h3];exact aeF _ h1
 apply aeH;intro m
 by_cases hm:m<es.length*size
 case neg=>rw[adI (by rw[adA];omega),adI (by rw[sC bX,aff];omega)]
 have Vp:0<size:=by
  rcases afc size with h|h
  .rw[h,Nat.mul_zero]at hm;omega
  .exact h
 obtain⟨q,r,hr,rfl⟩:∃q r,r<size/\m=q*size+r:=⟨m/size,m % size,afK _ Vp,by rw[ae6];exact(age m size).symm⟩
 have hq:q<es.length:=by
  rcases aeI q es.length with h|h
  .exact h
  .have:=aeF size h;omega
 have NY:q<(es.set j x).length:=by rw[aff];exact hq
 have hlen:((es.set j x)[q]).cells.length=size:=(bX _ (adi NY)).2.1;rw[qc bX NY (by rw[hlen];exact hr),afT,if_pos hm,aev];have wj:=hc (q*size+r)
 have mj:q*size+r<Dl.size:=by rw[bj];omega
 have WX:q*size+r<cur.size:=zo
 rw[adE,adK mj,Option.getD_some,adE,adK WX,Option.getD_some]at wj;rw[adK mj,wj]
 have hold:cur[q*size+r]?=some (Iy ((es[q]).cells[r]'(by rw[(hK.ok _ (adi hq)).2.1];exact hr))):=by
  have hg:=qc hK.ok hq (k:=r) (by rw[(hK.ok _ (adi hq)).2.1];exact hr);rw[<-h4,afT,if_pos hm,aev]at hg;exact hg
 rw[adK WX]at hold;have hold:=adM hold
 by_cases hqj:q=j
 .subst hqj
  have Qk:(es.set q x)[q]=x:=ahi
  by_cases hrk:r=k
  .subst hrk;rw[if_pos rfl];simp only[Qk,hu,ag6]
  .rw[if_neg zo];simp only[Qk,hu];rw[ahk zo,hold]
 .have Qk:(es.set j x)[q]=es[q]:=ahk zo _;rw[if_neg,hold]
  .simp only[Qk]
  .intro h
   have cE:k<size:=by rw[<-(hK.ok _ (adi hj)).2.1];exact hk
   apply hqj;have:=congrArg (·/size) h;simp only[ae6 _ size,Nat.mul_add_div Vp,agM hr,agM cE]at this;simpa using this
def F1{a:Act}{t:Nat}{c:Value}(ht:t<a.tmps.size)(h:a.tmps.getD t undef=c):a.put (some t) c=a:=by
 cases a;simp only[Act.put,Act.mk.injEq,agP]at h ht⊢;apply aeP
 .simp
 .intro i h1 h2;rw[Array.getElem_setIfInBounds];split
  .rename_i hi;subst hi;rw[<-h];simp[adE,h2]
  .rfl
def KO.done (hK:KO cc e size es g.old v) (R:Rel P w0 n bL g S H a w) {t:Nat} (ht:t < n) (hS:S t = .val v) :
  ∃g',Rel P w0 n bL g' (au S t (.slice .view es)) H a w/\g'.old.c=cc/\g'.old.ds=[]/\∀d,¬g'.old.bx d:=by
 have hv:a.tmps.getD t undef=v:=by
  have:=R.slot t ht id;rw[hS]at this;exact this.jo
 have De:∀{c},a.tmps.getD t undef=c->a.put (some t) c=a:=λh=>F1 (by rw[R.size];exact ht) h
 rcases hK.row with⟨⟨a0,rfl⟩,rfl⟩|⟨b,cap,cur,fc,hk,h1,h2,h3,h4⟩
 .have dh:RD g.Pr w (.slice .view []) (.slice a0 0 0):=by
   cases a0 with
   |none=>exact .iB _
   |some b=>exact .jx _ _
  have R2:=R.put t (.slice .view []) _ ht (.data _ _ dh) trivial;rw[De hv]at R2;exact⟨g,R2,hK.c,hK.ds,hK.bx⟩
 .obtain⟨k1,k2,_⟩:=R.kept b _ hk;obtain⟨g',q1,q2,R1,q3,q4⟩:=R.hand hk (es.length*size)
  have dh:RD g'.Pr w (.slice .view es) v:=by
   refine RD.ofRow (base:=g.base) ⟨sC hK.ok,.inr ⟨b,cap,cur,fc,k1,k2,h1,h2,h3,h4⟩⟩ (hK.ok.flat _ _) λb' im k CN=>?_
   have:b=b':=by rw[fc]at im;simpa[Value.ownBlock]using im
   subst this;exact q4 k CN
  have R2:=R1.put t (.slice .view es) v ht (.data _ _ dh) trivial;rw[De hv]at R2;exact⟨g',R2,by rw[q1];exact hK.c,by rw[q1];exact hK.ds,by rw[q1];exact hK.bx⟩
def KO.start(R:Rel P w0 n bL g S H a w)(hp:g.old.c=cc/\g.old.ds=[]/\∀d,¬g.old.bx d){t:Nat}(ht:t<n)(hS:S t=.slice .nil []):∃v,Rel P w0 n bL g (au S t (.val v)) H a w/\KO cc e size [] g.old v:=by
 obtain⟨ad,hc⟩:∃ad,a.tmps.getD t undef=.slice ad 0 0:=by
  have hq:=R.slot t ht id;rw[hS]at hq;have hq:=hq.dW rfl;generalize a.tmps.getD t undef=c at hq
  cases hq with
  |iB=>exact⟨_,rfl⟩
  |jx=>exact⟨_,rfl⟩
  |slice _ _ b off cap size cs fh uv=>rw[uv rfl];exact⟨_,rfl⟩
 have R2:=R.put t (.val (.slice ad 0 0)) (.slice ad 0 0) ht (.data _ _ (.val _ rfl)) trivial;rw[F1 (by rw[R.size];exact ht) hc]at R2;exact⟨_,R2,hp.1,hp.2.1,hp.2.2,(λx hx=>by cases hx),.inl ⟨⟨_,rfl⟩,rfl⟩⟩
end
section
variable{P:Program}{GI:World->Prop}{w0:World}{n:Nat}{g:Gh}{S:an}{H:ao}{a:Act}{w:World}{cc:Nat->Nat->Prop}{e:TypeId}{size:Nat}{es:List AV}{v:Value}
def Rel.Po (R:Rel P w0 n bL g S H a w) {t u:Nat} (ht:t < n) (hu:u < n) (cP:t≠u) (hS:S t = .slice (.own e) es) (hv:a.tmps.getD u undef=a.tmps.getD t undef) :
  ∃g',g'.old=g.old/\Rel P w0 n bL g' (au (au S t (.slice .view es)) u (.slice (.own e) es)) H a w:=by
 let g':Gh:={ g with owner:=λb=>if g.owner b=some (.slot t)then some (.slot u)else if g.owner b=some (.slot u)then none else g.owner b }
 have qo:g'.Pr=g.Pr:=rfl
 have cV:∀b loc,loc≠.slot t->loc≠.slot u->g.owner b=some loc->g'.owner b=some loc:=by
  intro b loc h1 h2 h;show(if g.owner b=some (.slot t)then _ else if g.owner b=some (.slot u)then none else g.owner b)=_;rw[h,if_neg (by simpa using h1),if_neg (by simpa using h2)]
 have D0:∀b,g.owner b=none->g'.owner b=none:=by
  intro b h;show(if g.owner b=some (.slot t)then _ else if g.owner b=some (.slot u)then none else g.owner b)=_;rw[h];simp
 have Tp:∀{loc:Loc}{v:AV}{c:Value},loc≠.slot t->loc≠.slot u->eK P w g loc v c->eK P w g' loc v c:=λh1 h2 h=>h.aV rfl λb hb=>⟨rfl,rfl,cV b _ h1 h2 hb⟩
 have eL:=R.slot t ht id;have hot:=R.own t ht id;rw[hS]at eL hot;refine⟨g',rfl,{ size:=R.size,defers:=R.defers,facts:=R.facts,slot:=?_,own:=?_,box:=?_,jQ:=R.jQ,jX:=R.jX,inj:=R.inj,base:=R.base,below:=R.below,fresh:=λb hb=>⟨(R.fresh b hb).1,D0 b (R.fresh b hb).2⟩,still:=R.still,grown:=R.grown,kept:=λb o h=>let⟨k1,k2,k3,k4,k5⟩:=R.kept b o h;⟨k1,k2,k3,D0 b k4,k5⟩ }⟩
 .intro x hx _;show RV g.Pr g.al w _ _
  by_cases QB:x=u
  .subst QB;rw[aO,hv];exact eL
  .rw[aQ _ _ QB]
   by_cases P9:x=t
   .subst P9;rw[aO];exact .data _ _ (eL.dW rfl).aJ
   .rw[aQ _ _ P9];exact R.slot x hx id
 .intro x hx _
  by_cases QB:x=u
  .subst QB;rw[aO,hv];obtain⟨i,xs,b,k1,k2,k3,k4,k5⟩:=hot;refine⟨i,xs,b,k1,k2,k3,?_,k5⟩;show(if g.owner b=some (.slot t)then _ else _)=_;rw[if_pos k4]
  .rw[aQ _ _ QB]
   by_cases P9:x=t
   .subst P9;rw[aO];trivial
   .rw[aQ _ _ P9];exact Tp (by simpa using P9) (by simpa using QB) (R.own x hx id)
 .intro i b hi;obtain⟨cs,vs,ty,h1,h2,h3,h4,h5,h6,h7,h8,h9⟩:=R.box i b hi;exact⟨cs,vs,ty,h1,h2,h3,h4,D0 b h5,h6,h7,λj hj dU=>Tp ahi ahi (h8 j hj dU),h9⟩
def EB (R:Rel P w0 n bL g S H a w) (hp:g.old.c=cc∧g.old.ds=[]∧∀ d,¬ g.old.bx d) {i:TypeInfo} (hi:P.info? e=some i) {old:Nat→Nat→Prop} {en:Ending} {w':World} (bX:j8 i.size es) (h:Ends P old w (.ret (.slice (.own e) es)) en w') :
  ∃v g',en=.returned v/\Rel P w0 n bL g' S H a w'/\KO cc e i.size es g'.old v:=by
 obtain⟨hb,dv,_,c,rfl,hv,i',xs,b,k1,k2,k3,_⟩:=h;rw[hi]at k1;cases k1
 have hf:=jn.Ot (hv.dW rfl) k2 (λx hx=>⟨(bX x hx).2.1,(bX x hx).1,λc hc=>F7 ((bX x hx).2.2 c hc)⟩) (λx hx c hc=>by
  have:=(bX x hx).2.2 c hc
  cases c<;>first|rfl|cases this)
 have qK:xs=om es:=by
  apply aeH;intro m
  by_cases hm:m<es.length*i.size
  case neg=>rw[adI (by rw[k2.1];omega),adI (by rw[sC bX];omega)]
  have Vp:0<i.size:=by
   rcases afc i.size with h|h
   .rw[h,Nat.mul_zero]at hm;omega
   .exact h
  obtain⟨q,r,hr,rfl⟩:∃q r,r<i.size/\m=q*i.size+r:=⟨m/i.size,m % i.size,afK _ Vp,by rw[ae6];exact(age m i.size).symm⟩
  have hq:q<es.length:=by
   rcases aeI q es.length with h|h
   .exact h
   .have:=aeF i.size h;omega
  have hl:=(bX _ (adi hq)).2.1;obtain⟨u,u1,u2⟩:=hf.2 q hq r (by rw[hl];exact hr);rw[u1,qc bX hq (by rw[hl];exact hr),u2.yT ((bX _ (adi hq)).2.2 _ (adi _))]
 rw[qK]at k2;obtain⟨g',R',hK⟩:=R.DX hp hb bX k2;exact⟨c,g',rfl,R',hK⟩
end
section
variable{P:Program}{w0:World}{n:Nat}{g:Gh}{S:an}{H:ao}{a:Act}{w:World}{cc:Nat->Nat->Prop}{e:TypeId}
def KO.make(R:Rel P w0 n bL g S H a w)(hp:g.old.c=cc/\g.old.ds=[]/\∀d,¬g.old.bx d){m:Nat}(hm:m<=1000):∃g',Rel P w0 n bL g' S H a (w.alloc (.cells (madeCells #[.int .i64 0] m) e))/\KO cc e 1 (List.replicate m (.int .i64 0)) g'.old (.slice (some ⟨w.heap.size,0,none⟩) m m):=by
 refine R.DX hp (Below.alloc (aej _ _) (adl _) _) (λx hx=>?_) ⟨?_,.inr ⟨w.heap.size,m,madeCells #[.int .i64 0] m,ahi,adl _,(by show(w.heap.push _)[w.heap.size]?=_;simp),ahi,by simp[maxLen];omega,by simp[size_madeCells],?_⟩⟩
 .rw[List.mem_replicate]at hx;rw[hx.2];exact⟨rfl,rfl,λc hc=>by simp[AV.cells]at hc;subst hc;rfl⟩
 .simp[om,AV.cells]
 .have hc:(madeCells #[Value.int .i64 0] m).toList=List.replicate m (.int .i64 0):=by
   apply af_
   .simp[size_madeCells]
   .intro j h1 h2;simp[madeCells,Nat.mod_one]
  have hr:∀k,om (List.replicate k (AV.int .i64 0))=List.replicate k (.int .i64 0):=by
   intro k
   induction k with
   |zero=>rfl
   |succ k ih=>rw[List.replicate_succ,List.replicate_succ,<-ih];rfl
  rw[hc,hr,List.length_replicate,ae4,ado ahi]
end
def LB {P:Program} {w:World} {base:Nat} {t ty e:TypeId} {i:TypeInfo} {z:Value} (ht:P.underlying t=some (.slice e)) (hi:P.info? e=some i) (hz:i.zero=some z) (pT:z.cells.size=i.size) (hs:i.size=1) (HD:i.bytes≤65536)
  {u:Value} {n:Nat} {xs:List Value} (cV:w.ownsRow base e 1 u n xs) (hlen:n+1<=2097152) (gy:base<=w.heap.size) {ad:Addr} {cap:Nat} {c:Value} (hc:w.cell? ad=some c) (h1:c.oneCell'=true):
  ∃u' w' b',(Builtin.append_ #[t,t] ty #[u,.slice (some ad) 1 cap]).run P w=.ok u' w'/\w'.ownsRow base e 1 u' (n+1) (xs++[c])/\u'.ownBlock=some b'/\l7 (λb=>u.ownBlock=some b) w w'/\(u.ownBlock=some b'\/w.heap.size<=b'):=by
 have bytes:∀m,m<=2097152->m*i.bytes<=140737488355328:=λm hm=>aeo (agt hm HD) zd
 have hn1:∀j x,[c][j]?=some x->w.cell? (ad.add j)=some x:=λj x hx=>by
  match j,hx with
  |0,hx=>cases hx;rw[show ad.add 0=ad by simp[Addr.add]];exact hc
 have AD:∀x∈[c],x.oneCell'=true:=λx hx=>by simp at hx;subst hx;exact h1
 rcases cV.2 with⟨hu,hn⟩|⟨g,acX,cur,hv,rR,hg,rest⟩
 .subst hn;have hx:xs=[]:=ad1 (by have:=cV.1;simpa using this);subst hx;obtain⟨v',w',r1,r2,r3,r4,r5⟩:=tP (P:=P) (w:=w) base t ty e i z ht hi hz pT none ad 1 cap [c] (by rw[hs];rfl) hn1 zo zo (bytes _ zo) gy;rw[hs]at r2;rw[hu];exact⟨v',w',_,r1,by simpa using r2,r3,⟨r4.os,r4.tape,r4.output,r4.size,λk hk _=>r4.block k hk ahi⟩,.inr (adl _)⟩
 .have Jd:u.ownBlock=some g:=by rw[hv];rfl
  obtain⟨v',w',b',r1,r2,r3,r4⟩:=rQ (P:=P) (w:=w) base t ty e i z ht hi hz pT u n xs g (by rw[hs];exact cV) Jd ad 1 cap [c] (by rw[hs];rfl) hn1 AD hlen (bytes _ hlen) gy;rw[hs]at r2
  rcases r4 with⟨rfl,iD⟩|⟨rfl,iD,bj⟩
  .exact⟨v',w',_,r1,r2,r3,⟨iD.os,iD.tape,iD.output,iD.size,λk hk hm=>iD.block k hk (λe=>hm (by rw[Jd];exact e.symm))⟩,.inl Jd⟩
  .exact⟨v',w',_,r1,r2,r3,⟨iD.os,iD.tape,iD.output,iD.size,λk hk _=>iD.block k hk ahi⟩,.inr (adl _)⟩
section
variable{P:Program}{ro:Option Nat}{m:Nat}{Q:Exit->Act->World->Prop}{a:Act}{w:World}{K:Act->World->Prop}
def y_ {ops:Array Oper} {i:Nat} {o:Oper} (ho:ops[i]? = some o) (hg:o.guard=none) (dL:eH o.op=true) {v:Value} {w':World}
  (hr:(execOp a.eval o).run P w=.ok (.value v) w') (hk:K (a.put o.dst v) w'):wpOpIn (FR ro) m P ops Q i K a w:=by
 simp only[wpOpIn,ho]
 have:Region.wanted o (yielded ops a.tmps)=true:=by simp[Region.wanted,hg]
 rw[if_pos this];refine⟨λ_ _=>trivial,?_⟩;rw[aeM _ _ _ (λc hc=>by rw[hc]at dL;cases dL),hr];exact hk
def PA {ops:Array Oper} {i:Nat} {o:Oper} (ho:ops[i]? = some o) (hg:o.guard=none) (dL:eH o.op=true) {w':World}
  (hr:(execOp a.eval o).run P w=.ok .skip w') (hk:K (a.put o.dst undef) w'):wpOpIn (FR ro) m P ops Q i K a w:=by
 simp only[wpOpIn,ho]
 have:Region.wanted o (yielded ops a.tmps)=true:=by simp[Region.wanted,hg]
 rw[if_pos this];refine⟨λ_ _=>trivial,?_⟩;rw[aeM _ _ _ (λc hc=>by rw[hc]at dL;cases dL),hr];exact hk
def Qb {ops:Array Oper} {i:Nat} {o:Oper} (ho:ops[i]? = some o) (hg:o.guard=none) (dL:eH o.op=true) {f:Nat} {args:Array Value} {w':World}
  (hr:(execOp a.eval o).run P w=.ok (.enter f args) w') {R:Ending->World->Prop} (hc:Calls P f args w' R) (hk:∀e ju,R e ju->∃v,e=.returned v/\K (a.put o.dst v) ju):wpOpIn (FR ro) m P ops Q i K a w:=by
 simp only[wpOpIn,ho]
 have:Region.wanted o (yielded ops a.tmps)=true:=by simp[Region.wanted,hg]
 rw[if_pos this];refine⟨λ_ _=>trivial,?_⟩;rw[aeM _ _ _ (λc hc=>by rw[hc]at dL;cases dL),hr];refine⟨λh=>by simp[FR,Fence.wide]at h,iU.2 (hc.mono λe ju hh=>?_)⟩;obtain⟨v,rfl,h⟩:=hk e ju hh;exact h
def rZ{F:Fence}{ops:Array Oper}{l:Array Bool}{i fuel:Nat}(hr:Region.ready .any ops l=[i])(h:wpOpIn F m P ops Q i (wpAnyIn F m P .any ops Q fuel (l.setIfInBounds i true)) a w):wpAnyIn F m P .any ops Q (fuel+1) l a w:=by
 refine⟨λh=>(by rw[hr]at h;cases h),λj hj=>?_⟩;rw[hr]at hj
 obtain rfl:j=i:=by simpa using hj
 exact h
def C0{F:Fence}{ops:Array Oper}{l:Array Bool}{i j fuel:Nat}(hr:Region.ready .any ops l=[i,j])(h:wpOpIn F m P ops Q i (wpAnyIn F m P .any ops Q fuel (l.setIfInBounds i true)) a w)(h':wpOpIn F m P ops Q j (wpAnyIn F m P .any ops Q fuel (l.setIfInBounds j true)) a w):wpAnyIn F m P .any ops Q (fuel+1) l a w:=by
 refine⟨λh=>(by rw[hr]at h;cases h),λk hk=>?_⟩;rw[hr]at hk;rcases adT.1 hk with rfl|hk
 .exact h
 .obtain rfl:k=j:=by simpa using hk
  exact h'
def Ra{c:Value}(h:c.oneCell'=true):c.cells=#[c]:=by cases c<;>first|rfl|cases h
def Lg {o:Oper} {t e:TypeId} {ie:TypeInfo} {z:Value} {x:Operand} {c:Value} (ho:o.op = .buildSlice t 1 #[(0,x)]) (hu:P.underlying t=some (.slice e)) (IK:P.info? e=some ie) (hz:ie.zero=some z) (hs:ie.size=1) (hc:a.eval x=c) (h1:c.oneCell'=true) :
  (execOp a.eval o).run P w=.ok (.value (.slice (some ⟨w.heap.size,0,none⟩) 1 1)) (w.alloc (.cells #[c] e)):=by
 have hr:=run_buildSlice (P:=P) w t e 1 #[(0,c)] #[c] ie z hu IK hz (by rw[hs];decide) (by rw[hs];decide) (by
  rw[hs];simp[Instr.fill,Ra h1];generalize hA:Array.map (λx=>z.cells[x % z.cells.size]!) (Array.range 1)=A
  have bj:A.size=1:=by rw[<-hA];simp
  apply aeP
  .simp[bj]
  .intro i hi dv
   obtain rfl:i=0:=by simp at dv;omega
   simp[bj])
 unfold execOp;simp[ho,hc,hr]
def AH(w w':World)(es:List AV)(c:Value):Prop:=∃hi:Nat->Nat,RD (λb j=>(w.heap.size<=b/\b<w'.heap.size)/\j<hi b) w' (.slice .view es) c
def AH.grow{w w' w2:World}{es:List AV}{c:Value}(h:AH w w' es c)(hb:Below w'.heap.size w' w2):AH w w2 es c:=by
 obtain⟨hi,hr⟩:=h;refine⟨hi,hr.mono (bf.of_eq λb k hp=>⟨⟨⟨hp.1.1,ad9 hp.1.2 hb.size⟩,hp.2⟩,hb.block b hp.1.2⟩)⟩
def Je {old:Nat→Nat→Prop} {e:TypeId} {i:TypeInfo} {es:List AV} {en:Ending} {w':World} (hi:P.info? e=some i)
  (nV:∀x∈es,x.cells.length=i.size/\x.storable=true/\∀c∈x.cells,c.one=true) (Da:∀x∈es,∀c∈x.cells,iG c=true)
  (h:Ends P old w (.ret (.slice (if es.isEmpty then .nil else .own e) es)) en w'):Below w.heap.size w w'/\∃c,en=.returned c/\AH w w' es c:=by
 obtain⟨hb,hf,_,c,rfl,hv,ho⟩:=h;refine⟨hb,c,rfl,hf,?_⟩;have hv:=hv.dW rfl
 cases es with
 |nil=>exact hv.CF
 |cons x es=>
  simp only[List.isEmpty_cons,ads,adH]at hv ho;obtain⟨i',xs,b,k1,k2,k3,k4⟩:=ho;rw[hi]at k1;cases k1;have oC:=jn.Ot hv k2 nV Da
  refine RD.ofRow k2 (oC.mono (bf.same λ_ _ _ h=>h.elim)) λb' im k hk=>?_
  rw[k3]at im;cases im;exact⟨k2.lt b k3,by rw[k4];exact hk⟩
end
section
variable{P:Program}{GI:World->Prop}{n m:Nat}{Q:Exit->Act->World->Prop}
def SW.PG (hG:ar GI) (hm:P.follows .mixedOrders=true) {ro:Option Nat} {old:Old} {Q:eW} {S:an} {H:ao} {ops:Array Oper} {id p:Nat} (Fp:Hm ops p=true) (dL:(ops.extract 0 p).all (fun o=>eH o.op)=true) (bX:LP P n (ops.extract 0 p)=true) (bW:∀ d,¬ old.bx d)
  {l:List bH} (hl:bh P n true (ops.extract 0 p)=l) (l8:(ops.extract 0 p).size=p) {K:an->ao->Prop} (h:cU P GI l K (eM l S) (dV l H))
  (hand:∀w0 g S1 H1 a w m,GI w0->g.old=old->Rel P w0 n bL g S1 H1 a w->K S1 H1->wpOpsIn (FR ro) m P ops (QS P w0 n Q) (List.range' p (ops.size-p)) a w):SW P GI n ro (.region id ops true) Q old S H:=by
 subst hl;intro w0 g a w m cq ho R;refine Nc hm Fp ?_;have key:=lU (ro:=ro) (m:=m) hG cq hm (old:=old) (ops:=ops.extract 0 p) (Q:=aN K) dL bX (λ_ _ d _=>bW d) ho R h;rw[l8]at key;refine fK ?_ _ _ _ _ key;intro e a' w' hq
 cases e with
 |normal=>
  obtain⟨g',S',H',h1,h2,h3⟩:=hq;exact hand w0 g' S' H' a' w' m cq h1 h2 h3
 |exit id=>obtain⟨_,_,_,_,_,h⟩:=hq;exact h.elim
 |ret=>obtain⟨_,_,_,_,_,h⟩:=hq;exact h.elim
 |panic ch=>obtain⟨_,_,_,_,_,_,_,_,_,_,h⟩:=hq;exact h.elim
 |goto l=>exact hq.elim
 |outgrown=>exact hq.elim
end
end Go.AL
