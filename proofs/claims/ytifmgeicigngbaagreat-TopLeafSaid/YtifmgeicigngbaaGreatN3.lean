/- A part of the proof. -/
import Derived.Test.YtifmgeicigngbaaGreatN2
set_option maxRecDepth 100000
set_option maxHeartbeats 8000000
set_option linter.all false
namespace Go.AL
open Go.RowKit
structure VB(wS:World)(bM:Nat)(wB:World):Prop where
 fQ:dG (λb=>b=bM) wS wB
 size:wB.heap.size=wS.heap.size
def VB.refl(wS:World)(bM:Nat):VB wS bM wS:=⟨dG.refl _ _,rfl⟩
def VB.swap{wS wB w w':World}{bM:Nat}{o:Obj}(h:VB wS bM wB)(hB:Below wS.heap.size wB w)(ht:dG (λb=>b=bM) w w'):VB wS bM (ib wB w' bM o):=by
 refine⟨⟨by simp only[ib];rw[ht.os,hB.os,h.fQ.os],by simp only[ib];rw[ht.tape,hB.tape,h.fQ.tape],by simp only[ib];rw[ht.output,hB.output,h.fQ.output],by simp[ib,h.size],λb hb bt=>?_⟩,by simp[ib,h.size]⟩;simp only[ib];rw[Array.getElem?_setIfInBounds_ne (Ne.symm bt)];exact h.fQ.block b hb bt
def mr:Code->Code
 |.seq x _=>x
 |.block _ c=>c
 |.loop c=>c
 |c=>c
def jI:Code->Code
 |.seq _ y=>y
 |c=>c
abbrev mJ(Y:Type):=dU->Old->af->ah->Y->Prop
abbrev GW:World->Prop:=λ_=>True
def CK:av GW:=λ_ _ _ _=>trivial
structure BI{Y:Type}(bM:Nat)(I:Y->World->Prop):Prop where
 keep:∀y w w',w'.heap[bM]?=w.heap[bM]?->I y w->I y w'
 some:∀y w,I y w->∃o,w.heap[bM]?=some o
section
variable{P:Program}{n bM:Nat}{wS:World}{Y:Type}{I:Y->World->Prop}
def QM(P:Program)(n bM:Nat)(wS:World)(I:Y->World->Prop)(Q:mJ Y):Exit->Act->World->Prop
 |.normal,a,w=>∃wB g S H y,VB wS bM wB/\Rel P wB n bp g S H a w/\(∀k,¬g.old.c bM k)/\I y w/\Q .normal g.old S H y
 |.exit id,a,w=>∃wB g S H y,VB wS bM wB/\Rel P wB n bp g S H a w/\(∀k,¬g.old.c bM k)/\I y w/\Q (.exit id) g.old S H y
 |.ret,a,w=>∃wB g S H y,VB wS bM wB/\Rel P wB n bp g S H a w/\(∀k,¬g.old.c bM k)/\I y w/\Q .ret g.old S H y
 |_,_,_=>False
def bF(P:Program)(n bM:Nat)(wS:World)(I:Y->World->Prop)(c:Code)(Q:mJ Y)(old:Old)(S:af)(H:ah)(y:Y):Prop:=
 ∀(wB:World)(g:Gh)(a:Act)(w:World)(m:Nat),VB wS bM wB->g.old=old->(∀k,¬old.c bM k)->Rel P wB n bp g S H a w->I y w->c.wpIn (FR none) m P (QM P n bM wS I Q) a w
def Ps(K:Old->af->ah->Y->Prop)(Q:mJ Y):mJ Y
 |.normal=>K
 |e=>Q e
def Kd(id:Nat)(Q:mJ Y):mJ Y
 |.exit j=>if j=id then Q .normal else Q (.exit j)
 |e=>Q e
def liftM(Q:mJ Y)(y:Y):gy
 |.panic _=>λ_ _ _=>False
 |e=>λo S H=>Q e o S H y
variable{Q:mJ Y}{old:Old}{S:af}{H:ah}{y:Y}
def VB.below{wB w:World}{g:Gh}{a:Act}(h:VB wS bM wB)(R:Rel P wB n bp g S H a w):Below wS.heap.size wB w:=by
 have:=R.below;rwa [R.base,h.size]at this
def bF.kP(hI:BI bM I)(ao:bM<wS.heap.size){c:Code}(hc:∀o S' H' e,liftM Q y e o S' H'->o.c=old.c)(h:SW P GW n none c (liftM Q y) old S H):bF P n bM wS I c Q old S H y:=by
 intro wB g a w m hv ho dp R hy;refine wpIn_mono (h wB g a w m trivial ho R) ?_
 have hb:bM<wB.heap.size:=by rw[hv.size];exact ao
 have AE:∀{g' S' H' a' w'},Rel P wB n bp g' S' H' a' w'->I y w':=λR'=>by
  refine hI.keep y w _ ?_ hy;have b1:=R.below;rw[R.base]at b1;have b2:=R'.below;rw[R'.base]at b2;rw[b2.block bM hb,b1.block bM hb]
 intro e a' w' he
 cases e with
 |normal=>obtain⟨g',S',H',R',hq⟩:=he;exact⟨wB,g',S',H',y,hv,R',by rw[hc _ _ _ _ hq];exact dp,AE R',hq⟩
 |exit id=>obtain⟨g',S',H',R',hq⟩:=he;exact⟨wB,g',S',H',y,hv,R',by rw[hc _ _ _ _ hq];exact dp,AE R',hq⟩
 |ret=>obtain⟨g',S',H',R',hq⟩:=he;exact⟨wB,g',S',H',y,hv,R',by rw[hc _ _ _ _ hq];exact dp,AE R',hq⟩
 |panic ch=>obtain⟨_,_,_,_,_,_,_,_,_,_,_,h⟩:=he;exact h.elim
 |goto l=>exact he.elim
 |outgrown=>exact he.elim
def bF.seq{x z:Code}(hx:bF P n bM wS I x (Ps (bF P n bM wS I z Q) Q) old S H y):bF P n bM wS I (.seq x z) Q old S H y:=by
 intro wB g a w m hv ho dp R hy;refine wpIn_seq (wpIn_mono (hx wB g a w m hv ho dp R hy) ?_);intro e a' w' he
 cases e with
 |normal=>
  obtain⟨Bk,g',S',H',y',h1,h2,h3,h4,h5⟩:=he;exact h5 Bk g' a' w' m h1 rfl h3 h2 h4
 |exit id=>exact he
 |ret=>exact he
 |panic ch=>exact he.elim
 |goto l=>exact he.elim
 |outgrown=>exact he.elim
def bF.block{id:Nat}{c:Code}(hc:bF P n bM wS I c (Kd id Q) old S H y):bF P n bM wS I (.block id c) Q old S H y:=by
 intro wB g a w m hv ho dp R hy;refine wpIn_block (wpIn_mono (hc wB g a w m hv ho dp R hy) ?_);intro e a' w' he
 cases e with
 |normal=>exact he
 |exit j=>
  obtain⟨Bk,g',S',H',y',h1,h2,h3,h4,h5⟩:=he;simp only[Kd]at h5;simp only[Exit.inBlock];split
  .rename_i hj;rw[if_pos hj]at h5;exact⟨Bk,g',S',H',y',h1,h2,h3,h4,h5⟩
  .rename_i hj;rw[if_neg hj]at h5;exact⟨Bk,g',S',H',y',h1,h2,h3,h4,h5⟩
 |ret=>exact he
 |panic ch=>exact he.elim
 |goto l=>exact he.elim
 |outgrown=>exact he.elim
def bF.cond{c:Operand}{c':bZ}{x z:Code}(hc:dg n c=some c')(b:Bool)(hb:ev S c'=.bool b)(h:bF P n bM wS I (if b then x else z) Q old S H y):bF P n bM wS I (.cond c x z) Q old S H y:=by
 intro wB g a w m hv ho dp R hy;have vD:=R.ev hc (λ_ _=>id);rw[hb]at vD
 have:a.eval c=.bool b:=by
  generalize a.eval c=v at vD;cases vD;rename_i vD;cases vD;rfl
 exact wpIn_cond this (h wB g a w m hv ho dp R hy)
def bF.exit{id:Nat}(h:Q (.exit id) old S H y):bF P n bM wS I (.exit id) Q old S H y:=
 λwB g _ _ _ hv ho dp R hy=>wpIn_exit ⟨wB,g,S,H,y,hv,R,by rw[ho];exact dp,hy,by rw[ho];exact h⟩
def bF.ret(h:Q .ret old S H y):bF P n bM wS I .ret Q old S H y:=
 λwB g _ _ _ hv ho dp R hy=>wpIn_ret ⟨wB,g,S,H,y,hv,R,by rw[ho];exact dp,hy,by rw[ho];exact h⟩
def bF.skip(h:Q .normal old S H y):bF P n bM wS I .skip Q old S H y:=
 λwB g _ _ _ hv ho dp R hy=>wpIn_skip ⟨wB,g,S,H,y,hv,R,by rw[ho];exact dp,hy,by rw[ho];exact h⟩
def bF.loop{c:Code}(J:Old->af->ah->Y->Prop)(μ:af->Nat)(h0:J old S H y)(hr:∀o S H y,J o S H y->bF P n bM wS I c (Ps (λo' S' H' y'=>J o' S' H' y'/\μ S'<μ S) Q) o S H y):bF P n bM wS I (.loop c) Q old S H y:=by
 intro wB g a w m hv ho dp R hy;subst ho
 have key:∀ (k:Nat) (wB:World) (g:Gh) (S:af) (H:ah) (y:Y) (a:Act) (w:World),VB wS bM wB→Rel P wB n bp g S H a w→(∀ k,¬ g.old.c bM k)→I y w→J g.old S H y→μ S=k→∀ (b:Frame) (kk:List Item) (cs:List Frame),b.roundOf=none→(FR none).room (cs.length+1+m) →
   ∃e a' w',QM P n bM wS I Q e a' w'/\ArrivesIn (Machine.fenced P (FR none)) P (lone (b.atR a (.code c::.inLoop c::kk)) cs w) b kk cs e a' w':=by
  intro k
  induction k using Nat.strongRecOn with
  |_ k ih=>
   intro wB g S H y a w hv R dp hy hI hk b kk cs ov hZ;obtain⟨e,iu,jT,hq,gC⟩:=hr g.old S H y hI wB g a w m hv rfl dp R hy b (.inLoop c::kk) cs ov trivial hZ
   cases e with
   |normal=>
    obtain⟨Bk,g',S',H',y',h1,h2,h3,h4,h5,h6⟩:=hq;obtain⟨Au,AA,zZ,tT,oP⟩:=ih _ (by rw[<-hk];exact h6) Bk g' S' H' y' iu jT h1 h2 h3 h4 h5 rfl b kk cs ov hZ;exact⟨Au,AA,zZ,tT,.of_steps (StepsIn.trans gC (.one (fenced_calm (F:=FR none) (fr:=b.atR iu (.inLoop c::kk)) trivial hZ rfl) stepR_inLoop)) oP⟩
   |exit id=>exact⟨.exit id,iu,jT,hq,.pass (x:=.inLoop c) rfl (λ_ _=>.inl (by simp)) gC⟩
   |ret=>exact⟨.ret,iu,jT,hq,.pass (x:=.inLoop c) rfl (λ_ _=>.inl (by simp)) gC⟩
   |goto l=>exact hq.elim
   |panic ch=>exact hq.elim
   |outgrown=>exact hq.elim
 intro b kk cs ov hF hZ;obtain⟨e,a',w',hq,gC⟩:=key _ wB g S H y a w hv R dp hy h0 rfl b kk cs ov hZ;exact⟨e,a',w',hq,.of_steps (.one (fenced_calm (F:=FR none) (fr:=b.atR a (.code (.loop c)::kk)) trivial hZ rfl) stepR_loop) gC⟩
def bF.last (hI:BI bM I) (ao:bM < wS.heap.size) (hm:P.follows .mixedOrders=true) {x:Code} (hc:iW x=true) {ac:ae} (ja:cE P n x=ac) (bC:∀ d∈ac.names,¬ old.bx d) (K:af→ah→Prop) (h:bq P GW ac (az K) S H)
  (hy:∀S' H',K S' H'->Q .normal old S' H' y):bF P n bM wS I x Q old S H y:=by
 intro wB g a w m hv ho dp R Ra
 have hb:bM<wB.heap.size:=by rw[hv.size];exact ao
 have hs:SW P GW n none x (λe o S H=>e=.normal/\o=old/\K S H) old S H:=SW.last CK hm hc ja bC K h λS' H' hk=>⟨rfl,rfl,hk⟩
 refine wpIn_mono (hs wB g a w m trivial ho R) ?_;intro e a' w' he
 cases e with
 |normal=>
  obtain⟨g',S',H',R',_,kZ,hk⟩:=he;refine⟨wB,g',S',H',y,hv,R',by rw[kZ];exact dp,hI.keep y w w' ?_ Ra,by rw[kZ];exact hy S' H' hk⟩;have b1:=R.below;rw[R.base]at b1;have b2:=R'.below;rw[R'.base]at b2;rw[b2.block bM hb,b1.block bM hb]
 |exit id=>obtain⟨_,_,_,_,h,_⟩:=he;cases h
 |ret=>obtain⟨_,_,_,_,h,_⟩:=he;cases h
 |goto l=>exact he.elim
 |panic ch=>obtain⟨_,_,_,_,_,_,_,_,_,_,_,h,_⟩:=he;cases h
 |outgrown=>exact he.elim
def bF.cut (hI:BI bM I) (ao:bM < wS.heap.size) (hm:P.follows .mixedOrders=true) {x z:Code} (hc:iW x=true) {ac:ae} (ja:cE P n x=ac) (bC:∀ d∈ac.names,¬ old.bx d) (K:af→ah→Prop) (h:bq P GW ac (az K) S H)
  (hy:∀S' H',K S' H'->bF P n bM wS I z Q old S' H' y):bF P n bM wS I (.seq x z) Q old S H y:=
 bF.seq (bF.last hI ao hm hc ja bC K h λS' H' hk=>hy S' H' hk)
variable{m:Nat}{a:Act}{w wB:World}{g:Gh}{QX:Exit->Act->World->Prop}{ops:Array Oper}
def q' (hI:BI bM I) (ao:bM < wS.heap.size) (cT:ops.all (fun o=>cG o.op)=true) {l l':List Nat} {os:List Oper} (hl:l.map (ops[·]?)=os.map some) {al:List bc} (fu:os.map (aW P n false ops)=al) (bo:al.all (·.ok n)=true)
  (hv:VB wS bM wB) (R:Rel P wB n bp g S H a w) (hy:I y w) (bC:∀d,¬g.old.bx d) (K:af->ah->Prop) (h:aV P GW al K (λ_=>False) S H)
  (hk:∀g' S' H' a' w',g'.old=g.old->Rel P wB n bp g' S' H' a' w'->I y w'->K S' H'->wpOpsIn (FR none) m P ops QX l' a' w'):wpOpsIn (FR none) m P ops QX (l++l') a w:=by
 subst fu
 have hb:bM<wB.heap.size:=by rw[hv.size];exact ao
 refine eX (Q1:=QQ P wB n g.old (az K)) (λe a w bt hq=>?_) (λa1 w1 hq=>?_) _ _ _ (mD CK trivial cT rfl R l os hl (λo ic=>by
  simp only[List.all_map,List.all_eq_true,Function.comp]at bo
  exact bo o ic) bC h)
 .cases e with
  |normal=>exact absurd rfl bt
  |exit id=>obtain⟨_,_,_,_,_,h⟩:=hq;exact h.elim
  |ret=>obtain⟨_,_,_,_,_,h⟩:=hq;exact h.elim
  |panic ch=>obtain⟨_,_,_,_,_,_,_,_,_,_,h⟩:=hq;exact h.elim
  |goto l=>exact hq.elim
  |outgrown=>exact hq.elim
 .obtain⟨g1,S1,H1,lN,R1,z8⟩:=hq;refine hk g1 S1 H1 a1 w1 lN R1 (hI.keep y w _ ?_ hy) z8;have b1:=R.below;rw[R.base]at b1;have b2:=R1.below;rw[R1.base]at b2;rw[b2.block bM hb,b1.block bM hb]
def NI (hI:BI bM I) (ao:bM < wS.heap.size) (dp:∀ k,¬ g.old.c bM k) {i:Nat} {l':List Nat} {o:Oper} (vO:ops[i]? = some o) (hw:Region.wanted o (yielded ops a.tmps)=true) (hc:cG o.op=true) {f:Nat} {args:Array Value} {t:Nat} (hd:o.dst=some t) (ht:t < n)
  (hv:VB wS bM wB) (R:Rel P wB n bp g S H a w) (hr:(execOp a.eval o).run P w=.ok (.enter f args) w) {B:Bool->Y->Prop} (hC:Calls P f args w λe w'=>∃b y',e=.returned (.bool b)/\dG (λx=>x=bM) w w'/\I y' w'/\B b y')
  (hk:∀b y' Bk a' w',VB wS bM Bk->Rel P Bk n bp g (au S t (.bool b)) H a' w'->I y' w'->B b y'->wpOpsIn (FR none) m P ops QX l' a' w'):wpOpsIn (FR none) m P ops QX (i::l') a w:=by
 refine pd vO hw hc hr hC ?_;rintro e w' ⟨b,y',rfl,vY,AE,hB⟩;obtain⟨ob,Nh⟩:=hI.some y' w' AE
 have hb:bM<g.base:=by rw[R.base,hv.size];exact ao
 have R1:=R.DD vY hb dp Nh;have R2:=R1.put t (.bool b) (.bool b) ht (.data _ _ (.bool _)) trivial;refine⟨_,rfl,?_⟩;rw[hd];exact hk b y' _ _ _ (hv.swap (hv.below R) vY) R2 AE hB
def mO(hv:VB wS bM wB)(R:Rel P wB n bp g S H a w)(dp:∀k,¬g.old.c bM k)(hy:I y w)(hq:Q .normal g.old S H y):wpOpsIn (FR none) m P ops (QM P n bM wS I Q) [] a w:=
 ⟨wB,g,S,H,y,hv,R,dp,hy,hq⟩
def lu {f:Nat} {fn:Func} {c:Code} {args:List AV} {t:Nat} (hf:P.funcs[f]? = some fn) (hb:fn.body=some c) (hn:fn.ntmps=n) (Fg:fn.results = #[.tmp t]) (ht:t < n) (hl:args.length≤n) {w:World} {Pr:Nat→Nat→Prop} {a_:Array Value} (hlen:args.length=a_.size)
  (hr:∀i (h:i<args.length)(h':i<a_.size),RV Pr (λ_=>none) w args[i] a_[i]) (dp:∀k,¬Pr bM k) (hy:I y w) {B:Bool->Y->Prop}
  (h:bF P n bM w I c (λex o S H y'=>ex=.ret/\o.ds=[]/\∃b,S t=.bool b/\B b y') (Old.plain Pr w) (start args) (λ_=>none) y):
  Calls P f a_ w λe w'=>∃b y',e=.returned (.bool b)/\dG (λx=>x=bM) w w'/\I y' w'/\B b y':=by
 refine(eA (ro:=none) (m:=0)).1 (callsIn_of_wp hf hb trivial ?_);have R:Rel P w n bp _ (start args) (λ_=>none) { tmps:=a_++Array.replicate (fn.ntmps-a_.size) undef,defers:=[] } w:=Rel.begin hn hl hlen hr;refine wpIn_mono (h w _ _ w 0 (VB.refl _ _) rfl dp R hy) ?_;intro e a' w' he
 cases e with
 |ret=>
  obtain⟨Bk,g',S',H',y',hv,R',_,AE,_,c_,b,hS,hB⟩:=he;have e4:=R'.slot t ht id;rw[hS]at e4;have gQ:=hv.below R';refine⟨by rw[R'.defers,c_],.bool b,by rw[<-e4.fc];simp[results,Fg],b,y',rfl,?_,AE,hB⟩;exact⟨gQ.os.trans hv.fQ.os,gQ.tape.trans hv.fQ.tape,gQ.output.trans hv.fQ.output,by have:=gQ.size;have:=hv.size;omega,λx hx bt=>(gQ.block x hx).trans (hv.fQ.block x hx bt)⟩
 |normal=>obtain⟨_,_,_,_,_,_,_,_,_,h,_⟩:=he;cases h
 |exit id=>obtain⟨_,_,_,_,_,_,_,_,_,h,_⟩:=he;cases h
 |goto l=>exact he.elim
 |panic ch=>exact he.elim
 |outgrown=>exact he.elim
end
end Go.AL
