/- A part of the proof. -/
import Derived.Test.YtifmgeicigngbaaGreatN1
import Derived.Test.YtifmgeicigngbaaGreatProg
set_option maxRecDepth 100000
set_option maxHeartbeats 8000000
set_option linter.all false
namespace Go.AL
open Go.RowKit
def FR(ro:Option Nat):Fence:={ Fence.wide with round:=ro }
def eA{ro:Option Nat}{m:Nat}{P:Program}{f:FuncId}{args:Array Value}{w:World}{R:Ending->World->Prop}:CallsIn (FR ro) m P f args w R↔Calls P f args w R:=
 callsIn_wide (n:=m)
def Ig{ro:Option Nat}{m:Nat}{P:Program}{row:String}{args:Array Value}{w:World}{R:Value->World->Prop}(h:Rows P row args w R):RowsIn (FR ro) m P row args w R:=
 λc cs _=>let⟨v,w',r,s⟩:=h c cs;⟨v,w',r,stepsIn_wide.2 s⟩
def kQ{m:Nat}{P:Program}{c:Code}{Q:Exit->Act->World->Prop}{a:Act}{w:World}:c.wpIn (FR none) m P Q a w↔c.wp P Q a w:=wpIn_wide (n:=m)
def cG:Op->Bool
 |.defer _=>false
 |_=>true
section
variable{P:Program}{Q:Exit->Act->World->Prop}{ro:Option Nat}{m:Nat}
def yJ{o:Oper}{a:Act}{w:World}{K:Act->World->Prop}(cT:cG o.op=true)(h:o.wp P a w K Q):o.wpIn (FR ro) m P a w K Q:=by
 refine⟨λ_ _=>trivial,?_⟩;unfold Oper.wp at h;rw[Oper.semAt_eq _ _ _ (λc hc=>by rw[hc]at cT;cases cT)]
 generalize(execOp a.eval o).run P w=r at*
 have hd:(FR ro).depth.isSome=true->1<=m:=λh=>by simp[FR,Fence.wide]at h
 cases r with
 |ok x w'=>
  cases x<;>simp only[Oper.upon,Oper.uponIn]at h⊢<;>first
   |exact h
   |exact⟨hd,eA.2 h⟩
   |exact⟨hd,Ig h⟩
 |halt x w'=>cases x<;>simp only[Oper.upon,Oper.uponIn]at h⊢<;>exact h
def km{ops:Array Oper}(cT:ops.all (λo=>cG o.op)=true)(hQ:¬LetsOut Q):∀(l:List Nat)(a:Act)(w:World),wpOps P ops Q l a w->wpOpsIn (FR ro) m P ops Q l a w
 |[],_,_,h=>h
 |i::l,a,w,h=>by
  simp only[wpOps,wpOpsIn]at h⊢
  cases ho:ops[i]? with
  |none=>simp only[ho]at h⊢;exact km cT hQ l a w h
  |some o=>
   simp only[ho]at h⊢
   have hc:cG o.op=true:=by
    have:=Array.all_eq_true'.1 cT o (Array.mem_of_getElem? ho);exact this
   split
   .rename_i hw;simp only[hw,if_true]at h
    rcases h with h|⟨_,h⟩
    .exact yJ hc (Oper.wp_mono (λa w hh=>km cT hQ l a w hh) h)
    .exact absurd h hQ
   .rename_i hw;simp only[hw,Bool.false_eq_true,if_false]at h;exact⟨λ_ _=>trivial,km cT hQ l _ w h⟩
def Pz{ops:Array Oper}(cT:ops.all (λo=>cG o.op)=true)(hQ:¬LetsOut Q){i:Nat}{K:Act->World->Prop}{a:Act}{w:World}(h:wpOp P ops Q i K a w):wpOpIn (FR ro) m P ops Q i K a w:=by
 unfold wpOp at h;unfold wpOpIn
 cases ho:ops[i]? with
 |none=>simp only[ho]at h⊢;exact h
 |some o=>
  simp only[ho]at h⊢
  have hc:cG o.op=true:=by
   have:=Array.all_eq_true'.1 cT o (Array.mem_of_getElem? ho);exact this
  split
  .rename_i hw;simp only[hw,if_true]at h
   rcases h with h|⟨_,h⟩
   .exact yJ hc h
   .exact absurd h hQ
  .rename_i hw;simp only[hw,Bool.false_eq_true,if_false]at h;exact⟨λ_ _=>trivial,h⟩
def sD{ops:Array Oper}{md:Region.Mode}(cT:ops.all (λo=>cG o.op)=true)(hQ:¬LetsOut Q):∀(fuel:Nat)(listed:Array Bool)(a:Act)(w:World),wpAny P md ops Q fuel listed a w->wpAnyIn (FR ro) m P md ops Q fuel listed a w
 |0,_,_,_,h=>h
 |fuel+1,listed,a,w,h=>⟨h.1,λi hi=>wpOpIn_mono (λa w hh=>sD cT hQ fuel _ a w hh) (Pz cT hQ (h.2 i hi))⟩
def iW:Code->Bool
 |.region _ ops _=>ops.all λo=>cG o.op
 |.seq x y|.cond _ x y=>iW x&&iW y
 |.block _ c|.loop c=>iW c
 |_=>true
end
section
variable{P:Program}{GI:World->Prop}{w0:World}{n:Nat}{g:Gh}{S:af}{H:ah}{a:Act}{w:World}{ro:Option Nat}{m:Nat}
def ki{old:Old}{Q:dU->af->ah->Prop}:¬LetsOut (QQ P w0 n old Q):=λ⟨_,_,h⟩=>h
def pn (hG:av GI) (db:GI w0) {old:Old} {ops:Array Oper} {Q:dU→af→ah→Prop} (cT:ops.all (fun o=>cG o.op)=true) (bo:(aO P n false ops).all (·.ok n)=true) (bC:∀ o∈aO P n false ops,∀ d∈o.fP,¬ old.bx d) (ho:g.old=old) (R:Rel P w0 n bp g S H a w)
  (h:aV P GI (aO P n false ops) (Q .normal) (λv=>Q (.panic v) S H) S H):wpOpsIn (FR ro) m P ops (QQ P w0 n old Q) (List.range ops.size) a w:=by
 refine km cT ki _ _ _ (lT hG db (S0:=S) (H0:=H) (List.range ops.size) ops.toList g S H a w ?_ (λo ic=>?_) (λo ic=>bC _ (List.mem_map_of_mem ic)) ho R h)
 .apply List.ext_getElem?;intro i;simp only[List.getElem?_map]
  by_cases hi:i<ops.size
  .simp[hi]
  .simp[hi]
 .simp only[aO,List.all_map,List.all_eq_true,Function.comp]at bo;exact bo o ic
def Dx (hG:av GI) (db:GI w0) {old:Old} {id:Nat} {ops:Array Oper} {Q:dU→af→ah→Prop} (cT:ops.all (fun o=>cG o.op)=true) (bo:(aO P n false ops).all (·.ok n)=true) (bC:∀ o∈aO P n false ops,∀ d∈o.fP,¬ old.bx d) (ho:g.old=old) (R:Rel P w0 n bp g S H a w)
  (h:aV P GI (aO P n false ops) (Q .normal) (λv=>Q (.panic v) S H) S H):(Code.region id ops false).wpIn (FR ro) m P (QQ P w0 n old Q) a w:=
 wpIn_region (pn hG db cT bo bC ho R h)
def jA (hG:av GI) (db:GI w0) (hm:P.follows .mixedOrders=true) {old:Old} {ops:Array Oper} {Q:dU→af→ah→Prop} (cT:ops.all (fun o=>cG o.op)=true) (bo:DW P n ops=true) (bC:∀ o∈aO P n true ops,∀ d∈o.fP,¬ old.bx d) (ho:g.old=old) (R:Rel P w0 n bp g S H a w)
  (h:cM P GI (aO P n true ops) (Q .normal) (dM (aO P n true ops) S) (cD (aO P n true ops) H)):wpAnyIn (FR ro) m P .any ops (QQ P w0 n old Q) ops.size (Array.replicate ops.size false) a { w with drawn:=w.drawn+1 }:=by
 simp only[DW,Bool.and_eq_true,decide_eq_true_eq]at bo;obtain⟨⟨⟨h1,h2⟩,h3⟩,h4⟩:=bo;refine sD cT ki _ _ _ _ ?_;have R0:Rel P w0 n bp g S H a { w with drawn:=w.drawn+1 }:=R.oA ((Below.refl _ w).drew)
 obtain⟨g',e1,e2,R'⟩:=Rel.dM (aO P n true ops) R0 h3 (λd hd=>by
  simp only[cH,List.mem_filterMap,Option.map_eq_some_iff]at hd;obtain⟨o,ic,⟨d',z⟩,k1,rfl⟩:=hd;rw[ho];refine bC o ic d' ?_;unfold aR at k1;split at k1
  .rename_i h1 h2;cases k1;simp[bc.fP,h1,h2,eb.fP]
  .cases k1)
 have hU:UU P n ops (Array.replicate ops.size false)=(λt=>bp t\/t∈cH (aO P n true ops)):=by
  funext t
  simp only[UU,bp,false_or,eq_iff_iff,cH,List.mem_filterMap,Option.map_eq_some_iff]
  constructor
  .rintro⟨j,o,z,k1,k2,k3⟩;rw[<-e_]at k1;exact⟨o,List.mem_of_getElem? k1,(t,z),k2,rfl⟩
  .rintro⟨o,ho,⟨d,z⟩,k1,rfl⟩;obtain⟨j,hj⟩:=List.getElem?_of_mem ho;refine⟨j,o,z,by rw[<-e_];exact hj,k1,?_⟩
   have:j<ops.size:=by
    have:=(List.getElem?_eq_some_iff.1 hj).1;simpa[aO]using this
   simp[this]
 refine Cn hG db h2 (λo ic=>?_) ops.size (Array.replicate ops.size false) g' _ _ a _ (by simp) (e2.trans ho) (by rw[hU];exact R') (λj o d z k1 k2 k3=>?_) ?_
 .simp only[aO,List.all_map,List.all_eq_true,Function.comp]at h1;exact h1 o (by simpa using ic)
 .rw[<-e_]at k1;exact vi _ S H h3 o (List.mem_of_getElem? k1) d z k2
 .have:=wA (QA:=Q .normal) ops.toList 0 (Array.replicate ops.size false) _ _ (by simp) (by simpa using h4) h;simpa using this
def AB (hG:av GI) (db:GI w0) (hm:P.follows .mixedOrders=true) {old:Old} {id:Nat} {ops:Array Oper} {Q:dU→af→ah→Prop} (cT:ops.all (fun o=>cG o.op)=true) (bo:DW P n ops=true) (bC:∀ o∈aO P n true ops,∀ d∈o.fP,¬ old.bx d) (ho:g.old=old) (R:Rel P w0 n bp g S H a w)
  (h:cM P GI (aO P n true ops) (Q .normal) (dM (aO P n true ops) S) (cD (aO P n true ops) H)):(Code.region id ops true).wpIn (FR ro) m P (QQ P w0 n old Q) a w:=
 wpIn_region_any hm (jA hG db hm cT bo bC ho R h)
abbrev gy:=dU->Old->af->ah->Prop
def QS(P:Program)(w0:World)(n:Nat)(Q:gy):Exit->Act->World->Prop
 |.normal,a,w=>∃g S H,Rel P w0 n bp g S H a w/\Q .normal g.old S H
 |.exit id,a,w=>∃g S H,Rel P w0 n bp g S H a w/\Q (.exit id) g.old S H
 |.ret,a,w=>∃g S H,Rel P w0 n bp g S H a w/\Q .ret g.old S H
 |.panic chain,a,w=>∃(o:Old)(v:AV)(c:Value)(hi:Nat->Nat)(S:af)(H:ah),a.defers=o.ds/\chain=[{ v:=c,recovered:=false }]/\Below w0.heap.size w0 w/\(∀b,w.heap.size<=b->hi b=0)/\RD (lL w0.heap.size o.c hi) w v c/\Q (.panic v) o S H
 |_,_,_=>False
def SW(P:Program)(GI:World->Prop)(n:Nat)(ro:Option Nat)(c:Code)(Q:gy)(old:Old)(S:af)(H:ah):Prop:=
 ∀(w0:World)(g:Gh)(a:Act)(w:World)(m:Nat),GI w0->g.old=old->Rel P w0 n bp g S H a w->c.wpIn (FR ro) m P (QS P w0 n Q) a w
def thenS(K:Old->af->ah->Prop)(Q:gy):gy
 |.normal=>K
 |e=>Q e
def JJ(id:Nat)(Q:gy):gy
 |.exit j=>if j=id then Q .normal else Q (.exit j)
 |e=>Q e
variable{old:Old}{Q Q':gy}
def QS.mono(h:∀e o S H,Q e o S H->Q' e o S H){e:Exit}{a:Act}{w:World}(hq:QS P w0 n Q e a w):QS P w0 n Q' e a w:=by
 cases e<;>simp only[QS]at hq⊢
 case normal=>obtain⟨g,S,H,h2,h3⟩:=hq;exact⟨g,S,H,h2,h _ _ _ _ h3⟩
 case exit=>obtain⟨g,S,H,h2,h3⟩:=hq;exact⟨g,S,H,h2,h _ _ _ _ h3⟩
 case ret=>obtain⟨g,S,H,h2,h3⟩:=hq;exact⟨g,S,H,h2,h _ _ _ _ h3⟩
 case panic=>obtain⟨o,v,c,hi,S,H,h1,h2,h3,h4,h5,h6⟩:=hq;exact⟨o,v,c,hi,S,H,h1,h2,h3,h4,h5,h _ _ _ _ h6⟩
def SW.mono{c:Code}(h:∀e o S H,Q e o S H->Q' e o S H)(hs:SW P GI n ro c Q old S H):SW P GI n ro c Q' old S H:=
 λw0 g a w m hG ho R=>wpIn_mono (hs w0 g a w m hG ho R) λ_ _ _ hq=>QS.mono h hq
def SW.seq{x y:Code}(hx:SW P GI n ro x (thenS (SW P GI n ro y Q) Q) old S H):SW P GI n ro (.seq x y) Q old S H:=by
 intro w0 g a w m hG ho R;refine wpIn_seq (wpIn_mono (hx w0 g a w m hG ho R) ?_);intro e a' w' he
 cases e with
 |normal=>
  obtain⟨g',S',H',h2,h3⟩:=he;exact h3 w0 g' a' w' m hG rfl h2
 |exit id=>exact he
 |ret=>exact he
 |panic ch=>exact he
 |goto l=>exact he.elim
 |outgrown=>exact he.elim
def SW.block{id:Nat}{c:Code}(hc:SW P GI n ro c (JJ id Q) old S H):SW P GI n ro (.block id c) Q old S H:=by
 intro w0 g a w m hG ho R;refine wpIn_block (wpIn_mono (hc w0 g a w m hG ho R) ?_);intro e a' w' he
 cases e with
 |normal=>exact he
 |exit j=>
  obtain⟨g',S',H',h2,h3⟩:=he;simp only[JJ]at h3;simp only[Exit.inBlock];split
  .rename_i hj;rw[if_pos hj]at h3;exact⟨g',S',H',h2,h3⟩
  .rename_i hj;rw[if_neg hj]at h3;exact⟨g',S',H',h2,h3⟩
 |ret=>exact he
 |panic ch=>exact he
 |goto l=>exact he.elim
 |outgrown=>exact he.elim
def SW.cond{c:Operand}{c':bZ}{x y:Code}(hc:dg n c=some c')(b:Bool)(hb:ev S c'=.bool b)(h:SW P GI n ro (if b then x else y) Q old S H):SW P GI n ro (.cond c x y) Q old S H:=by
 intro w0 g a w m hG ho R;have hv:=R.ev hc (λ_ _=>id);rw[hb]at hv
 have:a.eval c=.bool b:=by
  generalize a.eval c=v at hv;cases hv;rename_i hv;cases hv;rfl
 exact wpIn_cond this (h w0 g a w m hG ho R)
def SW.exit{id:Nat}(h:Q (.exit id) old S H):SW P GI n ro (.exit id) Q old S H:=
 λ_ g _ _ _ _ ho R=>wpIn_exit ⟨g,S,H,R,by rw[ho];exact h⟩
def SW.ret(h:Q .ret old S H):SW P GI n ro .ret Q old S H:=
 λ_ g _ _ _ _ ho R=>wpIn_ret ⟨g,S,H,R,by rw[ho];exact h⟩
def SW.skip(h:Q .normal old S H):SW P GI n ro .skip Q old S H:=
 λ_ g _ _ _ _ ho R=>wpIn_skip ⟨g,S,H,R,by rw[ho];exact h⟩
def SW.loop{c:Code}(I:Old->af->ah->Prop)(μ:af->ah->Nat)(h0:I old S H)(hr:∀o S H,I o S H->SW P GI n ro c (thenS (λo' S' H'=>I o' S' H'/\μ S' H'<μ S H) Q) o S H):SW P GI n ro (.loop c) Q old S H:=by
 intro w0 g a w m hG ho R;subst ho
 have key:∀ (k:Nat) (g:Gh) (S:af) (H:ah) (a:Act) (w:World),Rel P w0 n bp g S H a w→I g.old S H→μ S H=k→∀ (b:Frame) (kk:List Item) (cs:List Frame),b.roundOf=ro→(FR ro).room (cs.length+1+m) →
   ∃e a' w',QS P w0 n Q e a' w'/\ArrivesIn (Machine.fenced P (FR ro)) P (lone (b.atR a (.code c::.inLoop c::kk)) cs w) b kk cs e a' w':=by
  intro k
  induction k using Nat.strongRecOn with
  |_ k ih=>
   intro g S H a w R hI hk b kk cs ov hZ;obtain⟨e,iu,jT,hq,gC⟩:=hr g.old S H hI w0 g a w m hG rfl R b (.inLoop c::kk) cs ov trivial hZ
   cases e with
   |normal=>
    obtain⟨g',S',H',h2,h3,h4⟩:=hq;obtain⟨Au,AA,zZ,tT,oP⟩:=ih _ (by rw[<-hk];exact h4) g' S' H' iu jT h2 h3 rfl b kk cs ov hZ;exact⟨Au,AA,zZ,tT,.of_steps (StepsIn.trans gC (.one (fenced_calm (F:=FR ro) (fr:=b.atR iu (.inLoop c::kk)) trivial hZ rfl) stepR_inLoop)) oP⟩
   |exit id=>exact⟨.exit id,iu,jT,hq,.pass (x:=.inLoop c) rfl (λ_ _=>.inl (by simp)) gC⟩
   |goto l=>exact hq.elim
   |ret=>exact⟨.ret,iu,jT,hq,.pass (x:=.inLoop c) rfl (λ_ _=>.inl (by simp)) gC⟩
   |panic ch=>exact⟨.panic ch,iu,jT,hq,.pass (x:=.inLoop c) rfl (λ_ _=>.inl (by simp)) gC⟩
   |outgrown=>exact hq.elim
 intro b kk cs ov hF hZ;obtain⟨e,a',w',hq,gC⟩:=key _ g S H a w R h0 rfl b kk cs ov hZ;exact⟨e,a',w',hq,.of_steps (.one (fenced_calm (F:=FR ro) (fr:=b.atR a (.code (.loop c)::kk)) trivial hZ rfl) stepR_loop) gC⟩
def gy.bq(old:Old)(Q:gy):dU->af->ah->Prop
 |e,S,H=>Q e old S H
def vU{e:Exit}{a:Act}{w:World}(h:QQ P w0 n old (Q.bq old) e a w):QS P w0 n Q e a w:=by
 cases e<;>simp only[QQ,QS]at h⊢
 case normal=>obtain⟨g,S,H,h1,h2,h3⟩:=h;exact⟨g,S,H,h2,by rw[h1];exact h3⟩
 case exit=>obtain⟨g,S,H,h1,h2,h3⟩:=h;exact⟨g,S,H,h2,by rw[h1];exact h3⟩
 case ret=>obtain⟨g,S,H,h1,h2,h3⟩:=h;exact⟨g,S,H,h2,by rw[h1];exact h3⟩
 case panic=>obtain⟨h1,v,c,hi,S,H,h2,h3,h4,h5,h6⟩:=h;exact⟨old,v,c,hi,S,H,h1,h2,h3,h4,h5,h6⟩
def iq (hG:av GI) (db:GI w0) (hm:P.follows .mixedOrders=true) {old:Old} :
  ∀(c:Code)(Q:dU->af->ah->Prop)(g:Gh)(S:af)(H:ah)(a:Act)(w:World),iW c=true->(∀d∈(cE P n c).names,¬old.bx d)->g.old=old->Rel P w0 n bp g S H a w->bq P GI (cE P n c) Q S H->c.wpIn (FR ro) m P (QQ P w0 n old Q) a w
 |.skip,Q,g,S,H,a,w,_,bC,ho,R,h=>wpIn_skip ⟨g,S,H,ho,R,h⟩
 |.region id ops draw,Q,g,S,H,a,w,cT,bC,ho,R,h=>by
  simp only[cE]at h bC
  cases draw with
  |true=>
   simp only[if_true]at h bC;split at h
   case isFalse=>exact h.elim
   rename_i bo;rw[if_pos bo]at bC;exact AB hG db hm cT bo (λo ic d hd=>bC d (List.mem_flatMap.2 ⟨o,ic,hd⟩)) ho R h
  |false=>
   simp only[Bool.false_eq_true,if_false]at h bC;split at h
   case isFalse=>exact h.elim
   rename_i bo;rw[if_pos bo]at bC;exact Dx hG db cT bo (λo ic d hd=>bC d (List.mem_flatMap.2 ⟨o,ic,hd⟩)) ho R h
 |.seq x y,Q,g,S,H,a,w,cT,bC,ho,R,h=>by
  simp only[iW,Bool.and_eq_true]at cT;refine wpIn_seq (wpIn_mono (iq hG db hm x _ g S H a w cT.1 (λd hd=>bC d (by simp[cE,ae.names,hd])) ho R h) ?_);intro e a' w' he
  cases e with
  |normal=>
   obtain⟨g',S',H',h1,h2,h3⟩:=he;exact iq hG db hm y Q g' S' H' a' w' cT.2 (λd hd=>bC d (by simp[cE,ae.names,hd])) h1 h2 h3
  |exit id=>exact he
  |ret=>exact he
  |panic ch=>exact he
  |goto l=>exact he.elim
  |outgrown=>exact he.elim
 |.cond c x y,Q,g,S,H,a,w,cT,bC,ho,R,h=>by
  simp only[iW,Bool.and_eq_true]at cT;simp only[cE]at h;split at h
  case h_2=>exact h.elim
  rename_i c' hc;simp only[cE,hc,ae.names,List.mem_append]at bC;simp only[bq]at h;have hv:=R.ev hc (λ_ _=>id)
  have key:∀b,a.eval c=.bool b->(if b then x else y).wpIn (FR ro) m P (QQ P w0 n old Q) a w->(Code.cond c x y).wpIn (FR ro) m P (QQ P w0 n old Q) a w:=λb hb h=>wpIn_cond hb h
  split at h
  .rename_i hb;rw[hb]at hv
   have:a.eval c=.bool true:=by
    generalize a.eval c=v at hv;cases hv;rename_i hv;cases hv;rfl
   exact key true this (iq hG db hm x Q g S H a w cT.1 (λd hd=>bC d (.inl hd)) ho R h)
  .rename_i hb;rw[hb]at hv
   have:a.eval c=.bool false:=by
    generalize a.eval c=v at hv;cases hv;rename_i hv;cases hv;rfl
   exact key false this (iq hG db hm y Q g S H a w cT.2 (λd hd=>bC d (.inr hd)) ho R h)
  .rename_i hb;rw[hb]at hv
   have:∃b,a.eval c=.bool b:=by
    generalize a.eval c=v at hv;cases hv;rename_i hv;cases hv;exact⟨_,rfl⟩
   obtain⟨b,hb⟩:=this
   cases b with
   |true=>exact key true hb (iq hG db hm x Q g S H a w cT.1 (λd hd=>bC d (.inl hd)) ho R h.1)
   |false=>exact key false hb (iq hG db hm y Q g S H a w cT.2 (λd hd=>bC d (.inr hd)) ho R h.2)
  .exact h.elim
 |.block id c,Q,g,S,H,a,w,cT,bC,ho,R,h=>by
  refine wpIn_block (wpIn_mono (iq hG db hm c _ g S H a w cT (λd hd=>bC d (by simpa[cE,ae.names]using hd)) ho R h) ?_);intro e a' w' he
  cases e with
  |normal=>exact he
  |exit j=>
   obtain⟨g',S',H',h1,h2,h3⟩:=he;simp only[cb]at h3;simp only[Exit.inBlock];split
   .rename_i hj;rw[if_pos hj]at h3;exact⟨g',S',H',h1,h2,h3⟩
   .rename_i hj;rw[if_neg hj]at h3;exact⟨g',S',H',h1,h2,h3⟩
  |ret=>exact he
  |panic ch=>exact he
  |goto l=>exact he.elim
  |outgrown=>exact he.elim
 |.loop c,Q,g,S,H,a,w,cT,bC,ho,R,h=>by
  obtain⟨I,μ,h0,hr⟩:=h
  have key:∀ (k:Nat) (g:Gh) (S:af) (H:ah) (a:Act) (w:World),g.old=old→Rel P w0 n bp g S H a w→I S H→μ S H=k→∀ (b:Frame) (kk:List Item) (cs:List Frame),b.roundOf=ro→(FR ro).room (cs.length+1+m) →
    ∃e a' w',QQ P w0 n old Q e a' w'/\ArrivesIn (Machine.fenced P (FR ro)) P (lone (b.atR a (.code c::.inLoop c::kk)) cs w) b kk cs e a' w':=by
   intro k
   induction k using Nat.strongRecOn with
   |_ k ih=>
    intro g S H a w ho R hI hk b kk cs ov hZ;obtain⟨e,iu,jT,hq,gC⟩:=iq hG db hm c _ g S H a w cT (λd hd=>bC d (by simpa[cE,ae.names]using hd)) ho R (hr S H hI) b (.inLoop c::kk) cs ov trivial hZ
    cases e with
    |normal=>
     obtain⟨g',S',H',h1,h2,h3,h4⟩:=hq;obtain⟨Au,AA,zZ,tT,oP⟩:=ih _ (by rw[<-hk];exact h4) g' S' H' iu jT h1 h2 h3 rfl b kk cs ov hZ;exact⟨Au,AA,zZ,tT,.of_steps (StepsIn.trans gC (.one (fenced_calm (F:=FR ro) (fr:=b.atR iu (.inLoop c::kk)) trivial hZ rfl) stepR_inLoop)) oP⟩
    |exit id=>exact⟨.exit id,iu,jT,hq,.pass (x:=.inLoop c) rfl (λ_ _=>.inl (by simp)) gC⟩
    |goto l=>exact hq.elim
    |ret=>exact⟨.ret,iu,jT,hq,.pass (x:=.inLoop c) rfl (λ_ _=>.inl (by simp)) gC⟩
    |panic ch=>exact⟨.panic ch,iu,jT,hq,.pass (x:=.inLoop c) rfl (λ_ _=>.inl (by simp)) gC⟩
    |outgrown=>exact hq.elim
  intro b kk cs ov hF hZ;obtain⟨e,a',w',hq,gC⟩:=key _ g S H a w ho R h0 rfl b kk cs ov hZ;exact⟨e,a',w',hq,.of_steps (.one (fenced_calm (F:=FR ro) (fr:=b.atR a (.code (.loop c)::kk)) trivial hZ rfl) stepR_loop) gC⟩
 |.exit id,Q,g,S,H,a,w,_,bC,ho,R,h=>wpIn_exit ⟨g,S,H,ho,R,h⟩
 |.ret,Q,g,S,H,a,w,_,bC,ho,R,h=>wpIn_ret ⟨g,S,H,ho,R,h⟩
 |.rangeFunc ..,_,_,_,_,_,_,_,_,_,_,h=>h.elim
 |.scope _,_,_,_,_,_,_,_,_,_,_,h=>h.elim
 |.label _,_,_,_,_,_,_,_,_,_,_,h=>h.elim
 |.goto _,_,_,_,_,_,_,_,_,_,_,h=>h.elim
 |.refuse _,_,_,_,_,_,_,_,_,_,_,h=>h.elim
def SW.sH (hG:av GI) (hm:P.follows .mixedOrders=true) {c:Code} (hc:iW c=true) (bC:∀ d∈(cE P n c).names,¬ old.bx d) {ac:ae} (ja:cE P n c=ac)
  (h:bq P GI ac (Q.bq old) S H):SW P GI n ro c Q old S H:=by
 subst ja;intro w0 g a w m db ho R
 exact wpIn_mono (iq hG db hm c _ g S H a w hc bC ho R h) λ_ _ _ hq=>vU hq
end
def rN(g:Gh)(b:Nat):Prop:=g.base<=b/\g.hi b=0/\g.owner b=none/\∀i,g.al i≠some b
structure dG(M:Nat->Prop)(w w':World):Prop where
 os:w'.os=w.os
 tape:w'.tape=w.tape
 output:w'.output=w.output
 size:w.heap.size<=w'.heap.size
 block:∀b,b<w.heap.size->¬M b->w'.heap[b]?=w.heap[b]?
def dG.refl(M:Nat->Prop)(w:World):dG M w w:=⟨rfl,rfl,rfl,Nat.le_refl _,λ_ _ _=>rfl⟩
def dG.trans{M M' UM:Nat->Prop}{w w' iU:World}(h:dG M w w')(h':dG M' w' iU)(h1:∀b,M b->UM b)(h2:∀b,M' b->b<w.heap.size->UM b):dG UM w iU:=
 ⟨h'.os.trans h.os,h'.tape.trans h.tape,h'.output.trans h.output,Nat.le_trans h.size h'.size,λb hb hm=>
  (h'.block b (Nat.lt_of_lt_of_le hb h.size) λhh=>hm (h2 b hh hb)).trans (h.block b hb λhh=>hm (h1 b hh))⟩
def dG.gP{M:Nat->Prop}{w w':World}(h:Below w.heap.size w w'):dG M w w':=⟨h.os,h.tape,h.output,h.size,λb hb _=>h.block b hb⟩
def dG.below{M:Nat->Prop}{w w':World}(h:dG M w w'){k:Nat}(hk:k<=w.heap.size)(hM:∀b,M b->k<=b):Below k w w':=
 ⟨h.os,h.tape,h.output,h.size,λb hb=>h.block b (Nat.lt_of_lt_of_le hb hk) λhm=>by have:=hM b hm;omega⟩
section
variable{P:Program}{w0:World}{n:Nat}{g:Gh}{S:af}{H:ah}{a:Act}{w w':World}
def Rel.fQ(R:Rel P w0 n bp g S H a w){M:Nat->Prop}(ht:dG M w w')(hM:∀b,M b->rN g b)(hk:∀b,M b->g.old.keep b=none):Rel P w0 n bp g S H a w':=by
 have gk:aE g.Pr g.Pr w w':=aE.jj λb k ao hp=>ht.block b ao λhm=>by
  obtain⟨h1,h2,_⟩:=hM b hm;rcases hp with hp|hp
  .omega
  .rw[h2]at hp;omega
 refine R.ext rfl rfl rfl gk ?_ ?_ ?_ ?_ ?_ ht.size
 .intro i b hi;obtain⟨_,_,_,_,_,h3,_⟩:=R.box i b hi;exact⟨ht.block b (Array.getElem?_eq_some_iff.1 h3).1 λhm=>(hM b hm).2.2.2 i hi,rfl,rfl⟩
 .intro b loc ho
  have ao:b<w.heap.size:=by
   rcases Nat.lt_or_ge b w.heap.size with h|h
   .exact h
   .rw[(R.fresh b h).2]at ho;cases ho
  exact⟨ht.block b ao λhm=>(by rw[(hM b hm).2.2.1]at ho;cases ho),rfl,ho⟩
 .exact R.below.trans (ht.below (by rw[R.base];exact R.below.size) λb hm=>(hM b hm).1)
 .exact λb hb=>R.fresh b (Nat.le_trans ht.size hb)
 .intro b o Y2 ho;exact⟨by rw[ht.block b (Array.getElem?_eq_some_iff.1 ho).1 (λhm=>by rw[hk b hm]at Y2;cases Y2)];exact ho,rfl,rfl⟩
open Classical in
noncomputable def Gh.kF(g:Gh)(G:Nat->Prop)(cy:Nat->Nat):Gh:={ g with hi:=λb=>if G b then cy b else g.hi b }
def Rel.kF(R:Rel P w0 n bp g S H a w){G:Nat->Prop}(cy:Nat->Nat)(hG:∀b,G b->rN g b/\b<w.heap.size/\g.old.keep b=none):Rel P w0 n bp (g.kF G cy) S H a w:=by
 have hn:∀b,¬G b->(g.kF G cy).hi b=g.hi b:=λb hb=>by simp[Gh.kF,hb]
 have lx:∀b k,g.Pr b k->(g.kF G cy).Pr b k:=by
  intro b k hp
  by_cases hb:G b
  .obtain⟨⟨h1,h2,_⟩,_⟩:=hG b hb;rcases hp with hp|hp
   .omega
   .rw[h2]at hp;omega
  .rcases hp with hp|hp
   .exact .inl hp
   .exact .inr ⟨hp.1,by rw[hn b hb];exact hp.2⟩
 refine R.ext (g':=g.kF G cy) rfl rfl rfl (aE.same λb k _ hp=>lx b k hp) ?_ ?_ R.below ?_ ?_ (Nat.le_refl _)
 .intro i b hi;exact⟨rfl,hn b λhb=>(hG b hb).1.2.2.2 i hi,rfl⟩
 .intro b loc ho;exact⟨rfl,hn b (λhb=>by rw[(hG b hb).1.2.2.1]at ho;cases ho),ho⟩
 .intro b hb;exact⟨by rw[hn b (λh=>by have:=(hG b h).2.1;omega)];exact(R.fresh b hb).1,(R.fresh b hb).2⟩
 .intro b o hk ho;exact⟨ho,hn b (λh=>by rw[(hG b h).2.2]at hk;cases hk),rfl⟩
def Rel.vB(R:Rel P w0 n bp g S H a w){l:Nat}{o:Obj}(hl:g.old.keep l=some o)(o':Obj):Rel P w0 n bp { g with old:={ g.old with keep:=au g.old.keep l (some o') } } S H a (w.putObj l o'):=by
 obtain⟨k1,k2,k3,k4,k5⟩:=R.kept l o hl;have ao:l<w.heap.size:=(Array.getElem?_eq_some_iff.1 k2).1
 have lU:∀b,b≠l->(w.putObj l o').heap[b]?=w.heap[b]?:=λb hb=>World.putObj_heap_other hb
 have bt:∀b k,g.Pr b k->b≠l:=by
  rintro b k hp rfl;rcases hp with hp|hp
  .omega
  .rw[k3]at hp;omega
 have hK:aE g.Pr g.Pr w (w.putObj l o'):=aE.jj λb k _ hp=>lU b (bt b k hp)
 have j_:(w.putObj l o').heap.size=w.heap.size:=by simp[World.putObj]
 refine{ size:=R.size,defers:=R.defers,facts:=λp hp=>(R.facts p hp).mono hK λ_ _ h=>h,slot:=λt ht hu=>(R.slot t ht hu).mono hK λ_ _ h=>h,own:=λt ht hu=>(R.own t ht hu).keep rfl λb' eN=>⟨lU b' (by rintro rfl;rw[k4]at eN;cases eN),rfl,eN⟩,box:=?_,jt:=R.jt,jq:=R.jq,inj:=R.inj,base:=R.base,below:=?_,fresh:=?_,still:=R.still.trans hK,grown:=by rw[j_];exact R.grown,kept:=?_ }
 .intro i b hi;obtain⟨cs,vs,ty,h1,h2,h3,h4,h5,h6,h7,h8,h9⟩:=R.box i b hi
  have fV:b≠l:=by rintro rfl;exact k5 i hi
  refine⟨cs,vs,ty,h1,h2,by rw[lU b fV];exact h3,h4,h5,h6,λj hj dJ=>(h7 j hj dJ).mono hK,λj hj dJ=>(h8 j hj dJ).keep rfl λb' eN=>⟨lU b' (by rintro rfl;rw[k4]at eN;cases eN),rfl,eN⟩,h9⟩
 .refine R.below.trans ⟨rfl,rfl,rfl,by rw[j_];exact Nat.le_refl _,λk hk=>lU k (by omega)⟩
 .intro b hb;rw[j_]at hb;exact R.fresh b hb
 .intro b ob h
  by_cases fV:b=l
  .subst fV
   have:ob=o':=by simpa[au]using h.symm
   subst this;exact⟨k1,World.putObj_heap_same ao,k3,k4,k5⟩
  .have h:g.old.keep b=some ob:=by simpa[au,fV]using h
   obtain⟨q1,q2,q3,q4,q5⟩:=R.kept b ob h;exact⟨q1,by rw[lU b fV];exact q2,q3,q4,q5⟩
def Rel.DA (R:Rel P w0 n bp g S H a w) (o2:Old) {a2:Act} {S2:af} (hc:o2.c=g.old.c) (aL:a2.tmps.size=n) (c_:a2.defers=o2.ds)
  (hf:∀p∈o2.facts,RV g.Pr g.al w p.1 p.2) (gx:aE o2.sp g.Pr o2.sw w) (l8:o2.sw.heap.size<=w.heap.size) (hk:∀b o,o2.keep b=some o->rN g b/\w.heap[b]?=some o)
  (hS:∀t,t<n->(S2 t).aw=S2 t/\RV g.Pr g.al w (S2 t) (a2.tmps.getD t undef)):Rel P w0 n bp { g with old:=o2 } S2 H a2 w:=by
 have lx:({ g with old:=o2 }:Gh).Pr=g.Pr:=by
  funext b k
  simp only[Gh.Pr,hc]
 refine{ size:=aL,defers:=c_,facts:=by rw[lx];exact hf,slot:=λt ht _=>by rw[lx];exact(hS t ht).2,own:=λt ht _=>?_,box:=?_,jt:=R.jt,jq:=R.jq,inj:=R.inj,base:=R.base,below:=R.below,fresh:=R.fresh,still:=by rw[lx];exact gx,grown:=l8,kept:=?_ }
 .rw[<-(hS t ht).1];exact dw.aw
 .intro i b hi;obtain⟨cs,vs,ty,h1,h2,h3,h4,h5,h6,h7,h8,h9⟩:=R.box i b hi;exact⟨cs,vs,ty,h1,h2,h3,h4,h5,h6,by rw[lx];exact h7,λj hj dJ=>(h8 j hj dJ).keep rfl λb hb=>⟨rfl,rfl,hb⟩,h9⟩
 .intro b o h;obtain⟨⟨q1,q3,q4,q5⟩,q2⟩:=hk b o h;exact⟨q1,q2,q3,q4,q5⟩
def PZ(L:Nat->Bool):AV->Bool
 |.box i _=>L i
 |.func ..|.fR _=>true
 |_=>false
def lW(L:Nat->Bool)(v:AV):AV:=match v with
 |.box i o=>if L i then .bj else .box i o
 |.func fn f c=>if f.any (PZ L)||c.any (PZ L)then .bj else .func fn f c
 |.fR _=>.bj
 |v=>v.aw
def RV.lW{Pr:Nat->Nat->Prop}{al:Nat->Option Nat}{w:World}{v:AV}{c:Value}{L:Nat->Bool}(h:RV Pr al w v c):RV Pr al w (Go.AL.lW L v) c:=by
 have hd:=h.aw
 cases v<;>simp only[Go.AL.lW]<;>(try exact hd)
 .split
  .exact .bj _
  .exact h
 .split
  .exact .bj _
  .exact h
 .exact .bj _
def Nx(L:Nat->Bool)(v:AV):(lW L v).aw=lW L v:=by
 cases v<;>simp only[lW]<;>try rfl
 .rename_i o es;cases o<;>rfl
 .split<;>rfl
 .split<;>rfl
def Lv(L:Nat->Bool)(v:AV):flat (lW L v)=true:=by
 cases v<;>simp only[lW]<;>try rfl
 .rename_i o es;cases o<;>rfl
 .split<;>rfl
 .split
  .rfl
  .rename_i fn f c h;simp only[Bool.not_eq_true,Bool.or_eq_false_iff,List.any_eq_false]at h;simp only[flat,Bool.and_eq_true,List.all_eq_true];refine⟨λv hv=>?_,λv hv=>?_⟩
   .have:=h.1 v hv
    cases v<;>first|rfl|(cases this;done)
   .have:=h.2 v hv
    cases v<;>first|rfl|(cases this;done)
def G5(L:Nat->Bool)(v:AV)(d:Nat)(hd:L d=true):aZ d (lW L v)=lW L v:=by
 have key:∀v,PZ L v=false->¬h_ d v=true:=by
  intro v hv hs
  cases v<;>simp only[h_]at hs<;>(try cases hs)<;>(try cases hv)
  simp only[beq_iff_eq]at hs;subst hs;simp only[PZ,hd]at hv;cases hv
 cases v<;>simp only[lW]<;>try rfl
 .rename_i o es;cases o<;>rfl
 .split
  .rfl
  .rename_i i o h;simp only[aZ];rw[if_neg];rintro rfl;exact h hd
 .split
  .rfl
  .rename_i fn f c h;simp only[Bool.not_eq_true,Bool.or_eq_false_iff,List.any_eq_false]at h;simp only[aZ];rw[if_neg];simp only[Bool.or_eq_true,List.any_eq_true,not_or,not_exists,not_and];exact⟨λv hv=>key v (h.1 v hv),λv hv=>key v (h.2 v hv)⟩
end
structure Cons(P:Program)(GI:World->Prop)(l:Nat)(xs:List AV) where
 J:Nat->(Nat->Prop)->(Nat->Nat->Prop)->World->Prop
 X:(Nat->Prop)->(Nat->Nat->Prop)->World->Prop
 gi:∀{k M Pr w},J k M Pr w->GI w
 apart:∀{k M Pr w},J k M Pr w->∀b j,M b->¬Pr b j
 fQ:∀{k M M' Pr w w'},J k M Pr w->dG M w w'->(∀b,M' b->b<w'.heap.size/\(M b\/w.heap.size<=b))->J k M' Pr w'
 Vb:∀{M M' Pr w w'},X M Pr w->dG M w w'->(∀b,M' b->b<w'.heap.size/\(M b\/w.heap.size<=b))->X M' Pr w'
 round:∀{k:Nat}(hk:k<xs.length){M Pr w}(G:Nat->Prop)(cy:Nat->Nat)(c:Value),J k M Pr w->(∀b,G b->M b)->RD (λb j=>Pr b j\/(G b/\j<cy b)) w xs[k] c->
  ∃f tmps assign body,(Instr.yield l #[c]).run P w=.ok (.round l f tmps assign body) w/\
   ∀m,RoundIn (FR none) m P l f tmps assign body w λe w'=>(∀b,M b->¬G b->w'.heap[b]?=w.heap[b]?)/\∃cS,aE Pr cS w w'/\
    ((e=.returned (.bool true)/\J (k+1) (λb=>M b/\¬G b) cS w')\/(e=.returned (.bool false)/\X (λb=>M b/\¬G b) cS w'))
def bO:Nat->Option Nat:=λ_=>none
def mN(P:Program)(GI:World->Prop)(f:Nat)(caps:List AV)(xs:List AV):Prop:=
 ∀(l:Nat)(C:Cons P GI l xs)(w:World)(Pr:Nat->Nat->Prop)(a_:Array Value),C.J 0 (λ_=>False) Pr w->caps.length=a_.size->
  (∀i (h:i<caps.length)(h':i<a_.size),RV Pr bO w caps[i] a_[i])->
  Calls P f (#[.func (.yield l) #[] #[]]++a_) w λe w'=>∃v M cS,e=.returned v/\(C.J xs.length M cS w'\/C.X M cS w')
def C8:AV->Bool
 |.box ..|.func ..|.fR _=>false
 |_=>true
def HE:AV->Bool
 |.box ..|.fR _=>false
 |.func _ f c=>f.all C8&&c.all C8
 |_=>true
def RV.Kf{Pr:Nat->Nat->Prop}{al:Nat->Option Nat}{w:World}{v:AV}{c:Value}(h:RV Pr al w v c)(hv:C8 v=true):RV Pr Go.AL.bO w v c:=by
 cases h with
 |data v c h=>exact .data _ _ h
 |box=>cases hv
 |func=>cases hv
 |fR=>cases hv
 |bj c=>exact .bj c
def RV.bO{Pr:Nat->Nat->Prop}{al:Nat->Option Nat}{w:World}{v:AV}{c:Value}(h:RV Pr al w v c)(hv:HE v=true):RV Pr Go.AL.bO w v c:=by
 cases h with
 |data v c h=>exact .data _ _ h
 |box=>cases hv
 |func fn f c vs us h1 h2 r1 r2=>
  simp only[HE,Bool.and_eq_true,List.all_eq_true]at hv;exact .func _ _ _ _ _ h1 h2 (λi hi cy=>(r1 i hi cy).Kf (hv.1 _ (List.getElem_mem hi))) (λi hi cy=>(r2 i hi cy).Kf (hv.2 _ (List.getElem_mem hi)))
 |fR=>cases hv
 |bj c=>exact .bj c
def Old.mark(o:Old)(D:Nat):Old:={ o with ds:={ target:=.collected D,args:=#[] }::o.ds,keep:=au o.keep D (some (.deferred (some []))) }
def D5:dU->Option Code
 |.exit id=>some (.exit id)
 |.ret=>some .ret
 |_=>none
def jb(I:ah->Prop)(Ix:dU->ah->Prop):dU->af->ah->Prop
 |.normal,_,H=>I H
 |.panic _,_,_=>False
 |e,_,H=>Ix e H
def az(K:af->ah->Prop):dU->af->ah->Prop
 |.normal,S,H=>K S H
 |_,_,_=>False
section
variable{P:Program}{GI:World->Prop}{n:Nat}{S:af}{H:ah}
open Classical in
def SW.range (hG:av GI) (hm:P.follows .mixedOrders=true) {old:Old} {Q:gy} {Eg:Operand} {y:bZ} {p:Tmp} {assign body:Code} {f:Nat} {caps xs:List AV}
  (hg:dg n Eg=some y) (hS:ev S y=.func (.func f) [] caps) (hf:dW P f=true) (nr:caps.all HE=true) (mh:mN P GI f caps xs) (hp:p<n) (iY:∀x∈xs,x.aw=x)
  (L:Nat->Bool) {aa ab:ae} (UI:cE P n assign=aa) (LR:cE P n body=ab) (hLa:∀d∈aa.names,L d=true) (hLb:∀d∈ab.names,L d=true) (hLo:∀d,L d=true->¬old.bx d)
  (yi:iW assign=true) (mw:iW body=true) (I:Nat->ah->Prop) (Ix:dU->ah->Prop) (h0:I 0 H)
  (qE:∀k (hk:k<xs.length) H',I k H'->bq P GI aa (az (bq P GI ab (jb (I (k+1)) Ix))) (au (λt=>lW L (S t)) p xs[k]) H')
  (UQ:∀D H',old.keep D=none->I xs.length H'->Q .normal (old.mark D) (λt=>lW L (S t)) H')
  (VI:∀D e H',old.keep D=none->(D5 e).isSome=true->Ix e H'->Q e (old.mark D) (λt=>lW L (S t)) H'):
  SW P GI n none (.rangeFunc Eg #[p] assign body) Q old S H:=by
 subst UI LR;intro w0 g a w m db ho R;subst ho;refine wpIn_rangeFunc ?_;intro fn hfn
 obtain⟨rec,uF⟩:∃rec:LoopState->Option Code->Loop,rec=λst pe=>{ state:=st,pending:=pe,fn,tmps:=a.tmps,params:=#[p],assign,body,defers:=w.heap.size }:=⟨_,rfl⟩
 obtain⟨W1,Sh⟩:∃W1,(w.alloc (.deferred (some []))).alloc (.loop (rec .ready none))=W1:=⟨_,rfl⟩
 obtain⟨D,hD⟩:∃D,w.heap.size=D:=⟨_,rfl⟩
 have hL1:W1.heap[D+1]?=some (.loop (rec .ready none)):=by
  rw[<-Sh,<-hD];have:=World.alloc_heap_new (w.alloc (.deferred (some []))) (.loop (rec .ready none));rwa [World.size_alloc]at this
 have hK1:W1.heap[D]?=some (.deferred (some [])):=by
  rw[<-Sh,<-hD];exact(Below.heap_alloc _ _ _ (by simp)).trans (World.alloc_heap_new w _)
 have mR:Below w.heap.size w W1:=by
  rw[<-Sh];exact(((Below.refl _ w).alloc (Nat.le_refl _) _).alloc (by simp) _)
 have R1:Rel P w0 n bp g S H a W1:=R.oA mR
 have hle:g.base<=D:=by rw[<-hD,R.base];exact R.below.size
 have oQ:∀b,D<=b->rN g b:=λb hb=>⟨by omega,(R.fresh b (by omega)).1,(R.fresh b (by omega)).2,λi hi=>by
  obtain⟨_,_,_,_,_,h3,_⟩:=R.box i b hi;have:=(Array.getElem?_eq_some_iff.1 h3).1
  omega⟩
 have yp:∀b,D<=b->g.old.keep b=none:=λb hb=>by
  cases hk:g.old.keep b with
  |none=>rfl
  |some o=>have:=(Array.getElem?_eq_some_iff.1 (R.kept b o hk).2.1).1;omega
 have pW:=R.ev hg (λ_ _=>id);rw[hS]at pW
 obtain⟨us,pN,jw,T7⟩:∃us:Array Value,a.eval Eg=.func (.func f) #[] us/\caps.length=us.size/\∀i (h:i<caps.length)(h':i<us.size),RV g.Pr bO W1 caps[i] us[i]:=by
  generalize hq:a.eval Eg=q at pW
  cases pW with
  |data _ _ h=>cases h
  |func _ _ _ vs us h1 h2 r1 r2=>
   have:vs=#[]:=Array.eq_empty_of_size_eq_zero (by simpa using h1.symm);subst this;refine⟨us,rfl,h2,λi h h'=>?_⟩;have:=(r2 i h h').bO (by simp only[List.all_eq_true]at nr;exact nr _ (List.getElem_mem h))
   exact this.mono (aE.gr (λb ao=>mR.block b ao) λ_ _ _ h=>h) λ_ _ h=>h
 let Se:af:=λt=>lW L (S t)
 let al:Act:={ tmps:=a.tmps,defers:=[] }
 let fs:List (AV×Value):=(List.range n).map λt=>(Se t,a.tmps.getD t undef)
 let kp:Nat->Option Obj:=au (au g.old.keep D (some (.deferred (some [])))) (D+1) (some (.loop (rec .ready none)))
 have bo:∀q∈fs++g.old.facts,flat q.1=true/\∀d,¬(L d=false)->aZ d q.1=q.1:=by
  intro q hq;rcases List.mem_append.1 hq with h|h
  .obtain⟨t,_,rfl⟩:=List.mem_map.1 h;exact⟨Lv L _,λd hd=>G5 L _ d (by simpa using hd)⟩
  .exact⟨(g.old.ok q h).1,λd hd=>(g.old.ok q h).2 d (hLo d (by simpa using hd))⟩
 let mk:(Nat->Option Obj)->(Nat->Nat->Prop)->World->Old:=λkeep sp sw=>
  { c:=g.old.c,facts:=fs++g.old.facts,bx:=λd=>L d=false,ds:=[],keep:=keep,sp:=sp,sw:=sw,ok:=bo }
 let BZ:Old:=mk kp g.old.sp g.old.sw
 let kx:Code->Nat->Option Obj:=λc=>au kp (D+1) (some (.loop (rec .done (some c))))
 have WO:∀t,(Se t).aw=Se t:=λt=>Nx L _
 have aL:a.tmps.size=n:=R.size
 have Js:∀{g':Gh}{W:World}{H':ah}{n' S' a'},Rel P w0 n' bp g' S' H' a' W->g'.old.facts=fs++g.old.facts->∀t,t<n->(Se t).aw=Se t/\RV g'.Pr g'.al W (Se t) (a.tmps.getD t undef):=by
  intro g' W H' n' S' a' R' hfa t ht;exact⟨WO t,R'.facts (Se t,a.tmps.getD t undef) (by rw[hfa];exact List.mem_append_left _ (List.mem_map.2 ⟨t,List.mem_range.2 ht,rfl⟩))⟩
 have abl:∀b,D<=b->b≠D->b≠D+1->kp b=none:=λb hb h1 h2=>by simp[kp,au,h1,h2,yp b hb]
 have KQ:kp (D+1)=some (.loop (rec .ready none)):=aN _ _ _
 let J:Nat->(Nat->Prop)->(Nat->Nat->Prop)->World->Prop:=λk M Pr W=>∃g' H',Rel P w0 n bp g' Se H' al W/\g'.old=BZ/\g'.Pr=Pr/\I k H'/\∀b,M b->rN g' b/\b<W.heap.size/\kp b=none
 let X:(Nat->Prop)->(Nat->Nat->Prop)->World->Prop:=λM Pr W=>∃e jc g' H',Rel P w0 n bp g' Se H' al W/\g'.old=mk (kx jc) g.old.sp g.old.sw/\D5 e=some jc/\g'.Pr=Pr/\Ix e H'/\∀b,M b->rN g' b/\b<W.heap.size/\kp b=none
 have Ja:∀{g':Gh}{H':ah}{W:World},Rel P w0 n bp g' Se H' al W->GI W:=λR'=>by
  have hb:=R'.below;rw[R'.base]at hb;exact hG w0 _ db hb
 have Of:∀{g':Gh}{H':ah}{W:World}(k':Nat->Option Obj),Rel P w0 n bp g' Se H' al W->g'.old.keep=k'->(∀b,kp b=none↔k' b=none)->∀b,W.heap.size<=b->rN g' b/\kp b=none:=by
  intro g' H' W k' R' hk nP b hb;refine⟨⟨?_,(R'.fresh b hb).1,(R'.fresh b hb).2,λi hi=>?_⟩,?_⟩
  .have:=R'.below.size;rw[R'.base];omega
  .obtain⟨_,_,_,_,_,h3,_⟩:=R'.box i b hi;have:=(Array.getElem?_eq_some_iff.1 h3).1;omega
  .rw[nP]
   cases hq:k' b with
   |none=>rfl
   |some o=>have:=(Array.getElem?_eq_some_iff.1 (R'.kept b o (by rw[hk];exact hq)).2.1).1;omega
 have Ak:∀c b,kp b=none↔kx c b=none:=λc b=>by
  by_cases hb:b=D+1
  .subst hb;simp[KQ,kx,au]
  .simp[kx,au,hb]
 let C:Cons P GI (D+1) xs:={
  J:=J
  X:=X
  gi:=λ⟨g',H',R',_⟩=>Ja R'
  apart:=by
   rintro k M Pr W ⟨g',H',R',e1,rfl,e3,e4⟩ b j hb hp;obtain⟨⟨h1,h2,_⟩,_⟩:=e4 b hb;rcases hp with hp|hp
   .omega
   .rw[h2]at hp;omega
  fQ:=by
   rintro k M M' Pr W W' ⟨g',H',R',e1,e2,e3,e4⟩ ht WH;have R2:=R'.fQ ht (λb hb=>(e4 b hb).1) (λb hb=>by rw[e1];exact(e4 b hb).2.2);refine⟨g',H',R2,e1,e2,e3,λb hb=>?_⟩;obtain⟨q1,q2⟩:=WH b hb;rcases q2 with q2|q2
   .exact⟨(e4 b q2).1,q1,(e4 b q2).2.2⟩
   .obtain⟨z1,z2⟩:=Of kp R' (by rw[e1]) (λ_=>Iff.rfl) b q2;exact⟨z1,q1,z2⟩
  Vb:=by
   rintro M M' Pr W W' ⟨e,jc,g',H',R',e1,ej,e2,e3,e4⟩ ht WH;have R2:=R'.fQ ht (λb hb=>(e4 b hb).1) (λb hb=>by rw[e1];exact(Ak jc b).1 (e4 b hb).2.2);refine⟨e,jc,g',H',R2,e1,ej,e2,e3,λb hb=>?_⟩;obtain⟨q1,q2⟩:=WH b hb;rcases q2 with q2|q2
   .exact⟨(e4 b q2).1,q1,(e4 b q2).2.2⟩
   .obtain⟨z1,z2⟩:=Of (kx jc) R' (by rw[e1]) (Ak jc) b q2;exact⟨z1,q1,z2⟩
  round:=by
   rintro k hk M Pr W G cy c ⟨g',H',R',e1,rfl,e3,e4⟩ FW hx
   have hkg:∀b,M b->g'.old.keep b=none:=λb hb=>by rw[e1];exact(e4 b hb).2.2
   have Rc:=R'.kF (G:=G) cy (λb hb=>⟨(e4 b (FW b hb)).1,(e4 b (FW b hb)).2.1,hkg b (FW b hb)⟩)
   obtain⟨gc,Cq⟩:∃gc,g'.kF G cy=gc:=⟨_,rfl⟩
   rw[Cq]at Rc
   have Ud:gc.old=BZ:=by rw[<-Cq];exact e1
   have ZI:aE g'.Pr gc.Pr W W:=aE.same λb j _ Gn=>by
    rw[<-Cq]
    by_cases hb:G b
    .obtain⟨⟨h1,h2,_⟩,_⟩:=e4 b (FW b hb);rcases Gn with hp|hp
     .omega
     .rw[h2]at hp;omega
    .rcases Gn with hp|hp
     .exact .inl hp
     .exact .inr ⟨hp.1,by simpa[Gh.kF,hb]using hp.2⟩
   have Af:RD gc.Pr W xs[k] c:=hx.mono (aE.same λb j ao Gn=>by
    rcases Gn with Gn|⟨h1,h2⟩
    .by_cases hex:∃u,W.cell? ⟨b,j,none⟩=some u
     .obtain⟨u,hu⟩:=hex;exact(ZI.cell b j Gn u hu).1
     .rw[<-Cq]
      by_cases hb:G b
      .obtain⟨⟨h1,h2,_⟩,_⟩:=e4 b (FW b hb);rcases Gn with hp|hp
       .omega
       .rw[h2]at hp;omega
      .rcases Gn with hp|hp
       .exact .inl hp
       .exact .inr ⟨hp.1,by simpa[Gh.kF,hb]using hp.2⟩
    .rw[<-Cq]
     exact .inr ⟨(e4 b (FW b h1)).1.1,by simpa[Gh.kF,h1]using h2⟩)
   let kr:Nat->Option Obj:=λb=>if M b/\¬G b then W.heap[b]? else kp b
   have ZM:¬M (D+1):=λhh=>by have:=(e4 _ hh).2.2;rw[KQ]at this;cases this
   have krl:kr (D+1)=some (.loop (rec .ready none)):=by simp[kr,ZM,KQ]
   have Rr:=Rc.DA (mk kr gc.Pr W) (a2:={ tmps:=a.tmps.setIfInBounds p c,defers:=[] }) (S2:=au Se p xs[k]) (by rw[Ud]) (by simpa using aL) rfl
    (λq hq=>Rc.facts q (by rw[Ud];exact hq)) (aE.same λ_ _ _ h=>h) (Nat.le_refl _)
    (λb ob hb=>by
     simp only[mk,kr]at hb;split at hb
     .rename_i wC;obtain⟨h1,h2,h3,h4⟩:=(e4 b wC.1).1;exact⟨⟨by rw[<-Cq];exact h1,by rw[<-Cq];simpa[Gh.kF,wC.2]using h2,by rw[<-Cq];exact h3,by rw[<-Cq];exact h4⟩,hb⟩
     .obtain⟨h1,h2,h3,h4,h5⟩:=Rc.kept b ob (by rw[Ud];exact hb)
      exact⟨⟨h1,h3,h4,h5⟩,h2⟩)
    (λt ht=>by
     by_cases Im:t=p
     .subst Im;rw[aN];refine⟨iY _ (List.getElem_mem hk),.data _ _ ?_⟩
      have:(a.tmps.setIfInBounds t c).getD t undef=c:=by simp[aL,ht]
      rw[this];exact Af
     .rw[aJ _ _ Im]
      have:(a.tmps.setIfInBounds p c).getD t undef=a.tmps.getD t undef:=by
       simp[Array.getElem?_setIfInBounds_ne (Ne.symm Im)]
      rw[this]
      exact⟨WO t,(Rc.slot t ht id)⟩)
   have va:W.heap[D+1]?=some (.loop (rec .ready none)):=(R'.kept (D+1) _ (by rw[e1];exact KQ)).2.1;have hy:=run_yield (P:=P) (args:=#[c]) va (by rw[uF];rfl);rw[uF]at hy
   have AE:(Instr.yield (D+1) #[c]).run P W=.ok (.round (D+1) fn (a.tmps.setIfInBounds p c) assign body) W:=by rw[hy];simp
   refine⟨fn,_,assign,body,AE,λm'=>roundIn_of_wpIn (F:=FR none) trivial ?_⟩;show assign.wpIn (FR (some (D+1))) m' P _ { tmps:=a.tmps.setIfInBounds p c,defers:=[] } W;refine wpIn_mono (iq hG db hm (old:=mk kr gc.Pr W) assign _ _ _ H' _ W yi (λd hd (hh:L d=false)=>by have:=hLa d hd;rw[this]at hh;cases hh) rfl Rr (qE k hk H' e3)) ?_;intro e a1 w1 hq
   cases e with
   |normal=>
    obtain⟨g1,S1,H1,lN,R1',hb⟩:=hq;have uq:w1.heap[D+1]?=some (.loop (rec .ready none)):=(R1'.kept (D+1) _ (by rw[lN];exact krl)).2.1;have Qj:=run_beginRound (P:=P) uq (by rw[uF]);refine⟨_,Qj,?_⟩;have R2:=R1'.vB (l:=D+1) (o:=.loop (rec .ready none)) (by rw[lN];exact krl) (.loop { rec .ready none with state:=.busy })
    let kb:Nat->Option Obj:=au kr (D+1) (some (.loop { rec .ready none with state:=.busy }))
    have im:({ g1.old with keep:=au g1.old.keep (D+1) (some (.loop { rec .ready none with state:=.busy })) }:Old)=mk kb gc.Pr W:=by rw[lN]
    refine wpIn_mono (iq hG db hm (old:=mk kb gc.Pr W) body _ _ _ _ _ _ mw (λd hd (hh:L d=false)=>by have:=hLb d hd;rw[this]at hh;cases hh) im R2 hb) ?_;have XP:kb (D+1)=some (.loop { rec .ready none with state:=.busy }):=aN _ _ _
    have fin:∀ (g3:Gh) (S3:af) (H3:ah) (a3:Act) (w3:World) (jump:Option Code),g3.old=mk kb gc.Pr W→Rel P w0 n bp g3 S3 H3 a3 w3 →
      ∃w4,(Instr.endRound (D+1) jump).run P w3=.ok (.bool jump.isNone) w4/\(∀b,M b->¬G b->w4.heap[b]?=W.heap[b]?)/\∃g4,aE g'.Pr g4.Pr W w4/\
       Rel P w0 n bp g4 Se H3 al w4/\g4.old=mk (au kp (D+1) (some (.loop (rec (if jump.isNone then .ready else .done) jump)))) g.old.sp g.old.sw/\∀b,M b/\¬G b->rN g4 b/\b<w4.heap.size/\kp b=none:=by
     intro g3 S3 H3 a3 w3 jump pD R3;have hl3:w3.heap[D+1]?=some (.loop { rec .ready none with state:=.busy }):=(R3.kept (D+1) _ (by rw[pD];exact XP)).2.1;have Gs:=run_endRound (P:=P) jump hl3
     obtain⟨w4,kI⟩:∃w4,w3.putObj (D+1) (.loop { ({ rec .ready none with state:=.busy }:Loop)with state:=if jump.isNone then .ready else .done,pending:=jump })=w4:=⟨_,rfl⟩
     rw[kI]at Gs;have R4:=R3.vB (l:=D+1) (o:=.loop { rec .ready none with state:=.busy }) (by rw[pD];exact XP) (.loop { ({ rec .ready none with state:=.busy }:Loop)with state:=if jump.isNone then .ready else .done,pending:=jump });rw[kI]at R4
     have AS:({ ({ rec .ready none with state:=.busy }:Loop)with state:=if jump.isNone then .ready else .done,pending:=jump })=rec (if jump.isNone then .ready else .done) jump:=by rw[uF]
     rw[AS]at R4
     have vK:({ g3.old with keep:=au g3.old.keep (D+1) (some (.loop (rec (if jump.isNone then .ready else .done) jump))) }:Old)=mk (au kr (D+1) (some (.loop (rec (if jump.isNone then .ready else .done) jump)))) gc.Pr W:=by
      rw[pD];simp only[mk,Old.mk.injEq,true_and,and_true]
      funext b
      by_cases gQ:b=D+1
      .subst gQ;simp[au]
      .simp[au,kb,gQ]
     obtain⟨g4,KJ⟩:∃g4,({ g3 with old:={ g3.old with keep:=au g3.old.keep (D+1) (some (.loop (rec (if jump.isNone then .ready else .done) jump))) } }:Gh)=g4:=⟨_,rfl⟩
     rw[KJ]at R4
     have xh:g4.old=mk (au kr (D+1) (some (.loop (rec (if jump.isNone then .ready else .done) jump)))) gc.Pr W:=by rw[<-KJ];exact vK
     have hKW:aE g'.Pr g4.Pr W w4:=ZI.trans (by have:=R4.still;rw[xh]at this;exact this)
     have aaB:∀b,M b->b≠D+1:=by rintro b hb rfl;exact ZM hb
     have Ur:∀b,M b->¬G b->∃ob,W.heap[b]?=some ob/\g4.old.keep b=some ob:=by
      intro b hb rE;have ao:=(e4 b hb).2.1;refine⟨W.heap[b],by simp[ao],?_⟩;rw[xh];simp[mk,au,aaB b hb,kr,hb,rE,ao]
     have R5:=R4.DA (mk (au kp (D+1) (some (.loop (rec (if jump.isNone then .ready else .done) jump)))) g.old.sp g.old.sw) (a2:=al) (S2:=Se) (by rw[xh]) aL rfl
      (λq hq=>R4.facts q (by rw[xh];exact hq)) (by
       have h1:=R'.still;rw[e1]at h1
       exact h1.trans hKW) (by
       have h1:=R'.grown;rw[e1]at h1;have h2:=R4.grown;rw[xh]at h2
       exact Nat.le_trans h1 h2)
      (λb ob hb=>by
       have hq:g4.old.keep b=some ob:=by
        rw[xh];simp only[mk]at hb⊢
        by_cases gQ:b=D+1
        .subst gQ;simpa[au]using hb
        .simp only[aJ _ _ gQ]at hb⊢;simp only[kr];rw[if_neg];exact hb;rintro⟨hMb,_⟩;rw[(e4 b hMb).2.2]at hb;cases hb
       obtain⟨h1,h2,h3,h4,h5⟩:=R4.kept b ob hq
       exact⟨⟨h1,h3,h4,h5⟩,h2⟩)
      (λt ht=>Js R4 (by rw[xh]) t ht)
     refine⟨w4,Gs,λb hb rE=>?_,{ g4 with old:=mk (au kp (D+1) (some (.loop (rec (if jump.isNone then .ready else .done) jump)))) g.old.sp g.old.sw },?_,R5,rfl,λb hb=>?_⟩
     .obtain⟨ob,h1,h2⟩:=Ur b hb rE;rw[h1];exact(R4.kept b ob h2).2.1
     .have:(({ g4 with old:=mk (au kp (D+1) (some (.loop (rec (if jump.isNone then .ready else .done) jump)))) g.old.sp g.old.sw }:Gh)).Pr=g4.Pr:=by
       funext b j;simp only[Gh.Pr,xh,mk]
      rw[this];exact hKW
     .obtain⟨ob,h1,h2⟩:=Ur b hb.1 hb.2;obtain⟨q1,q2,q3,q4,q5⟩:=R4.kept b ob h2;exact⟨⟨q1,q3,q4,q5⟩,(Array.getElem?_eq_some_iff.1 q2).1,(e4 b hb.1).2.2⟩
    intro e2 a3 w3 K0
    cases e2 with
    |normal=>
     obtain⟨g3,S3,H3,pD,R3,PL⟩:=K0;obtain⟨w4,Gs,q1,g4,q3,R4,q4,q5⟩:=fin g3 S3 H3 a3 w3 none pD R3;refine⟨_,w4,Gs,q1,g4.Pr,q3,.inl ⟨rfl,g4,H3,R4,?_,rfl,PL,q5⟩⟩;rw[q4];simp only[BZ,mk,Old.mk.injEq,true_and,and_true,Option.isNone_none,if_true]
     funext b
     by_cases gQ:b=D+1
     .subst gQ;simp[au,KQ]
     .simp[au,gQ]
    |ret=>
     obtain⟨g3,S3,H3,pD,R3,PL⟩:=K0;obtain⟨w4,Gs,q1,g4,q3,R4,q4,q5⟩:=fin g3 S3 H3 a3 w3 (some .ret) pD R3;exact⟨_,w4,Gs,q1,g4.Pr,q3,.inr ⟨rfl,.ret,.ret,g4,H3,R4,q4,rfl,rfl,PL,q5⟩⟩
    |exit id=>
     obtain⟨g3,S3,H3,pD,R3,PL⟩:=K0;obtain⟨w4,Gs,q1,g4,q3,R4,q4,q5⟩:=fin g3 S3 H3 a3 w3 (some (.exit id)) pD R3;exact⟨_,w4,Gs,q1,g4.Pr,q3,.inr ⟨rfl,.exit id,.exit id,g4,H3,R4,q4,rfl,rfl,PL,q5⟩⟩
    |panic ch=>obtain⟨_,_,_,_,_,_,_,_,_,_,hh⟩:=K0;exact hh.elim
    |goto l=>exact K0.elim
    |outgrown=>exact K0.elim
   |exit id=>obtain⟨_,_,_,_,_,hh⟩:=hq;exact hh.elim
   |ret=>obtain⟨_,_,_,_,_,hh⟩:=hq;exact hh.elim
   |panic ch=>obtain⟨_,_,_,_,_,_,_,_,_,_,hh⟩:=hq;exact hh.elim
   |goto l=>exact hq.elim
   |outgrown=>exact hq.elim }
 have TP:∀ (g':Gh) (H':ah) (w2:World) (st:LoopState) (pe:Option Code),st ≠ .busy→Rel P w0 n bp g' Se H' al w2→g'.old=mk (au kp (D+1) (some (.loop (rec st pe)))) g.old.sp g.old.sw →
   ∃w4 g4,(Instr.endLoop (D+1)).run P w2=.ok pe w4/\Rel P w0 n bp g4 Se H' { a with defers:=[{ target:=.collected D,args:=#[] }]++a.defers } w4/\g4.old=g.old.mark D:=by
  intro g' H' w2 st pe gx R' e1
  have oU:g'.old.keep (D+1)=some (.loop (rec st pe)):=by rw[e1];exact aN _ _ _
  have oL:=(R'.kept (D+1) _ oU).2.1;have Ag:=run_endLoop (P:=P) oL (by rw[uF];exact gx);have R2:=R'.vB oU (.loop { rec st pe with state:=.exhausted })
  obtain⟨W4,Yc⟩:∃W4,w2.putObj (D+1) (.loop { rec st pe with state:=.exhausted })=W4:=⟨_,rfl⟩
  rw[Yc]at Ag R2
  have Ve:(rec st pe).pending=pe:=by rw[uF]
  rw[Ve]at Ag
  have hold:∀b ob,(g.old.mark D).keep b=some ob->({ g' with old:={ g'.old with keep:=au g'.old.keep (D+1) (some (.loop { rec st pe with state:=.exhausted })) } }:Gh).old.keep b=some ob:=by
   intro b ob hb;simp only[Old.mark]at hb
   by_cases Kt:b=D
   .subst Kt;rw[aN]at hb;cases hb;show au g'.old.keep (b+1) _ b=_;rw[aJ _ _ (by omega),e1];show au kp (b+1) _ b=_;rw[aJ _ _ (by omega)];show au (au g.old.keep b _) (b+1) _ b=_;rw[aJ _ _ (by omega),aN]
   .rw[aJ _ _ Kt]at hb
    have ao:b<D:=by
     rcases Nat.lt_or_ge b D with h|h
     .exact h
     .rw[yp b h]at hb;cases hb
    show au g'.old.keep (D+1) _ b=_;rw[aJ _ _ (by omega),e1];show au kp (D+1) _ b=_;rw[aJ _ _ (by omega)];show au (au g.old.keep D _) (D+1) _ b=_;rw[aJ _ _ (by omega),aJ _ _ Kt];exact hb
  have R3:=R2.DA (g.old.mark D) (a2:={ a with defers:=[{ target:=.collected D,args:=#[] }]++a.defers }) (S2:=Se) (by show g.old.c=g'.old.c;rw[e1]) aL (by show[_]++a.defers=_::_;rw[R.defers];rfl) (λq hq=>R2.facts q ?_) ?_ ?_ (λb ob hb=>?_) (λt ht=>Js R2 (by show g'.old.facts=_;rw[e1]) t ht)
  .refine⟨_,_,Ag,R3,?_⟩
   rfl
  .show q∈g'.old.facts;rw[e1];exact List.mem_append_right _ hq
  .have h:=R2.still
   have:({ g' with old:={ g'.old with keep:=au g'.old.keep (D+1) (some (.loop { rec st pe with state:=.exhausted })) } }:Gh).old.sp=g.old.sp:=by show g'.old.sp=_;rw[e1]
   rw[this]at h
   have:({ g' with old:={ g'.old with keep:=au g'.old.keep (D+1) (some (.loop { rec st pe with state:=.exhausted })) } }:Gh).old.sw=g.old.sw:=by show g'.old.sw=_;rw[e1]
   rw[this]at h;exact h
  .have h:=R2.grown
   have:({ g' with old:={ g'.old with keep:=au g'.old.keep (D+1) (some (.loop { rec st pe with state:=.exhausted })) } }:Gh).old.sw=g.old.sw:=by show g'.old.sw=_;rw[e1]
   rw[this]at h;exact h
  .obtain⟨h1,h2,h3,h4,h5⟩:=R2.kept b ob (hold b ob hb);exact⟨⟨h1,h3,h4,h5⟩,h2⟩
 refine⟨D+1,[{ target:=.collected D,args:=#[] }],W1,{ target:=.fn (.func f) us,args:=#[.func (.yield (D+1)) #[] #[]] },W1,f,#[.func (.yield (D+1)) #[] #[]]++us,W1,?_,?_,λ_ _=>trivial,?_,λh=>by simp[FR,Fence.wide]at h,?_⟩
 .rw[<-Sh,uF,<-hD];exact run_enterLoop_outer _ _ _ _ _
 .simp only[resolve,pN];simp[go_sem]
 .simp[invoke,go_sem,eV hf]
 .refine eA.2 ((mh (D+1) C W1 g.Pr us ?_ jw T7).mono ?_)
  .refine⟨{ g with old:=BZ },H,R1.DA BZ rfl aL rfl (λq hq=>?_) R1.still R1.grown (λb ob hb=>?_) (λt ht=>⟨WO t,(R1.slot t ht id).lW⟩),rfl,rfl,h0,λb hb=>hb.elim⟩
   .rcases List.mem_append.1 hq with h|h
    .obtain⟨t,ht,rfl⟩:=List.mem_map.1 h;exact(R1.slot t (List.mem_range.1 ht) id).lW
    .exact R1.facts q h
   .simp only[BZ,mk,kp]at hb
    by_cases h1:b=D+1
    .subst h1;rw[aN]at hb;cases hb;exact⟨oQ _ (by omega),hL1⟩
    .rw[aJ _ _ h1]at hb
     by_cases h2:b=D
     .subst h2;rw[aN]at hb;cases hb;exact⟨oQ _ (by omega),hK1⟩
     .rw[aJ _ _ h2]at hb;obtain⟨q1,q2,q3,q4,q5⟩:=R1.kept b ob hb;exact⟨⟨q1,q3,q4,q5⟩,q2⟩
  .rintro e w2 ⟨v,M,cS,rfl,hJ|hX⟩
   .obtain⟨g',H',R',e1,_,hI,_⟩:=hJ
    have HK:au kp (D+1) (some (.loop (rec .ready none)))=kp:=by
     funext b
     by_cases hb:b=D+1
     .subst hb;rw[aN,KQ]
     .rw[aJ _ _ hb]
    obtain⟨w4,g4,h1,R4,h2⟩:=TP g' H' w2 .ready none (by simp) R' (by rw[HK];exact e1);exact⟨none,w4,h1,g4,Se,H',R4,by rw[h2];exact UQ D H' (yp D (Nat.le_refl _)) hI⟩
   .obtain⟨e,jc,g',H',R',e1,ej,_,hI,_⟩:=hX;obtain⟨w4,g4,h1,R4,h2⟩:=TP g' H' w2 .done (some jc) (by simp) R' e1;refine⟨some jc,w4,h1,?_⟩;have hq:=VI D e H' (yp D (Nat.le_refl _)) (by rw[ej];rfl) hI
    cases e<;>simp only[D5]at ej<;>cases ej
    .exact wpIn_exit ⟨g4,Se,H',R4,by rw[h2];exact hq⟩
    .exact wpIn_ret ⟨g4,Se,H',R4,by rw[h2];exact hq⟩
end
def fq(o:Old):Prop:=∃Ds:List Nat,Ds.Nodup/\o.ds=Ds.map (λD=>{ target:=.collected D,args:=#[] })/\∀D∈Ds,o.keep D=some (.deferred (some []))
def fq.plain{o:Old}(h:o.ds=[]):fq o:=⟨[],.nil,by simpa using h,by simp⟩
def fq.mark{o:Old}{D:Nat}(h:fq o)(hD:o.keep D=none):fq (o.mark D):=by
 obtain⟨Ds,h1,h2,h3⟩:=h
 have hn:D∉Ds:=λhm=>by rw[h3 D hm]at hD;cases hD
 refine⟨D::Ds,List.nodup_cons.2 ⟨hn,h1⟩,by simp[Old.mark,h2],λE hE=>?_⟩;rcases List.mem_cons.1 hE with rfl|hE
 .exact aN _ _ _
 .show au o.keep D _ E=_;rw[aJ _ _ (λe:E=D=>hn (by rw[<-e];exact hE))];exact h3 E hE
section
variable{P:Program}{GI:World->Prop}{w0:World}{n:Nat}{g:Gh}{S:af}{H:ah}{a:Act}{w:World}
def tg {F:Fence} {m:Nat} {fn:Func} {tmps:Array Value} {R:Ending→World→Prop}:∀ (Ds:List Nat) {g:Gh} {w:World},Rel P w0 n bp g S H a w→Ds.Nodup→(∀ D∈Ds,g.old.keep D=some (.deferred (some []))) →
  (∀g' w',Rel P w0 n bp g' S H a w'->g'.old.c=g.old.c->∃v,(results fn tmps).run P w'=.ok v w'/\R (.returned v) w')->
  LeavesInM F m P fn tmps R (Ds.map λD=>{ target:=.collected D,args:=#[] }) .returning w
 |[],g,w,R',_,_,NY=>NY g w R' rfl
 |D::Ds,g,w,R',cT,hk,NY=>by
  obtain⟨h1,h2⟩:=List.nodup_cons.1 cT;have hD:=hk D List.mem_cons_self;have R2:=R'.vB hD (.deferred none);refine⟨by simp,.inl ⟨D,_,rfl,run_takeDeferred (R'.kept D _ hD).2.1,?_⟩⟩;refine tg Ds R2 h2 (λE hE=>?_) (λg' w' R3 hc=>NY g' w' R3 hc);show au g.old.keep D _ E=_;rw[aJ _ _ (λe:E=D=>h1 (by rw[<-e];exact hE))];exact hk E (List.mem_cons_of_mem _ hE)
def Rel.begin {fn:Func} {args:List AV} {old:Nat→Nat→Prop} {a_:Array Value} (hn:fn.ntmps=n) (hl:args.length≤n) (hlen:args.length=a_.size)
  (hr:∀i (h:i<args.length)(h':i<a_.size),RV old (λ_=>none) w args[i] a_[i]):
  Rel P w n bp { base:=w.heap.size,old:=Old.plain old w,al:=λ_=>none,hi:=λ_=>0,owner:=λ_=>none } (start args) (λ_=>none) { tmps:=a_++Array.replicate (fn.ntmps-a_.size) undef,defers:=[] } w:=by
 have aL:(a_++Array.replicate (fn.ntmps-a_.size) undef).size=n:=by simp;omega
 refine{ size:=aL,defers:=rfl,facts:=λ_ h=>(by cases h),slot:=?_,own:=?_,box:=?_,jt:=?_,jq:=?_,inj:=?_,base:=rfl,below:=Below.refl _ _,fresh:=λb _=>⟨rfl,rfl⟩,still:=⟨λ_ _ h=>h.elim,λ_ h=>h.elim⟩,grown:=Nat.le_refl _,kept:=λ_ _ h=>(by cases h) }
 .intro t ht _
  by_cases IK:t<args.length
  .have h1:start args t=args[t].aw:=by simp[start,IK]
   have h2:(a_++Array.replicate (fn.ntmps-a_.size) undef).getD t undef=a_[t]'(by omega):=by
    have:t<a_.size:=by omega
    simp[Array.getElem?_append,this]
   rw[h1,h2];refine((hr t IK (by omega)).mono (aE.same λb k ao hp=>.inl ⟨ao,hp⟩) (λ_ _ h=>h)).aw
  .have h1:start args t=bI:=by simp[start,IK,bI,AV.aw]
   have h2:(a_++Array.replicate (fn.ntmps-a_.size) undef).getD t undef=undef:=by
    have:¬t<a_.size:=by omega
    simp only[Array.getD_eq_getD_getElem?,Array.getElem?_append,this,if_false]
    by_cases hh:t-a_.size<fn.ntmps-a_.size
    .simp[hh]
    .simp[hh]
   rw[h1,h2];exact .data _ _ (rR _ _)
 .intro t ht _;exact fF _ _ _
 .intro i b h;cases h
 .intro i cs h;cases h
 .intro i h;rfl
 .intro i j b h;cases h
def sj(P:Program)(n:Nat)(rs:List ResultVar)(out:jn)(c:Nat->Nat->Prop):gy
 |.normal,o,S,H|.ret,o,S,H=>fq o/\o.c=c/\∃v,cU P n rs S H=some v/\out=.ret v
 |.panic v,o,_,_=>o.ds=[]/\o.c=c/\out=.panic v
 |_,_,_,_=>False
def AC.kP {f:Nat} {fn:Func} {c:Code} {args:List AV} {out:jn} (hf:P.funcs[f]? = some fn) (hb:fn.body=some c) (hn:fn.ntmps=n) (hl:args.length≤n)
  (h:∀cc w,SW P GI n none c (sj P n fn.results.toList out cc) (Old.plain cc w) (start args) (λ_=>none)):AC P GI f args out:=by
 intro w old a_ lg hlen hr;refine(eA (ro:=none) (m:=0)).1 (callsIn_of_wp_marks hf hb trivial ?_);have R:Rel P w n bp _ (start args) (λ_=>none) { tmps:=a_++Array.replicate (fn.ntmps-a_.size) undef,defers:=[] } w:=Rel.begin hn hl hlen hr;refine wpIn_mono (h old w w _ _ w 0 lg rfl R) ?_;intro e a' w' he
 have fin:(∃ g' S H,Rel P w n bp g' S H a' w'∧fq g'.old∧g'.old.c=old∧∃ v,cU P n fn.results.toList S H=some v∧out = .ret v) →
   LeavesInM (FR none) 0 P fn a'.tmps (Ends P old w out) a'.defers .returning w':=by
  rintro⟨g',S,H,R',⟨Ds,h1,h2,h3⟩,hc,v,hv,rfl⟩;rw[R'.defers,h2]
  refine tg Ds R' h1 h3 λg2 w2 R2 ig=>?_
  obtain⟨c,r1,r2,r3⟩:=pj R2 hv;refine⟨c,r1,?_,g2.hi,λb hb=>(R2.fresh b hb).1,c,rfl,?_,?_⟩
  .have:=R2.below;rwa [R2.base]at this
  .have:g2.Pr=lL w.heap.size old g2.hi:=by
    funext b k
    simp only[Gh.Pr,lL,R2.base,ig,hc]
   rw[this]at r2;exact .data _ _ r2
  .rwa [R2.base]at r3
 cases e with
 |normal=>exact fin he
 |ret=>exact fin he
 |exit id=>obtain⟨_,_,_,_,h⟩:=he;exact h.elim
 |panic chain=>
  obtain⟨o,v,c,hi,S,H,h1,h2,h3,h4,h5,h6,rfl,rfl⟩:=he;subst h2;show LeavesInM (FR none) 0 P fn a'.tmps _ a'.defers _ w';rw[h1,h6];exact⟨h3,hi,h4,c,rfl,h5⟩
 |goto l=>exact he.elim
 |outgrown=>exact he.elim
def Wl(n:Nat)(rs:List ResultVar)(out:jn):dU->af->ah->Prop
 |.normal,S,H|.ret,S,H=>∃t fn fi ca,rs=[.tmp t]/\t<n/\S t=.func fn fi ca/\out=.ret (fz H (S t))
 |_,_,_=>False
open Classical in
def AC.vQ (hG:av GI) (hm:P.follows .mixedOrders=true) {f:Nat} {fn:Func} {c:Code} {args:List AV} {out:jn} (hf:P.funcs[f]? = some fn) (hb:fn.body=some c) (hn:fn.ntmps=n) (hl:args.length≤n) {ac:ae} (hc:cE P n c=ac)
  (h:bq P GI ac (Wl n fn.results.toList out) (start args) (λ_=>none)):AC P GI f args out:=by
 intro w old a_ lg hlen hr;refine calls_of_wp hf hb ?_;subst hc;have R:Rel P w n bp _ (start args) (λ_=>none) { tmps:=a_++Array.replicate (fn.ntmps-a_.size) undef,defers:=[] } w:=Rel.begin hn hl hlen hr;refine wp_mono (lk hG lg hm c _ _ _ _ _ w (λ_ _ h=>h) rfl R h) ?_;intro e a' w' he
 have fin:(∃ g' S H,g'.old=Old.plain old w∧Rel P w n bp g' S H a' w'∧∃ t f' fi ca,fn.results.toList=[.tmp t]∧t < n∧S t = .func f' fi ca∧out = .ret (fz H (S t))) →
   a'.defers=[]/\∃v,(results fn a'.tmps).run P w'=.ok v w'/\Ends P old w out (.returned v) w':=by
  rintro⟨g',S,H,e1,R',t,f',fi,ca,MC,ht,hS,rfl⟩
  have YG:fn.results=#[.tmp t]:=by
   rw[<-Array.toArray_toList (xs:=fn.results),MC]
  have hv:=R'.fz (R'.slot t ht id) true (λ_=>rfl)
  have J0:∀b,(∃i,g'.al i=some b)->g'.base<=b/\g'.hi b=0/\∃vs ty,w'.heap[b]?=some (.cells vs ty (0,0)):=by
   rintro b ⟨i,hi⟩;obtain⟨cs,vs,ty,h1,h2,h3,h4,_⟩:=R'.box i b hi;exact⟨h2,h4,vs,ty,h3⟩
  let cy:Nat->Nat:=λb=>if∃i,g'.al i=some b then(match w'.heap[b]? with|some (.cells vs _ _)=>vs.size|_=>0)else g'.hi b
  have lx:∀b k,g'.Pr b k->lL w.heap.size old cy b k:=by
   intro b k hp
   rcases hp with⟨q1,q2⟩|⟨q1,q2⟩
   .exact .inl ⟨by rw[<-R'.base];exact q1,by rw[e1]at q2;exact q2⟩
   .refine .inr ⟨by rw[<-R'.base];exact q1,?_⟩;show k<(if∃i,g'.al i=some b then _ else g'.hi b);rw[if_neg]
    .exact q2
    .intro hex;rw[(J0 b hex).2.1]at q2;omega
  refine⟨by rw[R'.defers,e1];rfl,a'.tmps.getD t undef,by simp[results,YG],?_,cy,λb hb=>?_,_,rfl,?_,?_⟩
  .have:=R'.below;rwa [R'.base]at this
  .show(if∃i,g'.al i=some b then _ else g'.hi b)=0;rw[if_neg]
   .exact(R'.fresh b hb).1
   .intro hex;obtain⟨_,_,vs,ty,h3⟩:=J0 b hex;have:=(Array.getElem?_eq_some_iff.1 h3).1;omega
  .refine hv.mono ?_ (λ_ _ h=>h);refine{ cell:=λb k hp u hu=>⟨?_,hu⟩,map:=λb hp es cc AO=>⟨?_,AO⟩ }
   .rcases hp with hp|⟨_,hex⟩
    .exact lx b k hp
    .obtain⟨h1,h2,vs,ty,h3⟩:=J0 b hex;refine .inr ⟨by rw[<-R'.base];exact h1,?_⟩;show k<(if∃i,g'.al i=some b then _ else g'.hi b);rw[if_pos hex,h3];simp[World.cell?,h3]at hu;exact(Array.getElem?_eq_some_iff.1 hu).1
   .rcases hp with hp|⟨_,hex⟩
    .exact lx b 0 hp
    .obtain⟨h1,h2,vs,ty,h3⟩:=J0 b hex;rw[h3]at AO;cases AO
  .rw[hS];simp only[fz]
   trivial
 cases e with
 |normal=>exact fin he
 |ret=>exact fin he
 |exit id=>obtain⟨_,_,_,_,_,h⟩:=he;exact h.elim
 |panic chain=>obtain⟨_,_,_,_,_,_,_,_,_,_,h⟩:=he;exact h.elim
 |goto l=>exact he.elim
 |outgrown=>exact he.elim
end
def oc{α:Type}{p A b s:α->Prop}{o:α}(h:A o)(k:s o)(hp:p o:=by kernel_rfl)(hb:b o:=by simp[bR,au]):∃o,p o/\A o/\b o/\s o:=⟨o,hp,h,hb,k⟩
inductive TT(α:Type) where
 |lf (v:α)
 |nd (a b c d:TT α)
namespace TT
variable{α:Type}
noncomputable def G(z:α)(k:Nat):TT α->Nat->α:=
 Nat.rec (motive:=λ_=>TT α->Nat->α) (λt _=>match t with|.lf v=>v|.nd ..=>z)
  (λ_ ih t i=>match t with
   |.lf v=>v
   |.nd a b c d=>bif Nat.beq (i % 4) 0 then ih a (i/4)else bif Nat.beq (i % 4) 1 then ih b (i/4)else bif Nat.beq (i % 4) 2 then ih c (i/4)else ih d (i/4)) k
noncomputable def P(k:Nat):TT α->Nat->α->TT α:=
 Nat.rec (motive:=λ_=>TT α->Nat->α->TT α) (λ_ _ v=>.lf v)
  (λ_ ih t i v=>match t with
   |.lf x=>bif Nat.beq (i % 4) 0 then .nd (ih (.lf x) (i/4) v) (.lf x) (.lf x) (.lf x)else bif Nat.beq (i % 4) 1 then .nd (.lf x) (ih (.lf x) (i/4) v) (.lf x) (.lf x)else bif Nat.beq (i % 4) 2 then .nd (.lf x) (.lf x) (ih (.lf x) (i/4) v) (.lf x)else .nd (.lf x) (.lf x) (.lf x) (ih (.lf x) (i/4) v)
   |.nd a b c d=>bif Nat.beq (i % 4) 0 then .nd (ih a (i/4) v) b c d else bif Nat.beq (i % 4) 1 then .nd a (ih b (i/4) v) c d else bif Nat.beq (i % 4) 2 then .nd a b (ih c (i/4) v) d else .nd a b c (ih d (i/4) v)) k
noncomputable def M(f:α->α)(k:Nat):TT α->TT α:=
 Nat.rec (motive:=λ_=>TT α->TT α) (λt=>match t with|.lf v=>.lf (f v)|t=>t)
  (λ_ ih t=>match t with
   |.lf v=>.lf (f v)
   |.nd a b c d=>.nd (ih a) (ih b) (ih c) (ih d)) k
end TT
abbrev TS:=TT AV
abbrev TH:=TT (Option (List AV))
noncomputable def gT(s:TS):af:=λt=>bif Nat.ble 256 t then bI else s.G bI 4 t
noncomputable def gU(h:TH):ah:=λt=>bif Nat.ble 256 t then none else h.G none 4 t
inductive Tp where
 |go (s:TS) (h:TH)|panic (v:AV)
noncomputable def Tp.on(K:af->ah->Prop)(Qp:AV->Prop):Tp->Prop
 |.go s h=>K (gT s) (gU h)
 |.panic v=>Qp v
section
variable{P:Program}{GI:World->Prop}{call:Ib}(ky:∀f args out,call f args=some out->AC P GI f args out)
include ky
end
end Go.AL
namespace Go.AL
open Go.RowKit
section
variable{P:Program}{GI:World->Prop}{n:Nat}{S:af}{H:ah}{a:Act}{w:World}{ro:Option Nat}{m:Nat}{Q:Exit->Act->World->Prop}
def Rel.Ce (c:Nat→Nat→Prop) (aL:a.tmps.size=n) (c_:a.defers=[]) (hS:∀ t,t < n→(S t).aw=S t∧RV c bO w (S t) (a.tmps.getD t undef)) :
  Rel P w n bp { base:=w.heap.size,old:=Old.plain c w,al:=bO,hi:=λ_=>0,owner:=λ_=>none } S (λ_=>none) a w:={
 size:=aL
 defers:=c_
 facts _ h:=by cases h
 slot t ht _:=(hS t ht).2.mono (aE.same λb k ao hp=>.inl ⟨ao,hp⟩) (λ_ _ h=>h)
 own t ht _:=by rw[<-(hS t ht).1];exact dw.aw
 box i b h:=by cases h
 jt i cs h:=by cases h
 jq i _:=rfl
 inj i j b h:=by cases h
 base:=rfl
 below:=Below.refl _ _
 fresh b _:=⟨rfl,rfl⟩
 still:=⟨λ_ _ h=>h.elim,λ_ h=>h.elim⟩
 grown:=Nat.le_refl _
 kept _ _ h:=by cases h }
def aT {ops:Array Oper} {i:Nat} {rest:List Nat} {o:Oper} (ho:ops[i]? = some o) (hg:o.guard=none) (cT:cG o.op=true) {v:Value} {w':World}
  (hr:(execOp a.eval o).run P w=.ok (.value v) w') (hk:wpOpsIn (FR ro) m P ops Q rest (a.put o.dst v) w'):wpOpsIn (FR ro) m P ops Q (i::rest) a w:=by
 simp only[wpOpsIn,ho]
 have:Region.wanted o (yielded ops a.tmps)=true:=by simp[Region.wanted,hg]
 rw[if_pos this];refine⟨λ_ _=>trivial,?_⟩;rw[Oper.semAt_eq _ _ _ (λc hc=>by rw[hc]at cT;cases cT),hr];exact hk
def eC {ops:Array Oper} {i:Nat} {rest:List Nat} {o:Oper} (ho:ops[i]? = some o) (hg:o.guard=none) (cT:cG o.op=true) {w':World}
  (hr:(execOp a.eval o).run P w=.ok .skip w') (hk:wpOpsIn (FR ro) m P ops Q rest (a.put o.dst undef) w'):wpOpsIn (FR ro) m P ops Q (i::rest) a w:=by
 simp only[wpOpsIn,ho]
 have:Region.wanted o (yielded ops a.tmps)=true:=by simp[Region.wanted,hg]
 rw[if_pos this];refine⟨λ_ _=>trivial,?_⟩;rw[Oper.semAt_eq _ _ _ (λc hc=>by rw[hc]at cT;cases cT),hr];exact hk
def gm {ops:Array Oper} {i:Nat} {rest:List Nat} {o:Oper} (ho:ops[i]? = some o) (hg:o.guard=none) (cT:cG o.op=true) {f:Nat} {args:Array Value} {w':World}
  (hr:(execOp a.eval o).run P w=.ok (.enter f args) w') {R:Ending->World->Prop} (hc:Calls P f args w' R) (hk:∀e iU,R e iU->∃v,e=.returned v/\wpOpsIn (FR ro) m P ops Q rest (a.put o.dst v) iU):wpOpsIn (FR ro) m P ops Q (i::rest) a w:=by
 simp only[wpOpsIn,ho]
 have:Region.wanted o (yielded ops a.tmps)=true:=by simp[Region.wanted,hg]
 rw[if_pos this];refine⟨λ_ _=>trivial,?_⟩;rw[Oper.semAt_eq _ _ _ (λc hc=>by rw[hc]at cT;cases cT),hr];refine⟨λh=>by simp[FR,Fence.wide]at h,eA.2 (hc.mono λe iU hh=>?_)⟩;obtain⟨v,rfl,h⟩:=hk e iU hh;exact h
def rV {ops:Array Oper} {i:Nat} {rest:List Nat} {o:Oper} (ho:ops[i]? = some o) (hg:o.guard=none) (cT:cG o.op=true) {l f:Nat} {tmps:Array Value} {xU bd:Code} {w':World}
  (hr:(execOp a.eval o).run P w=.ok (.round l f tmps xU bd) w') {R:Ending->World->Prop} (hc:∀m,RoundIn (FR none) m P l f tmps xU bd w' R) (hk:∀e iU,R e iU->∃v,e=.returned v/\wpOpsIn (FR none) m P ops Q rest (a.put o.dst v) iU):wpOpsIn (FR none) m P ops Q (i::rest) a w:=by
 simp only[wpOpsIn,ho]
 have:Region.wanted o (yielded ops a.tmps)=true:=by simp[Region.wanted,hg]
 rw[if_pos this];refine⟨λ_ _=>trivial,?_⟩;rw[Oper.semAt_eq _ _ _ (λc hc=>by rw[hc]at cT;cases cT),hr];refine⟨λh=>by simp[FR,Fence.wide]at h,(hc (m-1)).mono λe iU hh=>?_⟩;obtain⟨v,rfl,h⟩:=hk e iU hh;exact h
def Ap(K:Act->World->Prop)(Q:Exit->Act->World->Prop):Exit->Act->World->Prop
 |.normal,a,w=>K a w
 |e,a,w=>Q e a w
def tM{F:Fence}{o:Oper}{K K':Act->World->Prop}(h:o.wpIn F m P a w K' (Ap K Q)):o.wpIn F m P a w K' Q:=by
 unfold Oper.wpIn at*
 refine⟨h.1,?_⟩;have h2:=h.2
 generalize(o.semAt F.round a.eval).run P w=r at*
 cases r with
 |ok x w'=>
  cases x<;>simp only[Oper.uponIn]at h2⊢<;>first
   |exact h2
   |exact⟨h2.1,CallsIn.mono h2.2 (λe iU he=>by cases e<;>exact he)⟩
   |exact⟨h2.1,RowsIn.mono h2.2 (λ_ _ he=>he)⟩
   |exact⟨h2.1,RoundIn.mono h2.2 (λe iU he=>by cases e<;>exact he)⟩
 |halt x w'=>cases x<;>simp only[Oper.uponIn]at h2⊢<;>exact h2
def jF(ops:Array Oper):Nat->Nat->Array Bool->Bool
 |0,_,listed=>Region.ready .any ops listed==[]
 |k+1,i,listed=>Region.ready .any ops listed==[i]&&jF ops k (i+1) (listed.setIfInBounds i true)
def Ae(ops:Array Oper)(p:Nat):Nat->Array Bool->Array Bool->Bool
 |0,la,l=>(Region.ready .any (ops.extract 0 p) la==[])&&jF ops (ops.size-p) p l
 |k+1,la,l=>let r:=Region.ready .any ops l
  r !=[]&&r==Region.ready .any (ops.extract 0 p) la&&r.all (λi=>decide (i<p)&&Ae ops p k (la.setIfInBounds i true) (l.setIfInBounds i true))
def cutAt(ops:Array Oper)(p:Nat):Bool:=
 decide (p<=ops.size)&&ops.all (λo=>o.guard.isNone)&&Ae ops p p (Array.replicate p false) (Array.replicate ops.size false)
def tt{F:Fence}{ops:Array Oper}(hg:ops.all (λo=>o.guard.isNone)=true):∀(k i:Nat)(l:Array Bool)(a:Act)(w:World),jF ops k i l=true->wpOpsIn F m P ops Q (List.range' i k) a w->wpAnyIn F m P .any ops Q k l a w
 |0,i,l,a,w,h,hh=>⟨by simpa[jF]using h,hh⟩
 |k+1,i,l,a,w,h,hh=>by
  simp only[jF,Bool.and_eq_true,beq_iff_eq]at h;refine⟨λhr=>(by rw[hr]at h;cases h.1),λj hj=>?_⟩;rw[h.1,List.mem_singleton]at hj;subst hj;simp only[List.range'_succ]at hh;rw[wpOpsIn_cons]at hh;exact wpOpIn_mono (λa w hq=>tt hg k _ _ a w h.2 hq) hh
def qA {F:Fence} {ops:Array Oper} {p:Nat} (hp:p≤ops.size) (hg:ops.all (fun o=>o.guard.isNone)=true):∀ (k:Nat) (la l:Array Bool) (a:Act) (w:World),Ae ops p k la l=true →
  wpAnyIn F m P .any (ops.extract 0 p) (Ap (wpOpsIn F m P ops Q (List.range' p (ops.size-p))) Q) k la a w->wpAnyIn F m P .any ops Q (k+(ops.size-p)) l a w
 |0,la,l,a,w,h,hh=>by
  simp only[Ae,Bool.and_eq_true]at h;rw[Nat.zero_add];exact tt hg _ _ _ a w h.2 hh.2
 |k+1,la,l,a,w,h,hh=>by
  simp only[Ae,Bool.and_eq_true,bne_iff_ne,ne_eq,beq_iff_eq,List.all_eq_true,decide_eq_true_eq]at h;obtain⟨⟨h1,h2⟩,h3⟩:=h;rw[show k+1+(ops.size-p)=(k+(ops.size-p))+1 by omega];refine⟨λhr=>absurd hr h1,λi hi=>?_⟩
  have cy:i∈Region.ready .any (ops.extract 0 p) la:=by rw[<-h2];exact hi
  obtain⟨oW,hc⟩:=h3 i hi;have hs:=hh.2 i cy;unfold wpOpIn at hs⊢
  have j6:(ops.extract 0 p)[i]?=ops[i]?:=by
   rw[Array.getElem?_extract]
   have:i<min p ops.size-0:=by omega
   rw[if_pos this,Nat.zero_add]
  rw[j6]at hs
  cases ho:ops[i]? with
  |none=>rw[ho]at hs;exact qA hp hg k _ _ a w hc hs
  |some o=>
   rw[ho]at hs
   have ly:o.guard=none:=by
    have:=Array.all_eq_true'.1 hg o (Array.mem_of_getElem? ho);simpa using this
   have hw:∀y,Region.wanted o y=true:=λy=>by simp[Region.wanted,ly]
   simp only[hw,if_true]at hs⊢;exact Oper.wpIn_mono (λa w hq=>qA hp hg k _ _ a w hc hq) (tM hs)
def Ch (hm:P.follows .mixedOrders=true) {F:Fence} {id:Nat} {ops:Array Oper} {p:Nat} (h:cutAt ops p=true)
  (hh:wpAnyIn F m P .any (ops.extract 0 p) (Ap (wpOpsIn F m P ops Q (List.range' p (ops.size-p))) Q) p (Array.replicate p false) a { w with drawn:=w.drawn+1 }):(Code.region id ops true).wpIn F m P Q a w:=by
 simp only[cutAt,Bool.and_eq_true,decide_eq_true_eq]at h;refine wpIn_region_any hm ?_;have:=qA h.1.1 h.1.2 p _ _ a _ h.2 hh;rwa [show p+(ops.size-p)=ops.size by omega]at this
def fp{F:Fence}{md:Region.Mode}{ops:Array Oper}{Q':Exit->Act->World->Prop}(hQ:∀e a w,Q e a w->Q' e a w):∀(fuel:Nat)(l:Array Bool)(a:Act)(w:World),wpAnyIn F m P md ops Q fuel l a w->wpAnyIn F m P md ops Q' fuel l a w
 |0,_,_,_,h=>⟨h.1,hQ _ _ _ h.2⟩
 |k+1,l,a,w,h=>⟨fun hr=>hQ _ _ _ (h.1 hr),fun i hi=>by
   have hs:=h.2 i hi;unfold wpOpIn at hs⊢
   cases ho:ops[i]? with
   |none=>rw[ho]at hs;exact fp hQ k _ a w hs
   |some o=>
    rw[ho]at hs;simp only at hs⊢;split
    .rename_i hw;rw[if_pos hw]at hs;have hs:=Oper.wpIn_mono (λa w hq=>fp hQ k _ a w hq) hs
     unfold Oper.wpIn at*
     refine⟨hs.1,?_⟩;have h2:=hs.2
     generalize(o.semAt F.round a.eval).run P w=r at*
     cases r with
     |ok x w'=>
      have qn:LetsOut Q->LetsOut Q':=λ⟨a,w,h⟩=>⟨a,w,hQ _ _ _ h⟩
      cases x<;>simp only[Oper.uponIn]at h2⊢<;>first
       |exact h2
       |exact⟨h2.1,CallsIn.mono h2.2 (λe iU he=>by cases e<;>first|exact he|exact hQ _ _ _ he|exact qn he)⟩
       |exact⟨h2.1,RowsIn.mono h2.2 (λ_ _ he=>he)⟩
       |exact⟨h2.1,RoundIn.mono h2.2 (λe iU he=>by cases e<;>first|exact he|exact hQ _ _ _ he|exact qn he)⟩
     |halt x w'=>cases x<;>simp only[Oper.uponIn]at h2⊢<;>first|exact h2|exact hQ _ _ _ h2
    .rename_i hw;rw[if_neg hw]at hs
     exact⟨hs.1,fp hQ k _ _ w hs.2⟩⟩
end
def iN(Pr:Nat->Nat->Prop)(w:World)(size:Nat)(es:List AV)(xs:List Value):Prop:=
 (∀x∈es,x.cells.length=size/\x.storable=true/\∀c∈x.cells,c.one=true)/\∀j (h:j<es.length) k (hk:k<(es[j]).cells.length),∃u,xs[j*size+k]?=some u/\RD Pr w ((es[j]).cells[k]) u
def iN.mono{Pr cS:Nat->Nat->Prop}{w w':World}{size:Nat}{es:List AV}{xs:List Value}(h:iN Pr w size es xs)(hk:aE Pr cS w w'):iN cS w' size es xs:=
 ⟨h.1,λj hj k nP=>let⟨u,h1,h2⟩:=h.2 j hj k nP;⟨u,h1,h2.mono hk⟩⟩
def RD.ofRow {Pr:Nat→Nat→Prop} {w:World} {base:Nat} {e:TypeId} {size:Nat} {v:Value} {es:List AV} {xs:List Value} (cC:w.ownsRow base e size v es.length xs) (hf:iN Pr w size es xs)
  (hpr:∀b,v.ownBlock=some b->∀k,k<es.length*size->Pr b k):RD Pr w (.slice .view es) v:=by
 rcases cC.2 with⟨rfl,hn⟩|⟨g,cap,cur,rfl,l5,hg,Be,Eo,lz,oq⟩
 .have:es=[]:=List.eq_nil_of_length_eq_zero hn;subst this;exact .fH _
 .refine .slice _ es g 0 cap size (λk=>xs.getD k undef) Be (λh=>by cases h) (λi h=>(hf.1 _ (List.getElem_mem h)).1) (λi h j hj=>(hf.1 _ (List.getElem_mem h)).2.2 _ (List.getElem_mem hj)) (λk hk=>⟨?_,?_⟩) (λi h j hj=>?_)
  .rw[Nat.zero_add];exact hpr g rfl k hk
  .have ao:k<xs.length:=by rw[cC.1];exact hk
   have:=cC.cells (g:=g) rfl k _ (List.getElem?_eq_getElem ao);rw[Addr.add_lit]at this;simp only[List.getD_eq_getElem?_getD,List.getElem?_eq_getElem ao,Option.getD_some];exact this
  .obtain⟨u,h1,h2⟩:=hf.2 i h j hj;simpa[h1]using h2
def RD.UH{Pr:Nat->Nat->Prop}{w:World}{o:Ow}{es:List AV}{c:Value}(h:RD Pr w (.slice o es) c)(e:TypeId):RD Pr w (.slice (.own e) es) c:=by
 cases h with
 |fH=>exact .fH _
 |iG _ a=>exact .iG _ a
 |slice _ _ b off cap size cs eu hn aL h1 hc hr=>exact .slice _ es b off cap size cs eu (λh=>by cases h) aL h1 hc hr
def kq(e:TypeId)(v:Value)(es:List AV):AV:=match v.ownBlock with
 |some _=>.slice (.own e) es
 |none=>.slice .nil []
def RD.vq{Pr cS:Nat->Nat->Prop}{w:World}{o:Ow}{c:Value}(h:RD Pr w (.slice o []) c):RD cS w (.slice .view []) c:=by
 cases h with
 |fH=>exact .fH _
 |iG _ a=>exact .iG _ a
 |slice _ _ b off cap size cs eu hn aL h1 hc hr=>exact .slice _ [] b off cap size cs eu (λh=>by cases h) (λi h=>by simp at h) (λi h=>by simp at h) (λk h=>by simp at h) (λi h=>by simp at h)
def iN.OB {Pr:Nat→Nat→Prop} {w:World} {base:Nat} {e:TypeId} {size:Nat} {o:Ow} {c:Value} {es:List AV} {xs:List Value} (hr:RD Pr w (.slice o es) c) (cC:w.ownsRow base e size c es.length xs)
  (kz:∀x∈es,x.cells.length=size/\x.storable=true/\∀c∈x.cells,c.one=true) (DH:∀x∈es,∀c∈x.cells,gf c=true):iN (λ_ _=>False) w size es xs:=by
 refine⟨kz,λj hj k hk=>?_⟩
 rcases hr.lG size (by simp only[aC,List.all_eq_true,Bool.and_eq_true,beq_iff_eq];exact λx hx=>⟨(kz x hx).2.1,(kz x hx).1⟩)with⟨rfl,_⟩|⟨b2,off,cap,news,jB,hl,hn,jY,AS⟩
 .simp at hj
 .obtain⟨u,u1,u2⟩:=AS j hj k hk;refine⟨u,?_,u2.gf (DH _ (List.getElem_mem hj) _ (List.getElem_mem hk))⟩
  have ao:j*size+k<xs.length:=by
   rw[cC.1,<-hl];exact(List.getElem?_eq_some_iff.1 u1).1
  rcases cC.2 with⟨nk,h0⟩|⟨gg,s_,cur,vD,_⟩
  .rw[List.eq_nil_of_length_eq_zero h0]at hj;simp at hj
  .have e1:=cC.cells (g:=gg) (by rw[vD];rfl) _ _ (List.getElem?_eq_getElem ao);have e2:=hn _ _ u1;rw[vD]at jB;cases jB;rw[Addr.add_lit,Nat.zero_add]at e1;rw[Nat.zero_add]at e2;rw[e2]at e1;rw[List.getElem?_eq_getElem ao,Option.some.inj e1]
section
variable{P:Program}{n:Nat}{S:af}{a:Act}{w:World}
def jL(pr:Nat->Nat->Prop)(w:World)(bN:Nat)(v:Value):Old:=
 { c:=pr,facts:=[],bx:=λ_=>False,ds:=[],keep:=λb=>if bN<b/\v.ownBlock≠some b then w.heap[b]? else none,sp:=λ_ _=>False,sw:=w,ok:=λ_ h=>by cases h }
def Rel.stack (pr:Nat→Nat→Prop) {bN nm:Nat} {v:Value} {e ty:TypeId} {i:TypeInfo} {es:List AV} {xs:List Value} (aL:a.tmps.size=n) (c_:a.defers=[])
  (hN:w.heap[bN]?=some (.cells #[v] ty (0,0))) (hi:P.info? e=some i) (cC:w.ownsRow (bN+1) e i.size v es.length xs) (hf:iN (λb k=>b<bN/\pr b k) w i.size es xs)
  (hS:∀t,t<n->(S t).aw=S t/\((S t=.box nm 0/\a.tmps.getD t undef=.pointer (some ⟨bN,0,none⟩))\/RV (λb k=>b<bN/\pr b k) bO w (S t) (a.tmps.getD t undef))):
  ∃g,g.old=jL pr w bN v/\g.base=bN/\g.al=(λj=>if j=nm then some bN else none)/\
   Rel P { w with heap:=w.heap.extract 0 bN } n bp g S (λj=>if j=nm then some [kq e v es]else none) a w:=by
 have ao:=(Array.getElem?_eq_some_iff.1 hN).1
 let g:Gh:={ base:=bN,old:=jL pr w bN v,al:=λj=>if j=nm then some bN else none,hi:=λb=>if v.ownBlock=some b then es.length*i.size else 0,owner:=λb=>if v.ownBlock=some b then some (.cell nm 0)else none }
 have lx:∀b k,b<bN/\pr b k->g.Pr b k:=λb k h=>.inl h
 have nt:∀b,v.ownBlock=some b->bN<b/\b<w.heap.size:=λb hb=>cC.lt b hb
 have zn:v.ownBlock≠some bN:=λh=>by have:=nt _ h;omega
 have jY:v.oneCell'=true:=by
  rcases cC.2 with⟨rfl,_⟩|⟨_,_,_,rfl,_⟩<;>rfl
 have dc:RD g.Pr w (kq e v es) v:=by
  unfold kq
  rcases cC.2 with⟨rfl,hn⟩|⟨gg,cap,cur,rfl,l5,hg,Be,Eo,lz,oq⟩
  .exact .fH _
  .simp only[Value.ownBlock]
   have h1:RD g.Pr w (.slice .view es) (.slice (some ⟨gg,0,none⟩) es.length cap):=RD.ofRow cC (hf.mono (aE.same λb k _ h=>lx b k h)) (λb hb k hk=>by
    refine .inr ⟨by have:=(nt b hb).1;show bN<=b;omega,?_⟩;show k<(if _=some b then es.length*i.size else 0)
    rw[if_pos hb];exact hk)
   exact h1.UH e
 refine⟨g,rfl,rfl,rfl,{ size:=aL,defers:=c_,facts:=λ_ h=>(by cases h),slot:=?_,own:=?_,box:=?_,jt:=?_,jq:=λi h=>h.elim,inj:=?_,base:=?_,below:=?_,fresh:=?_,still:=⟨λ_ _ h=>h.elim,λ_ h=>h.elim⟩,grown:=Nat.le_refl _,kept:=?_ }⟩
 .intro t ht _;rcases(hS t ht).2 with⟨h1,h2⟩|h
  .rw[h1,h2];exact .box _ _ _ (by simp[g])
  .exact h.mono (aE.same λb k _ h=>lx b k h) (λ_ _ h=>by cases h)
 .intro t ht _;rw[<-(hS t ht).1];exact dw.aw
 .intro j b hj
  by_cases yl:j=nm
  .subst yl
   have hb:b=bN:=by simpa[g]using hj.symm
   subst hb;refine⟨[kq e v es],#[v],ty,by simp,Nat.le_refl _,hN,by simp[g,zn],by simp[g,zn],rfl,λk hk eG=>?_,λk hk eG=>?_,λk hk=>?_⟩
   .have:k=0:=by simpa using hk
    subst this;exact dc
   .have:k=0:=by simpa using hk
    subst this;simp only[List.getElem_cons_zero,List.getElem_toArray];unfold kq
    cases yP:v.ownBlock with
    |none=>trivial
    |some b'=>
     refine⟨i,xs,b',hi,?_,yP,by simp[g,yP],by simp[g,yP]⟩;refine⟨cC.1,?_⟩
     rcases cC.2 with h|⟨gg,cap,cur,rfl,l5,rest⟩
     .exact .inl h
     .exact .inr ⟨gg,cap,cur,rfl,Nat.le_trans (Nat.le_succ _) l5,rest⟩
   .have:k=0:=by simpa using hk
    subst this;simp only[List.getElem_cons_zero];unfold kq
    cases v.ownBlock<;>rfl
  .simp[g,yl]at hj
 .intro j cs hj _
  by_cases yl:j=nm
  .subst yl;simp[g]
  .simp[yl]at hj
 .intro j k b hj hk
  by_cases yl:j=nm<;>by_cases hkn:k=nm
  .rw[yl,hkn]
  .simp[g,hkn]at hk
  .simp[g,yl]at hj
  .simp[g,yl]at hj
 .show bN=(w.heap.extract 0 bN).size;simp;omega
 .refine⟨rfl,rfl,rfl,by simp;omega,λk hk=>?_⟩;have eG:k<bN:=hk;show w.heap[k]?=(w.heap.extract 0 bN)[k]?;rw[Array.getElem?_extract,if_pos (by omega),Nat.zero_add]
 .intro b hb
  have:v.ownBlock≠some b:=λh=>by have:=nt b h;omega
  simp[g,this]
 .intro b o h;simp only[g,jL]at h;split at h
  case isFalse=>cases h
  rename_i hc;refine⟨by show bN<=b;omega,h,by simp[g,hc.2],by simp[g,hc.2],λj hj=>?_⟩
  by_cases yl:j=nm
  .simp[g,yl]at hj;omega
  .simp[g,yl]at hj
def Rel.B5 {w0 w':World} {g':Gh} {S':af} {H':ah} {a':Act} (pr:Nat→Nat→Prop) {bN nm:Nat} {v:Value} {e:TypeId} {i:TypeInfo} {es':List AV} (hi:P.info? e=some i)
  (R:Rel P w0 n bp g' S' H' a' w') (hold:g'.old=jL pr w bN v) (f_:g'.base=bN) (qW:∀b,b<bN->w0.heap[b]?=w.heap[b]?) (fu:g'.al nm=some bN) (hH:H' nm=some [.slice (.own e) es'])
  (kz:∀x∈es',x.cells.length=i.size/\x.storable=true/\∀c∈x.cells,c.one=true) (DH:∀x∈es',∀c∈x.cells,gf c=true):
  ∃v' rv j2,w'.heap[bN]?=some (.cells #[v'] rv (0,0))/\w'.ownsRow (bN+1) e i.size v' es'.length j2/\iN (λ_ _=>False) w' i.size es' j2/\
   (∀b,b<w.heap.size->b≠bN->v.ownBlock≠some b->w'.heap[b]?=w.heap[b]?)/\∀b,v'.ownBlock=some b->v.ownBlock=some b\/w.heap.size<=b:=by
 obtain⟨cs,vs,ty,h1,h2,h3,h4,h5,h6,h7,h8,h9⟩:=R.box nm bN fu;rw[hH]at h1;cases h1;have CR:vs.size=1:=h6.symm
 obtain⟨v',pY⟩:∃v',vs=#[v']:=⟨vs[0],by
  apply Array.ext
  .simpa using CR
  .intro j hj dJ
   have:j=0:=by omega
   subst this;rfl⟩
 subst pY;have hr:=h7 0 (by simp) (by simp);have ho:=h8 0 (by simp) (by simp);simp only[List.getElem_cons_zero,List.getElem_toArray]at hr ho;obtain⟨i',xs,b,k1,k2,k3,k4,k5⟩:=ho;rw[hi]at k1;cases k1
 have bt:b≠bN:=by
  rintro rfl;rw[h5]at k4;cases k4
 refine⟨v',ty,xs,h3,?_,⟨kz,λj hj k hk=>?_⟩,λb' eN PB Qn=>?_,λb' eN=>?_⟩
 .refine⟨k2.1,?_⟩
  rcases k2.2 with h|⟨gg,cap,cur,rfl,l5,rest⟩
  .exact .inl h
  .have:gg=b:=by simpa[Value.ownBlock]using k3
   subst this;exact .inr ⟨gg,cap,cur,rfl,by rw[f_]at l5;omega,rest⟩
 .rcases hr.lG i.size (by simp only[aC,List.all_eq_true,Bool.and_eq_true,beq_iff_eq];exact λx hx=>⟨(kz x hx).2.1,(kz x hx).1⟩)with⟨rfl,_⟩|⟨b2,off,cap,news,jB,hl,hn,jY,AS⟩
  .simp at hj
  .obtain⟨u,u1,u2⟩:=AS j hj k hk;refine⟨u,?_,u2.gf (DH _ (List.getElem_mem hj) _ (List.getElem_mem hk))⟩
   have ao:j*i.size+k<xs.length:=by
    rw[k2.1,<-hl];exact(List.getElem?_eq_some_iff.1 u1).1
   have e1:=k2.cells k3 _ _ (List.getElem?_eq_getElem ao);have e2:=hn _ _ u1
   rcases k2.2 with⟨nk,_⟩|⟨gg,s_,cur,vD,_⟩
   .rw[nk]at k3;cases k3
   .rw[vD]at jB k3
    have rE:gg=b:=by simpa[Value.ownBlock]using k3
    subst rE;cases jB;rw[Addr.add_lit,Nat.zero_add]at e1;rw[Nat.zero_add]at e2;rw[e2]at e1;rw[List.getElem?_eq_getElem ao,Option.some.inj e1]
 .rcases Nat.lt_or_ge b' bN with ao|m_
  .have:=R.below.block b' (by rw[f_];exact ao);rw[this];exact qW b' ao
  .have zP:g'.old.keep b'=w.heap[b']? := by
    rw[hold];simp only[jL];rw[if_pos ⟨by omega,Qn⟩]
   have:w.heap[b']?=some (w.heap[b']):=by simp[eN]
   rw[this]at zP;rw[(R.kept b' _ zP).2.1,this]
 .rw[k3]at eN;cases eN;rcases Nat.lt_or_ge b w.heap.size with ao|m_
  .by_cases Qn:v.ownBlock=some b
   .exact .inl Qn
   .exfalso
    have gQ:bN<=b:=by
     have:=(k2.lt b k3).1;rw[f_]at this;exact this
    have zP:g'.old.keep b=w.heap[b]?:=by
     rw[hold];simp only[jL];rw[if_pos ⟨by omega,Qn⟩]
    have:w.heap[b]?=some (w.heap[b]):=by simp[ao]
    rw[this]at zP;have:=(R.kept b _ zP).2.2.2.1;rw[k4]at this;cases this
  .exact .inr m_
end
section
variable{P:Program}{GI:World->Prop}{n:Nat}{S:af}{H:ah}{a:Act}{w:World}{ro:Option Nat}{m:Nat}{Q Q':Exit->Act->World->Prop}{F:Fence}
def lV{o:Oper}{K K':Act->World->Prop}(hK:∀a w,K a w->K' a w)(hQ:∀e a w,e≠.normal->Q e a w->Q' e a w)(hs:o.wpIn F m P a w K Q):o.wpIn F m P a w K' Q':=by
 have hs:=Oper.wpIn_mono hK hs
 unfold Oper.wpIn at*
 refine⟨hs.1,?_⟩;have h2:=hs.2
 generalize(o.semAt F.round a.eval).run P w=r at*
 have qn:LetsOut Q->LetsOut Q':=λ⟨a,w,h⟩=>⟨a,w,hQ _ _ _ (by simp) h⟩
 cases r with
 |ok x w'=>
  cases x<;>simp only[Oper.uponIn]at h2⊢<;>first
   |exact h2
   |exact⟨h2.1,CallsIn.mono h2.2 (λe iU he=>by cases e<;>first|exact he|exact hQ _ _ _ (by simp) he|exact qn he)⟩
   |exact⟨h2.1,RowsIn.mono h2.2 (λ_ _ he=>he)⟩
   |exact⟨h2.1,RoundIn.mono h2.2 (λe iU he=>by cases e<;>first|exact he|exact hQ _ _ _ (by simp) he|exact qn he)⟩
 |halt x w'=>cases x<;>simp only[Oper.uponIn]at h2⊢<;>first|exact h2|exact hQ _ _ _ (by simp) h2
def eY{ops:Array Oper}(hQ:∀e a w,Q e a w->Q' e a w):∀(l:List Nat)(a:Act)(w:World),wpOpsIn F m P ops Q l a w->wpOpsIn F m P ops Q' l a w
 |[],a,w,h=>hQ _ _ _ h
 |i::l,a,w,h=>by
  simp only[wpOpsIn]at h⊢
  cases ho:ops[i]? with
  |none=>simp only[ho]at h⊢;exact eY hQ l a w h
  |some o=>
   simp only[ho]at h⊢;split
   .rename_i hw;rw[if_pos hw]at h;exact lV (λa w hh=>eY hQ l a w hh) (λe a w _ hh=>hQ e a w hh) h
   .rename_i hw;rw[if_neg hw]at h;exact⟨h.1,eY hQ l _ w h.2⟩
def dV(W:Nat->Bool)(a a':Act):Prop:=∀t,W t=false->a'.tmps.getD t undef=a.tmps.getD t undef
def dV.refl(W:Nat->Bool)(a:Act):dV W a a:=λ_ _=>rfl
def dV.trans{W:Nat->Bool}{a a' VQ:Act}(h:dV W a a')(h':dV W a' VQ):dV W a VQ:=λt ht=>(h' t ht).trans (h t ht)
def dV.put{W:Nat->Bool}{a:Act}{d:Option Nat}(hd:∀t,d=some t->W t=true)(v:Value):dV W a (a.put d v):=by
 intro t ht
 cases d with
 |none=>rfl
 |some k=>
  have:t≠k:=by rintro rfl;rw[hd t rfl]at ht;cases ht
  simp[Act.put,Array.getElem?_setIfInBounds_ne (Ne.symm this)]
def pH{W:Nat->Bool}{o:Oper}{K:Act->World->Prop}(hd:∀t,o.dst=some t->W t=true)(h:o.wpIn F m P a w K Q):o.wpIn F m P a w (λa' w'=>K a' w'/\dV W a a') Q:=by
 unfold Oper.wpIn at*
 refine⟨h.1,?_⟩;have h2:=h.2
 generalize(o.semAt F.round a.eval).run P w=r at*
 cases r with
 |ok x w'=>
  cases x<;>simp only[Oper.uponIn]at h2⊢<;>first
   |exact⟨h2,dV.put hd _⟩
   |exact⟨h2,(dV.put (a:={ a with defers:=_ }) hd _:dV W { a with defers:=_ } _)⟩
   |exact⟨h2.1,CallsIn.mono h2.2 (λe iU he=>by cases e<;>first|exact⟨he,dV.put hd _⟩|exact he)⟩
   |exact⟨h2.1,RowsIn.mono h2.2 (λ_ _ he=>⟨he,dV.put hd _⟩)⟩
   |exact⟨h2.1,RoundIn.mono h2.2 (λe iU he=>by cases e<;>first|exact⟨he,dV.put hd _⟩|exact he)⟩
 |halt x w'=>cases x<;>simp only[Oper.uponIn]at h2⊢<;>exact h2
def fy(ops:Array Oper)(W:Nat->Bool):Bool:=ops.all λo=>match o.dst with|some t=>W t|none=>true
def fy.spec{ops:Array Oper}{W:Nat->Bool}(h:fy ops W=true){i:Nat}{o:Oper}(ho:ops[i]?=some o):∀t,o.dst=some t->W t=true:=by
 intro t ht;have:=Array.all_eq_true'.1 h o (Array.mem_of_getElem? ho);simpa[ht]using this
def tI(W:Nat->Bool)(a:Act)(Q:Exit->Act->World->Prop):Exit->Act->World->Prop
 |.normal,a',w'=>Q .normal a' w'/\dV W a a'
 |e,a',w'=>Q e a' w'
def tI.next{W:Nat->Bool}{Ty iu:Act}(h:dV W Ty iu):∀e a w,tI W iu Q e a w->tI W Ty Q e a w:=by
 intro e a w hh
 cases e<;>first|exact hh|exact⟨hh.1,h.trans hh.2⟩
def fm{ops:Array Oper}{W:Nat->Bool}(hW:fy ops W=true):∀(l:List Nat)(a:Act)(w:World),wpOpsIn F m P ops Q l a w->wpOpsIn F m P ops (tI W a Q) l a w
 |[],a,w,h=>⟨h,dV.refl _ _⟩
 |i::l,a,w,h=>by
  simp only[wpOpsIn]at h⊢
  cases ho:ops[i]? with
  |none=>simp only[ho]at h⊢;exact fm hW l a w h
  |some o=>
   simp only[ho]at h⊢;split
   .rename_i hw;rw[if_pos hw]at h;refine lV (λa' w' hh=>eY (tI.next hh.2) l a' w' (fm hW l a' w' hh.1)) (λe a w bt hh=>?_) (pH (fy.spec hW ho) h)
    cases e<;>first|exact hh|exact absurd rfl bt
   .rename_i hw;rw[if_neg hw]at h;exact⟨h.1,eY (tI.next (dV.put (fy.spec hW ho) _)) l _ w (fm hW l _ w h.2)⟩
def fO{ops:Array Oper}{md:Region.Mode}{W:Nat->Bool}(hW:fy ops W=true):∀(fuel:Nat)(l:Array Bool)(a:Act)(w:World),wpAnyIn F m P md ops Q fuel l a w->wpAnyIn F m P md ops (tI W a Q) fuel l a w
 |0,l,a,w,h=>⟨h.1,h.2,dV.refl _ _⟩
 |k+1,l,a,w,h=>⟨fun hr=>⟨h.1 hr,dV.refl _ _⟩,fun i hi=>by
   have hs:=h.2 i hi;unfold wpOpIn at hs⊢
   cases ho:ops[i]? with
   |none=>rw[ho]at hs;exact fO hW k _ a w hs
   |some o=>
    rw[ho]at hs;simp only at hs⊢;split
    .rename_i hw;rw[if_pos hw]at hs;refine lV (λa' w' hh=>fp (tI.next hh.2) k _ a' w' (fO hW k _ a' w' hh.1)) (λe a w bt hh=>?_) (pH (fy.spec hW ho) hs)
     cases e<;>first|exact hh|exact absurd rfl bt
    .rename_i hw;rw[if_neg hw]at hs
     exact⟨hs.1,fp (tI.next (dV.put (fy.spec hW ho) _)) k _ _ w (fO hW k _ _ w hs.2)⟩⟩
def cQ (hG:av GI) (hm:P.follows .mixedOrders=true) {id:Nat} {ops:Array Oper} {draw:Bool} (hc:iW (.region id ops draw)=true) {ac:ae} (ja:cE P n (.region id ops draw)=ac) {W:Nat→Bool} (hW:fy ops W=true) (lg:GI w) (pr:Nat→Nat→Prop) (S:af)
  (aL:a.tmps.size=n) (c_:a.defers=[]) (hS:∀t,t<n->(S t).aw=S t/\RV pr bO w (S t) (a.tmps.getD t undef)) {K:af->ah->Prop} (h:bq P GI ac (az K) S (λ_=>none))
  (hk:∀g S' H' a' w',g.old=Old.plain pr w->Rel P w n bp g S' H' a' w'->K S' H'->dV W a a'->Q .normal a' w'):(Code.region id ops draw).wpIn (FR ro) m P Q a w:=by
 subst ja;have R:=Rel.Ce (P:=P) pr aL c_ hS
 have fin:∀e a' w',tI W a (QQ P w n (Old.plain pr w) (az K)) e a' w'->Q e a' w':=by
  intro e a' w' hq
  cases e with
  |normal=>
   obtain⟨⟨g',S',H',h1,h2,h3⟩,h4⟩:=hq;exact hk g' S' H' a' w' h1 h2 h3 h4
  |exit id=>obtain⟨_,_,_,_,_,h⟩:=hq;exact h.elim
  |ret=>obtain⟨_,_,_,_,_,h⟩:=hq;exact h.elim
  |panic ch=>obtain⟨_,_,_,_,_,_,_,_,_,_,h⟩:=hq;exact h.elim
  |goto l=>exact hq.elim
  |outgrown=>exact hq.elim
 simp only[cE]at h
 cases draw with
 |true=>
  simp only[if_true]at h;split at h
  case isFalse=>exact h.elim
  rename_i bo;exact wpIn_region_any hm (fp fin _ _ _ _ (fO hW _ _ _ _ (jA hG lg hm (old:=Old.plain pr w) hc bo (λ_ _ _ _ h=>h) rfl R h)))
 |false=>
  simp only[Bool.false_eq_true,if_false]at h;split at h
  case isFalse=>exact h.elim
  rename_i bo;exact wpIn_region (eY fin _ _ _ (fm hW _ _ _ (pn hG lg (old:=Old.plain pr w) hc bo (λ_ _ _ _ h=>h) rfl R h)))
def BB (hG:av GI) (hm:P.follows .mixedOrders=true) {id:Nat} {ops:Array Oper} {p:Nat} (ph:cutAt ops p=true) (cT:(ops.extract 0 p).all (fun o=>cG o.op)=true) (bo:DW P n (ops.extract 0 p)=true)
  {l:List bc} (hl:aO P n true (ops.extract 0 p)=l) (kR:(ops.extract 0 p).size=p) {W:Nat->Bool} (hW:fy (ops.extract 0 p) W=true) (lg:GI w) (pr:Nat->Nat->Prop) (S:af)
  (aL:a.tmps.size=n) (c_:a.defers=[]) (hS:∀t,t<n->(S t).aw=S t/\RV pr bO w (S t) (a.tmps.getD t undef)) {K:af->ah->Prop}
  (h:cM P GI l K (dM l S) (cD l (λ_=>none)))
  (hk:∀g S' H' a' w',g.old=Old.plain pr w->Rel P w n bp g S' H' a' w'->K S' H'->dV W a a'->wpOpsIn (FR ro) m P ops Q (List.range' p (ops.size-p)) a' w'):
  (Code.region id ops true).wpIn (FR ro) m P Q a w:=by
 refine Ch hm ph ?_;have key:=jA (ro:=ro) (m:=m) (a:=a) (w:=w) hG lg hm (old:=Old.plain pr w) (ops:=ops.extract 0 p) (Q:=az K) cT bo (λ_ _ _ _ h=>h) rfl (Rel.Ce pr aL c_ hS) (by subst hl;exact h);rw[kR]at key;refine fp ?_ _ _ _ _ (fO hW _ _ _ _ key);intro e a' w' hq
 cases e with
 |normal=>
  obtain⟨⟨g',S',H',h1,h2,h3⟩,h4⟩:=hq;exact hk g' S' H' a' w' h1 h2 h3 h4
 |exit id=>obtain⟨_,_,_,_,_,h⟩:=hq;exact h.elim
 |ret=>obtain⟨_,_,_,_,_,h⟩:=hq;exact h.elim
 |panic ch=>obtain⟨_,_,_,_,_,_,_,_,_,_,h⟩:=hq;exact h.elim
 |goto l=>exact hq.elim
 |outgrown=>exact hq.elim
def A9 (hm:P.follows .mixedOrders=true) {id:Nat} {ops:Array Oper} {draw:Bool} (hc:iW (.region id ops draw)=true) {ac:ae} (ja:cE P n (.region id ops draw)=ac) (T':ac.names=[]) {W:Nat→Bool} (hW:fy ops W=true) (pr:Nat→Nat→Prop) (S:af)
  {bN nm tp:Nat} {v:Value} {e ty:TypeId} {i:TypeInfo} {es es':List AV} {xs:List Value} (Im:tp<n) (Uc:W tp=false) (NM:a.tmps.getD tp undef=.pointer (some ⟨bN,0,none⟩)) (aL:a.tmps.size=n) (c_:a.defers=[])
  (hN:w.heap[bN]?=some (.cells #[v] ty (0,0))) (hi:P.info? e=some i) (cC:w.ownsRow (bN+1) e i.size v es.length xs) (hf:iN (λb k=>b<bN/\pr b k) w i.size es xs)
  (hS:∀t,t<n->(S t).aw=S t/\((S t=.box nm 0/\a.tmps.getD t undef=.pointer (some ⟨bN,0,none⟩))\/RV (λb k=>b<bN/\pr b k) bO w (S t) (a.tmps.getD t undef)))
  (h:bq P (λ_=>True) ac (az λS' H'=>S' tp=.box nm 0/\H' nm=some [.slice (.own e) es']) S (λj=>if j=nm then some [kq e v es]else none))
  (kz:∀x∈es',x.cells.length=i.size/\x.storable=true/\∀c∈x.cells,c.one=true) (DH:∀x∈es',∀c∈x.cells,gf c=true)
  (hk:∀a' w' v' rv j2,a'.tmps.size=n->a'.defers=[]->dV W a a'->w'.heap[bN]?=some (.cells #[v'] rv (0,0))->w'.ownsRow (bN+1) e i.size v' es'.length j2->iN (λ_ _=>False) w' i.size es' j2->
   dG (λb=>b=bN\/v.ownBlock=some b) w w'->(∀b,v'.ownBlock=some b->v.ownBlock=some b\/w.heap.size<=b)->Q .normal a' w'):(Code.region id ops draw).wpIn (FR ro) m P Q a w:=by
 subst ja;obtain⟨g,xT,lE,PR,R⟩:=Rel.stack (P:=P) (nm:=nm) (S:=S) (a:=a) pr aL c_ hN hi cC hf hS;have ao:=(Array.getElem?_eq_some_iff.1 hN).1
 have fin:∀e1 a' w',tI W a (QQ P { w with heap:=w.heap.extract 0 bN } n (jL pr w bN v) (az λS' H'=>S' tp=.box nm 0/\H' nm=some [.slice (.own e) es'])) e1 a' w'->Q e1 a' w':=by
  intro e1 a' w' hq
  cases e1 with
  |normal=>
   obtain⟨⟨g',S',H',h1,h2,h3⟩,h4⟩:=hq
   have rE:g'.base=bN:=by rw[h2.base];simp;omega
   have fu:g'.al nm=some bN:=by
    have hs:=h2.slot tp Im (λhh=>hh);rw[h3.1,h4 tp Uc,NM]at hs
    cases hs with
    |data _ _ h=>cases h
    |box _ _ b h=>exact h
   obtain⟨v',rv,j2,k1,k2,k3,k4,k5⟩:=Rel.B5 (w:=w) pr hi h2 h1 rE (λb hb=>by
    show(w.heap.extract 0 bN)[b]?=w.heap[b]?
    rw[Array.getElem?_extract,if_pos (by omega),Nat.zero_add]) fu h3.2 kz DH
   have l8:=h2.grown;rw[h1]at l8;refine hk a' w' v' rv j2 h2.size (by rw[h2.defers,h1];rfl) h4 k1 k2 k3 ⟨h2.below.os,h2.below.tape,h2.below.output,l8,λb hb hM=>?_⟩ k5;exact k4 b hb (λh=>hM (.inl h)) (λh=>hM (.inr h))
  |exit id=>obtain⟨_,_,_,_,_,h⟩:=hq;exact h.elim
  |ret=>obtain⟨_,_,_,_,_,h⟩:=hq;exact h.elim
  |panic ch=>obtain⟨_,_,_,_,_,_,_,_,_,_,h⟩:=hq;exact h.elim
  |goto l=>exact hq.elim
  |outgrown=>exact hq.elim
 simp only[cE]at h T'
 have hb:∀(b:Nat),(jL pr w bN v).bx b->False:=λ_ h=>h
 cases draw with
 |true=>
  simp only[if_true]at h;split at h
  case isFalse=>exact h.elim
  rename_i bo;exact wpIn_region_any hm (fp fin _ _ _ _ (fO hW _ _ _ _ (jA (GI:=λ_=>True) (λ_ _ _ _=>trivial) trivial hm hc bo (λ_ _ _ _ h=>h) xT R h)))
 |false=>
  simp only[Bool.false_eq_true,if_false]at h;split at h
  case isFalse=>exact h.elim
  rename_i bo;exact wpIn_region (eY fin _ _ _ (fm hW _ _ _ (pn (GI:=λ_=>True) (λ_ _ _ _=>trivial) trivial hc bo (λ_ _ _ _ h=>h) xT R h)))
def Rel.o_ {w0 w':World} {g:Gh} {S':af} {H':ah} {a':Act} (R:Rel P w0 n bp g S' H' a' w') {t:Nat} (ht:t < n) {e:TypeId} {i:TypeInfo} (hi:P.info? e=some i) {es:List AV} (hS:S' t = .slice (if es.isEmpty then .nil else .own e) es)
  (kz:∀x∈es,x.cells.length=i.size/\x.storable=true/\∀c∈x.cells,c.one=true) (DH:∀x∈es,∀c∈x.cells,gf c=true):
  RD (λb j=>(g.base<=b/\b<w'.heap.size)/\j<g.hi b) w' (.slice .view es) (a'.tmps.getD t undef):=by
 have h1:=(R.slot t ht id)
 have h2:=(R.own t ht id)
 rw[hS]at h1 h2;have h1:=h1.bQ rfl
 cases es with
 |nil=>exact h1.vq
 |cons x es=>
  simp only[List.isEmpty_cons,Bool.false_eq_true,if_false]at h1 h2;obtain⟨i',xs,b,k1,k2,k3,k4,k5⟩:=h2;rw[hi]at k1;cases k1;have hf:=iN.OB h1 k2 kz DH
  refine RD.ofRow k2 (hf.mono (aE.same λ_ _ _ h=>h.elim)) λb' eN k hk=>?_
  rw[k3]at eN;cases eN;exact⟨k2.lt b k3,by rw[k5];exact hk⟩
end
section
variable{P:Program}{GI:World->Prop}{n:Nat}{S:af}{H:ah}{a:Act}{w:World}{ro:Option Nat}{m:Nat}{Q Q':Exit->Act->World->Prop}{F:Fence}
def uS(ops:Array Oper)(j d:Nat)(T:List Nat):Nat->Array Bool->Bool
 |0,l=>l.getD j false
 |k+1,l=>(Region.ready .any ops l != [] || l.getD j false) && (Region.ready .any ops l).all fun i =>
   (!l.getD j false||(match(ops[i]?).bind (·.dst)with|some t=>t !=d&&!T.contains t|none=>true))&&uS ops j d T k (l.setIfInBounds i true)
def T4(N:Act->Prop)(Q:Exit->Act->World->Prop):Exit->Act->World->Prop
 |.normal,a,w=>Q .normal a w/\N a
 |e,a,w=>Q e a w
def mV {ops:Array Oper} {j d:Nat} {oj:Oper} {T:List Nat} (hj:ops[j]? = some oj) (GB:oj.guard=none) (cT:cG oj.op=true) (N:Act→Prop)
  (KL:∀a a':Act,a'.tmps.getD d undef=a.tmps.getD d undef->(∀t∈T,a'.tmps.getD t undef=a.tmps.getD t undef)->N a->N a') (eO:∀(a:Act)(w:World),a.tmps.size=n->match(execOp a.eval oj).run P w with|.ok (.value v) _=>N (a.put oj.dst v)|.ok _ _=>False|.halt _ _=>True) (hW:fy ops (λt=>decide (t<n))=true):
  ∀(fuel:Nat)(l:Array Bool)(a:Act)(w:World),uS ops j d T fuel l=true->(l.getD j false=true->N a)->l.size=ops.size->a.tmps.size=n->
   wpAnyIn (FR ro) m P .any ops Q fuel l a w->wpAnyIn (FR ro) m P .any ops (T4 N Q) fuel l a w
 |0,l,a,w,h,hN,hl,aL,hh=>⟨hh.1,hh.2,hN (by simpa[uS]using h)⟩
 |k+1,l,a,w,h,hN,hl,aL,hh=>by
  simp only[uS,Bool.and_eq_true,List.all_eq_true,Bool.or_eq_true,bne_iff_ne,ne_eq]at h;refine⟨λhr=>⟨hh.1 hr,hN (h.1.resolve_left (λbt=>bt hr))⟩,λi hi=>?_⟩;obtain⟨h2,h3⟩:=h.2 i hi;have hs:=hh.2 i hi;unfold wpOpIn at hs⊢
  cases ho:ops[i]? with
  |none=>exact absurd (mem_ready.1 hi).2 (by rw[ho];rintro⟨o,h,_⟩;cases h)
  |some o=>
   rw[ho]at hs h2;simp only[Option.bind_some]at h2 hs⊢
   have PC:i<l.size:=by rw[hl];exact(Array.getElem?_eq_some_iff.1 ho).1
   have uc:(l.setIfInBounds i true).size=ops.size:=by simpa using hl
   have next:∀(a':Act),a'.tmps.size=n->dV (λt=>o.dst==some t) a a'->i≠j->((l.setIfInBounds i true).getD j false=true->N a'):=by
    intro a' _ bh bt FU
    have B6:l.getD j false=true:=by
     rw[Array.getD_eq_getD_getElem?,Array.getElem?_setIfInBounds_ne bt]at FU;rwa [Array.getD_eq_getD_getElem?]
    rcases h2 with h2|h2
    .rw[B6]at h2;cases h2
    .have DK:(o.dst==some d)=false∧∀ t∈T,(o.dst==some t)=false:=by
      cases hod:o.dst with
      |none=>simp
      |some t=>
       rw[hod]at h2;simp only[Bool.and_eq_true,bne_iff_ne,ne_eq,Bool.not_eq_true',List.contains_eq_mem,decide_eq_false_iff_not]at h2;refine⟨by simpa using h2.1,λt' vY=>?_⟩;simp only[beq_eq_false_iff_ne,ne_eq,Option.some.injEq];rintro rfl;exact h2.2 vY
     exact KL a a' (bh d DK.1) (λt ht=>bh t (DK.2 t ht)) (hN B6)
   have j_:∀(d':Option Nat)(v:Value)(a:Act),(a.put d' v).tmps.size=a.tmps.size:=by
    intro d' v a;cases d'<;>simp[Act.put]
   split
   .rename_i hw;rw[if_pos hw]at hs
    by_cases pt:i=j
    .subst pt;rw[hj]at ho;cases ho;unfold Oper.wpIn at hs⊢;refine⟨λ_ _=>trivial,?_⟩;have h4:=hs.2;rw[Oper.semAt_eq _ _ _ (λc hc=>by rw[hc]at cT;cases cT)]at h4⊢;have h5:=eO a w aL;generalize(execOp a.eval oj).run P w=r at h4 h5⊢
     cases r with
     |ok x w'=>
      cases x<;>simp only at h5
      case value v=>
       simp only[Oper.uponIn]at h4⊢;exact mV hj GB cT N KL eO hW k _ _ w' h3 (λ_=>h5) uc (by rw[j_];exact aL) h4
     |halt x w'=>cases x<;>simp only[Oper.uponIn]at h4⊢<;>exact h4
    .have tw:=pH (W:=λt=>o.dst==some t) (λt ht=>by simp[ht]) hs
     have ZA:o.wpIn (FR ro) m P a w (λa' w'=>(wpAnyIn (FR ro) m P .any ops Q k (l.setIfInBounds i true) a' w'/\dV (λt=>o.dst==some t) a a')/\a'.tmps.size=n) Q:=by
      unfold Oper.wpIn at tw⊢;refine⟨tw.1,?_⟩;have h4:=tw.2
      generalize(o.semAt (FR ro).round a.eval).run P w=r at*
      cases r with
      |ok x w'=>
       cases x<;>simp only[Oper.uponIn]at h4⊢<;>first
        |exact⟨h4,by rw[j_];exact aL⟩
        |exact⟨h4.1,CallsIn.mono h4.2 (λe iU he=>by cases e<;>first|exact⟨he,by rw[j_];exact aL⟩|exact he)⟩
        |exact⟨h4.1,RowsIn.mono h4.2 (λ_ _ he=>⟨he,by rw[j_];exact aL⟩)⟩
        |exact⟨h4.1,RoundIn.mono h4.2 (λe iU he=>by cases e<;>first|exact⟨he,by rw[j_];exact aL⟩|exact he)⟩
      |halt x w'=>cases x<;>simp only[Oper.uponIn]at h4⊢<;>exact h4
     refine lV (λa' w' hh=>?_) (λe a w bt hh=>?_) ZA
     .exact mV hj GB cT N KL eO hW k _ a' w' h3 (next a' hh.2 hh.1.2 pt) uc hh.2 hh.1.1
     .cases e<;>first|exact hh|exact absurd rfl bt
   .rename_i hw;rw[if_neg hw]at hs
    have pt:i≠j:=by
     rintro rfl;rw[hj]at ho;cases ho;simp[Region.wanted,GB]at hw
    refine⟨hs.1,mV hj GB cT N KL eO hW k _ _ w h3 (next _ (by rw[j_];exact aL) (dV.put (λt ht=>by simp[ht]) _) pt) uc (by rw[j_];exact aL) hs.2⟩
def BD (hG:av GI) (hm:P.follows .mixedOrders=true) {id:Nat} {ops:Array Oper} {p:Nat} (ph:cutAt ops p=true) (cT:(ops.extract 0 p).all (fun o=>cG o.op)=true) (bo:DW P n (ops.extract 0 p)=true)
  {l:List bc} (hl:aO P n true (ops.extract 0 p)=l) (kR:(ops.extract 0 p).size=p) {W:Nat->Bool} (hW:fy (ops.extract 0 p) W=true) (lg:GI w) (pr:Nat->Nat->Prop) (S:af)
  {j d:Nat} {oj:Oper} {T:List Nat} (hj:(ops.extract 0 p)[j]?=some oj) (GB:oj.guard=none) (Y8:cG oj.op=true) (N:Act->Prop)
  (KL:∀a a':Act,a'.tmps.getD d undef=a.tmps.getD d undef->(∀t∈T,a'.tmps.getD t undef=a.tmps.getD t undef)->N a->N a') (eO:∀(a:Act)(w:World),a.tmps.size=n->match(execOp a.eval oj).run P w with|.ok (.value v) _=>N (a.put oj.dst v)|.ok _ _=>False|.halt _ _=>True) (hWn:fy (ops.extract 0 p) (λt=>decide (t<n))=true)
  (dp:uS (ops.extract 0 p) j d T p (Array.replicate p false)=true)
  (aL:a.tmps.size=n) (c_:a.defers=[]) (hS:∀t,t<n->(S t).aw=S t/\RV pr bO w (S t) (a.tmps.getD t undef)) {K:af->ah->Prop}
  (h:cM P GI l K (dM l S) (cD l (λ_=>none)))
  (hk:∀g S' H' a' w',g.old=Old.plain pr w->Rel P w n bp g S' H' a' w'->K S' H'->dV W a a'->N a'->wpOpsIn (FR ro) m P ops Q (List.range' p (ops.size-p)) a' w'):
  (Code.region id ops true).wpIn (FR ro) m P Q a w:=by
 refine Ch hm ph ?_;have key:=jA (ro:=ro) (m:=m) (a:=a) (w:=w) hG lg hm (old:=Old.plain pr w) (ops:=ops.extract 0 p) (Q:=az K) cT bo (λ_ _ _ _ h=>h) rfl (Rel.Ce pr aL c_ hS) (by subst hl;exact h);rw[kR]at key
 have Yn:=mV hj GB Y8 N KL eO hWn p _ a _ dp (λhh=>by
  have:(Array.replicate p false).getD j false=false:=by
   rw[Array.getD_eq_getD_getElem?]
   by_cases hjp:j<p
   .simp[hjp]
   .simp[hjp]
  rw[this]at hh;cases hh) (by simpa using kR.symm) aL (fO hW _ _ _ _ key)
 refine fp ?_ _ _ _ _ Yn;intro e a' w' hq
 cases e with
 |normal=>
  obtain⟨⟨⟨g',S',H',h1,h2,h3⟩,h4⟩,h5⟩:=hq;exact hk g' S' H' a' w' h1 h2 h3 h4 h5
 |exit id=>obtain⟨_,_,_,_,_,h⟩:=hq;exact h.elim
 |ret=>obtain⟨_,_,_,_,_,h⟩:=hq;exact h.elim
 |panic ch=>obtain⟨_,_,_,_,_,_,_,_,_,_,h⟩:=hq;exact h.elim
 |goto l=>exact hq.elim
 |outgrown=>exact hq.elim
end
section
variable{P:Program}{n:Nat}{a:Act}{w:World}{m:Nat}{Q:Exit->Act->World->Prop}
def gY {o:Oper} {t:TypeId} {x:Operand} {b off:Nat} {v:Value} {d:TypeDesc} (ho:o.op = .load t x) (hx:a.eval x = .pointer (some ⟨b,off,none⟩)) (hu:P.underlying t=some d) (hd:fE d=false) (hc:w.cell? ⟨b,off,none⟩=some v) :
  (execOp a.eval o).run P w=.ok (.value v) w:=by
 have kY:(isAgg t).run P w=.ok false w:=by
  unfold isAgg;rw[Sem.run_bind,run_underlying hu w]
  cases d<;>simp_all[fE]
 unfold execOp;simp[ho,hx,Instr.loadAt,Instr.sureAddr,loadVar,Sem.run_bind,kY,hc]
def iO {o:Oper} {t:TypeId} {x y:Operand} {b:Nat} {v u:Value} {ty:TypeId} {i:TypeInfo} (ho:o.op = .store t x y) (hx:a.eval x = .pointer (some ⟨b,0,none⟩)) (hi:P.info? t=some i) (hs:i.size=1) (hb:w.heap[b]? = some (.cells #[u] ty (0,0)))
  (hv:(a.eval y)=v) (h1:v.oneCell'=true):(execOp a.eval o).run P w=.ok .skip (w.setRow b #[v]):=by
 have jB:v.cells=#[v]:=by cases v<;>first|rfl|cases h1
 have eO:=run_storeCells_at P b 0 ty [v] 0 #[u] w hb (by simp) (λx hx=>by simp at hx;subst hx;exact h1);unfold execOp;simp only[ho,hx,hv,Instr.storeAt,Instr.sureAddr,storeVar,sizeOf,typeInfo,Sem.run_bind,Sem.run_pure,Result.andThen_ok,run_program,hi,hs,jB,ne_eq,not_true_eq_false,if_false];simp only[Nat.add_zero,List.take_zero,List.nil_append,List.length_singleton,List.size_toArray,Nat.zero_add]at eO
 have e:(w.setRow b ([v]++List.drop 1 #[u].toList).toArray)=w.setRow b #[v]:=by simp
 rw[e]at eO;have aL:(#[v]:Array Value).size=1:=rfl;simp only[aL,not_true_eq_false,if_false];rw[show storeCells ⟨b,0,none⟩ (#[v]:Array Value).toList=storeCells ⟨b,0,none⟩ [v] 0 from rfl,eO]
 rfl
def vT {o:Oper} {cl:Call} {t:TypeId} {x:Operand} {ad:Option Addr} {k cap:Nat} {el:TypeId} (ho:o.op = .call cl) (jw:cl.callee = .builtin .len) (ha:cl.args = #[x]) (ht:cl.argTypes = #[t]) (hu:P.underlying t=some (.slice el)) (hx:a.eval x = .slice ad k cap) :
  (execOp a.eval o).run P w=.ok (.value (.int .i64 k)) w:=by
 unfold execOp
 have hm:(Builtin.len_ #[t] o.type #[.slice ad k cap]).run P w=.ok (.int .i64 k) w:=by simp[Builtin.len_,run_underlying hu,goInt]
 simp[ho,jw,ha,ht,resolve,invoke,builtin,hx,hm]
def wY {o:Oper} {t:TypeId} {x y:Operand} {g k cap:Nat} {el:TypeId} {i:TypeInfo} (ho:o.op = .slice t x none (some y) none) (hu:P.underlying t=some (.slice el)) (hi:P.info? el=some i) (hx:a.eval x = .slice (some ⟨g,0,none⟩) (k+1) cap) (hy:a.eval y = .int .i64 k) (hk:k≤cap) :
  (execOp a.eval o).run P w=.ok (.value (.slice (some ⟨g,0,none⟩) k cap)) w:=by
 have hb:=run_sliceBound (P:=P) (w:=w) (x:=.int .i64 k) (i:=k) (y:=cap) (code:=.sliceAcap) rfl (by omega) (by omega)
 have Yy:(Instr.sliceBounds true (k+1) cap none (some (.int .i64 k)) none).run P w=.ok (0,k,cap) w:=by
  unfold Instr.sliceBounds;simp[Sem.run_bind,hb]
 unfold execOp;simp[ho,hx,hy,Instr.sliceAt,run_underlying hu,Instr.slice,Yy,sizeOf,typeInfo,hi,Addr.add_lit]
def KX {o:Oper} {t t':TypeId} {x y:Operand} {p q:Int} (ho:o.op = .binOp .sub t x y t') (hx:a.eval x = .int .i64 p) (hy:a.eval y = .int .i64 q) :
  (execOp a.eval o).run P w=.ok (.value (.int .i64 (IntKind.i64.wrap (p-q)))) w:=by
 have h0:(eqGuard .sub t x y (.int .i64 p) (.int .i64 q)).run P w=.ok () w:=gv _ _ _ _ _ _ rfl
 have h1:(binOp .sub t (.int .i64 p) (.int .i64 q)).run P w=.ok (.int .i64 (IntKind.i64.wrap (p-q))) w:=by
  simp[binOp,Op.intArith]
 simp[execOp,ho,hx,hy,h0,h1]
def Nn {ops:Array Oper} {T el ti ti':TypeId} {p t1 t2 t3 t4 t5 bN:Nat} {o0 o1 o2 o3 o4 o5:Oper} {cl:Call} {i iT:TypeInfo} {v:Value} {ty:TypeId} {k:Nat} {xs last:List Value}
  (h0:ops[0]?=some o0) (h1:ops[1]?=some o1) (h2:ops[2]?=some o2) (h3:ops[3]?=some o3) (h4:ops[4]?=some o4) (h5:ops[5]?=some o5)
  (q0:o0.op=.load T (.tmp p)/\o0.dst=some t1/\o0.guard=none) (q1:o1.op=.load T (.tmp p)/\o1.dst=some t2/\o1.guard=none) (q2:o2.op=.call cl/\o2.dst=some t3/\o2.guard=none) (q3:o3.op=.binOp .sub ti (.tmp t3) (.const (.int .i64 1)) ti'/\o3.dst=some t4/\o3.guard=none)
  (q4:o4.op=.slice T (.tmp t1) none (some (.tmp t4)) none/\o4.dst=some t5/\o4.guard=none) (q5:o5.op=.store T (.tmp p) (.tmp t5)/\o5.dst=none/\o5.guard=none)
  (jw:cl.callee=.builtin .len) (yi:cl.args=#[.tmp t2]) (zw:cl.argTypes=#[T]) (hu:P.underlying T=some (.slice el)) (Qa:P.info? T=some iT) (hsT:iT.size=1) (hi:P.info? el=some i)
  (hd:p≠t1/\p≠t2/\p≠t3/\p≠t4/\p≠t5/\t1≠t2/\t1≠t3/\t1≠t4/\t2≠t3/\t3≠t4/\t4≠t5) (aL:a.tmps.size=n) (hn:t1<n/\t2<n/\t3<n/\t4<n/\t5<n)
  (hp:a.tmps.getD p undef=.pointer (some ⟨bN,0,none⟩)) (hN:w.heap[bN]?=some (.cells #[v] ty (0,0))) (cC:w.ownsRow (bN+1) el i.size v (k+1) (xs++last)) (iY:xs.length=k*i.size) (hk:k<1000000)
  (hq:∀a' v',a'.tmps.size=n->a'.defers=a.defers->(∀t,t≠t1->t≠t2->t≠t3->t≠t4->t≠t5->a'.tmps.getD t undef=a.tmps.getD t undef)->v'.ownBlock=v.ownBlock->v.ownBlock.isSome=true->w.ownsRow (bN+1) el i.size v' k xs->Q .normal a' (w.setRow bN #[v'])):
  wpOpsIn (FR none) m P ops Q [0,1,2,3,4,5] a w:=by
 obtain⟨d1,d2,d3,d4,d5,d6,d7,d8,d9,d10,d11⟩:=hd;obtain⟨n1,n2,n3,n4,n5⟩:=hn
 have hc:w.cell? ⟨bN,0,none⟩=some v:=by simp[World.cell?,hN]
 obtain⟨g,cap,rfl⟩:∃g cap,v=.slice (some ⟨g,0,none⟩) (k+1) cap:=by
  rcases cC.2 with⟨_,h⟩|⟨g,cap,cur,h,_⟩
  .omega
  .exact⟨g,cap,h⟩
 have eu:k<=cap:=by
  rcases cC.2 with⟨h,_⟩|⟨g',s_,cur,h,_,_,Be,_⟩
  .cases h
  .cases h;omega
 have J':w.ownsRow (bN+1) el i.size (.slice (some ⟨g,0,none⟩) k cap) k xs:=by
  obtain⟨_,h2⟩:=cC
  rcases h2 with⟨h0,_⟩|⟨g',s_,cur,hv,hg,hh,hn,eu,aL,oq⟩
  .cases h0
  .cases hv;refine⟨iY,.inr ⟨g,cap,cur,rfl,hg,hh,by omega,eu,aL,?_⟩⟩
   have h3:(cur.toList.take ((k+1)*i.size)).take (k*i.size)=(xs++last).take (k*i.size):=by rw[oq]
   rw[List.take_take,Nat.min_eq_left (Nat.mul_le_mul_right _ (by omega))]at h3;rw[h3,<-iY,List.take_left]
 have df:∀(a:Act)(d t:Nat)(c:Value),t≠d->(a.put (some d) c).tmps.getD t undef=a.tmps.getD t undef:=λa d t c h=>by
  simp[Act.put,Array.getElem?_setIfInBounds_ne (Ne.symm h)]
 have gq:∀(a:Act)(d:Nat)(c:Value),a.tmps.size=n->d<n->(a.put (some d) c).tmps.getD d undef=c:=λa d c h hd=>by
  simp[Act.put,h,hd]
 have gE:∀(a:Act)(d:Option Nat)(c:Value),(a.put d c).tmps.size=a.tmps.size:=λa d c=>by cases d<;>simp[Act.put]
 have zW:∀(a:Act)(d:Option Nat)(c:Value),(a.put d c).defers=a.defers:=λa d c=>by cases d<;>rfl
 refine aT h0 q0.2.2 (by rw[q0.1];rfl) (gY q0.1 hp hu rfl hc) ?_;rw[q0.2.1]
 obtain⟨a1,Gx⟩:∃a1,a.put (some t1) (.slice (some ⟨g,0,none⟩) (k+1) cap)=a1:=⟨_,rfl⟩
 have z1:a1.tmps.size=n:=by rw[<-Gx,gE];exact aL
 have v1:a1.tmps.getD t1 undef=.slice (some ⟨g,0,none⟩) (k+1) cap:=by rw[<-Gx];exact gq a t1 _ aL n1
 have p1:a1.tmps.getD p undef=.pointer (some ⟨bN,0,none⟩):=by rw[<-Gx,df _ _ _ _ d1];exact hp
 rw[Gx];refine aT h1 q1.2.2 (by rw[q1.1];rfl) (gY q1.1 p1 hu rfl hc) ?_;rw[q1.2.1]
 obtain⟨a2,jo⟩:∃a2,a1.put (some t2) (.slice (some ⟨g,0,none⟩) (k+1) cap)=a2:=⟨_,rfl⟩
 have z2:a2.tmps.size=n:=by rw[<-jo,gE];exact z1
 have v2:a2.tmps.getD t2 undef=.slice (some ⟨g,0,none⟩) (k+1) cap:=by rw[<-jo];exact gq a1 t2 _ z1 n2
 have v1:a2.tmps.getD t1 undef=.slice (some ⟨g,0,none⟩) (k+1) cap:=by rw[<-jo,df _ _ _ _ d6];exact v1
 have p2:a2.tmps.getD p undef=.pointer (some ⟨bN,0,none⟩):=by rw[<-jo,df _ _ _ _ d2];exact p1
 rw[jo];refine aT h2 q2.2.2 (by rw[q2.1];rfl) (vT q2.1 jw yi zw hu v2) ?_;rw[q2.2.1]
 obtain⟨a3,j0⟩:∃a3,a2.put (some t3) (.int .i64 ((k+1:Nat):Int))=a3:=⟨_,rfl⟩
 have z3:a3.tmps.size=n:=by rw[<-j0,gE];exact z2
 have v3:a3.tmps.getD t3 undef=.int .i64 ((k+1:Nat):Int):=by rw[<-j0];exact gq a2 t3 _ z2 n3
 have v1:a3.tmps.getD t1 undef=.slice (some ⟨g,0,none⟩) (k+1) cap:=by rw[<-j0,df _ _ _ _ d7];exact v1
 have p3:a3.tmps.getD p undef=.pointer (some ⟨bN,0,none⟩):=by rw[<-j0,df _ _ _ _ d3];exact p2
 rw[j0];refine aT h3 q3.2.2 (by rw[q3.1];rfl) (KX q3.1 v3 rfl) ?_;rw[q3.2.1]
 have hw:IntKind.i64.wrap (((k+1:Nat):Int)-1)=(k:Int):=by
  have key:∀m:Int,m=(((k+1:Nat):Int)-1) % 18446744073709551616->(if decide (m>=9223372036854775808)=true then m-18446744073709551616 else m)=(k:Int):=by
   intro m hm;split
   .rename_i hd;have:=of_decide_eq_true hd;omega
   .omega
  exact key _ rfl
 rw[hw]
 obtain⟨a4,jG⟩:∃a4,a3.put (some t4) (.int .i64 (k:Int))=a4:=⟨_,rfl⟩
 have z4:a4.tmps.size=n:=by rw[<-jG,gE];exact z3
 have v4:a4.tmps.getD t4 undef=.int .i64 (k:Int):=by rw[<-jG];exact gq a3 t4 _ z3 n4
 have v1:a4.tmps.getD t1 undef=.slice (some ⟨g,0,none⟩) (k+1) cap:=by rw[<-jG,df _ _ _ _ d8];exact v1
 have p4:a4.tmps.getD p undef=.pointer (some ⟨bN,0,none⟩):=by rw[<-jG,df _ _ _ _ d4];exact p3
 rw[jG];refine aT h4 q4.2.2 (by rw[q4.1];rfl) (wY q4.1 hu hi v1 v4 eu) ?_;rw[q4.2.1]
 obtain⟨a5,nM⟩:∃a5,a4.put (some t5) (.slice (some ⟨g,0,none⟩) k cap)=a5:=⟨_,rfl⟩
 have z5:a5.tmps.size=n:=by rw[<-nM,gE];exact z4
 have v5:a5.tmps.getD t5 undef=.slice (some ⟨g,0,none⟩) k cap:=by rw[<-nM];exact gq a4 t5 _ z4 n5
 have p5:a5.tmps.getD p undef=.pointer (some ⟨bN,0,none⟩):=by rw[<-nM,df _ _ _ _ d5];exact p4
 rw[nM];refine eC h5 q5.2.2 (by rw[q5.1];rfl) (iO q5.1 p5 Qa hsT hN v5 rfl) ?_;rw[q5.2.1];refine hq a5 _ z5 ?_ (λt e1 e2 e3 e4 e5=>?_) rfl rfl J'
 .rw[<-nM,zW,<-jG,zW,<-j0,zW,<-jo,zW,<-Gx,zW]
 .rw[<-nM,df _ _ _ _ e5,<-jG,df _ _ _ _ e4,<-j0,df _ _ _ _ e3,<-jo,df _ _ _ _ e2,<-Gx,df _ _ _ _ e1]
def eX {F:Fence} {ops:Array Oper} {Q1:Exit→Act→World→Prop} {l2:List Nat} (hQ:∀ e a w,e ≠ .normal→Q1 e a w→Q e a w) (hn:∀ a w,Q1 .normal a w→wpOpsIn F m P ops Q l2 a w) :
  ∀(l1:List Nat)(a:Act)(w:World),wpOpsIn F m P ops Q1 l1 a w->wpOpsIn F m P ops Q (l1++l2) a w
 |[],a,w,h=>hn a w h
 |i::l,a,w,h=>by
  simp only[List.cons_append,wpOpsIn]at h⊢
  cases ho:ops[i]? with
  |none=>simp only[ho]at h⊢;exact eX hQ hn l a w h
  |some o=>
   simp only[ho]at h⊢;split
   .rename_i hw;rw[if_pos hw]at h;exact lV (λa w hh=>eX hQ hn l a w hh) hQ h
   .rename_i hw;rw[if_neg hw]at h;exact⟨h.1,eX hQ hn l _ w h.2⟩
def rp {GI:World→Prop} {ro:Option Nat} (hG:av GI) {ops:Array Oper} {p:Nat} {l2:List Nat} (hr:List.range ops.size=List.range p++l2) (cT:ops.all (fun o=>cG o.op)=true) (bo:((aO P n false ops).take p).all (·.ok n)=true)
  {l:List bc} (hl:(aO P n false ops).take p=l) (hpn:p<=ops.size) {W:Nat->Bool} (hW:fy ops W=true) (lg:GI w) (pr:Nat->Nat->Prop) (S:af)
  (aL:a.tmps.size=n) (c_:a.defers=[]) (hS:∀t,t<n->(S t).aw=S t/\RV pr bO w (S t) (a.tmps.getD t undef)) {K:af->ah->Prop} (h:aV P GI l K (λ_=>False) S (λ_=>none))
  (hk:∀g S' H' a' w',g.old=Old.plain pr w->Rel P w n bp g S' H' a' w'->K S' H'->dV W a a'->wpOpsIn (FR ro) m P ops Q l2 a' w') {id:Nat}:(Code.region id ops false).wpIn (FR ro) m P Q a w:=by
 refine wpIn_region ?_;rw[hr];subst hl;have R:=Rel.Ce (P:=P) pr aL c_ hS
 have key:=lT hG lg (old:=Old.plain pr w) (ops:=ops) (Q:=az K) (S0:=S) (H0:=fun _=>none) (List.range p) (ops.toList.take p) _ S _ a w (by
   apply List.ext_getElem?;intro i;simp only[List.getElem?_map,List.getElem?_take]
   by_cases hi:i<p
   .have:i<ops.size:=by omega
    simp[hi,this]
   .simp[hi]) (λo ic=>by
    simp only[aO,<-List.map_take,List.all_map,List.all_eq_true,Function.comp]at bo
    exact bo o ic) (λ_ _ _ _ h=>h) rfl R (by
    simp only[aO,<-List.map_take]at h
    exact h)
 refine eX (Q1:=tI W a (QQ P w n (Old.plain pr w) (az K))) (λe a w bt hq=>?_) (λa' w' hq=>?_) _ _ _ (fm hW _ _ _ (km cT ki _ _ _ key))
 .cases e with
  |normal=>exact absurd rfl bt
  |exit id=>obtain⟨_,_,_,_,_,h⟩:=hq;exact h.elim
  |ret=>obtain⟨_,_,_,_,_,h⟩:=hq;exact h.elim
  |panic ch=>obtain⟨_,_,_,_,_,_,_,_,_,_,h⟩:=hq;exact h.elim
  |goto l=>exact hq.elim
  |outgrown=>exact hq.elim
 .obtain⟨⟨g',S',H',h1,h2,h3⟩,h4⟩:=hq;exact hk g' S' H' a' w' h1 h2 h3 h4
end
section
variable{P:Program}{GI:World->Prop}{n:Nat}{old:Old}{S:af}{H:ah}{Q:gy}
def mD (hG:av GI) {w0:World} (db:GI w0) {ro:Option Nat} {m:Nat} {ops:Array Oper} (cT:ops.all (fun o=>cG o.op)=true) {g:Gh} {a:Act} {w:World} (ho:g.old=old) (R:Rel P w0 n bp g S H a w) (l:List Nat) (os:List Oper) (hl:l.map (ops[·]?)=os.map some)
  (bo:∀o∈os,(aW P n false ops o).ok n=true) (bC:∀d,¬old.bx d) {K:af->ah->Prop} (h:aV P GI (os.map (aW P n false ops)) K (λ_=>False) S H):
  wpOpsIn (FR ro) m P ops (QQ P w0 n old (az K)) l a w:=
 km cT ki _ _ _ (lT hG db (old:=old) (ops:=ops) (Q:=az K) (S0:=S) (H0:=H) l os g S H a w hl bo (λ_ _ _ _=>bC _) ho R h)
def SW.mid (hG:av GI) {ro:Option Nat} {id p:Nat} {ops:Array Oper} {oh:Oper} {l2:List Nat} {mH lS:List Oper} (Kb:ops.toList=mH++oh::lS) (hp:mH.length=p) (hr:List.range ops.size=List.range p++(p::l2)) (oL:l2.map (ops[·]?)=lS.map some)
  (cT:ops.all (λo=>cG o.op)=true) (hgh:oh.guard=none) (bC:∀d,¬old.bx d)
  {ua tH:List bc} (ES:mH.map (aW P n false ops)=ua) (Fk:lS.map (aW P n false ops)=tH) (fh:ua.all (·.ok n)=true) (zU:tH.all (·.ok n)=true)
  {K1:af->ah->Prop} {K2 K3:Old->af->ah->Prop} (h1:aV P GI ua K1 (λ_=>False) S H)
  (hand:∀w0 g S1 H1 a w,g.old=old->Rel P w0 n bp g S1 H1 a w->K1 S1 H1->∃v w' g2 S2 H2,((execOp a.eval oh).run P w=.ok (.value v) w'\/((execOp a.eval oh).run P w=.ok .skip w'/\v=undef))/\Rel P w0 n bp g2 S2 H2 (a.put oh.dst v) w'/\K2 g2.old S2 H2)
  (h2:∀o S H,K2 o S H->(∀d,¬o.bx d)/\aV P GI tH (K3 o) (λ_=>False) S H) (hQ:∀o S H,K3 o S H->Q .normal o S H):SW P GI n ro (.region id ops false) Q old S H:=by
 intro w0 g a w m db ho R;refine wpIn_region ?_;rw[hr]
 have uq:(List.range p).map (ops[·]?)=mH.map some:=by
  apply List.ext_getElem?;intro i;simp only[List.getElem?_map]
  by_cases hi:i<p
  .have h3:ops[i]? = mH[i]? := by
    rw[<-Array.getElem?_toList,Kb,List.getElem?_append_left (by omega)]
   have h4:mH[i]?=some (mH[i]'(by omega)):=List.getElem?_eq_getElem (by omega);simp[hi,h3,h4]
  .have:mH[i]?=none:=List.getElem?_eq_none (by omega);simp[hi,this]
 have XK:ops[p]?=some oh:=by
  rw[<-Array.getElem?_toList,Kb,List.getElem?_append_right (by omega)];simp[hp]
 refine eX (Q1:=QQ P w0 n old (az K1)) (fun e a w bt hq => ?_) (fun a1 w1 hq => ?_) _ _ _ (mD hG db cT ho R (List.range p) mH uq (fun o ic=>by
   subst ES;simp only[List.all_map,List.all_eq_true,Function.comp]at fh
   exact fh o ic) bC (by rw[ES];exact h1))
 .cases e with
  |normal=>exact absurd rfl bt
  |exit id=>obtain⟨_,_,_,_,_,h⟩:=hq;exact h.elim
  |ret=>obtain⟨_,_,_,_,_,h⟩:=hq;exact h.elim
  |panic ch=>obtain⟨_,_,_,_,_,_,_,_,_,_,h⟩:=hq;exact h.elim
  |goto l=>exact hq.elim
  |outgrown=>exact hq.elim
 .obtain⟨g1,S1,H1,lN,R1,z8⟩:=hq;obtain⟨v,w2,g2,S2,H2,eO,R2,pT⟩:=hand w0 g1 S1 H1 a1 w1 lN R1 z8;obtain⟨iw,jo⟩:=h2 _ _ _ pT
  have S_:cG oh.op=true:=by
   have:=Array.all_eq_true'.1 cT oh (Array.mem_of_getElem? XK);exact this
  have rest:wpOpsIn (FR ro) m P ops (QS P w0 n Q) l2 (a1.put oh.dst v) w2:=by
   have:=mD (ro:=ro) (m:=m) hG db cT (old:=g2.old) rfl R2 l2 lS oL (λo ic=>by
    subst Fk;simp only[List.all_map,List.all_eq_true,Function.comp]at zU
    exact zU o ic) iw (by rw[Fk];exact jo)
   refine eY (λe a w hq=>?_) _ _ _ this
   cases e with
   |normal=>
    obtain⟨g3,S3,H3,pD,R3,Na⟩:=hq;exact⟨g3,S3,H3,R3,by rw[pD];exact hQ _ _ _ Na⟩
   |exit id=>obtain⟨_,_,_,_,_,h⟩:=hq;exact h.elim
   |ret=>obtain⟨_,_,_,_,_,h⟩:=hq;exact h.elim
   |panic ch=>obtain⟨_,_,_,_,_,_,_,_,_,_,h⟩:=hq;exact h.elim
   |goto l=>exact hq.elim
   |outgrown=>exact hq.elim
  rcases eO with eO|⟨eO,rfl⟩
  .exact aT XK hgh S_ eO rest
  .exact eC XK hgh S_ eO rest
variable{w0:World}{g:Gh}{a:Act}{w:World}
def Rel.Nw(R:Rel P w0 n bp g S H a w)(o:Obj):Rel P w0 n bp { g with old:={ g.old with keep:=au g.old.keep w.heap.size (some o) } } S H a (w.alloc o):=by
 have hb:Below w.heap.size w (w.alloc o):=(Below.refl _ _).alloc (Nat.le_refl _) _;have R':=Rel.oA R hb
 have hle:g.base<=w.heap.size:=by rw[R.base];exact R.below.size
 refine{ size:=R'.size,defers:=R'.defers,facts:=R'.facts,slot:=R'.slot,own:=λt ht hu=>(R'.own t ht hu).keep rfl λb hb=>⟨rfl,rfl,hb⟩,box:=?_,jt:=R'.jt,jq:=R'.jq,inj:=R'.inj,base:=R'.base,below:=R'.below,fresh:=R'.fresh,still:=R'.still,grown:=R'.grown,kept:=?_ }
 .intro i b hi;obtain⟨cs,vs,ty,h1,h2,h3,h4,h5,h6,h7,h8,h9⟩:=R'.box i b hi;exact⟨cs,vs,ty,h1,h2,h3,h4,h5,h6,h7,λj hj dJ=>(h8 j hj dJ).keep rfl λb hb=>⟨rfl,rfl,hb⟩,h9⟩
 .intro b ob h
  by_cases fV:b=w.heap.size
  .subst fV
   have:ob=o:=by simpa[au]using h.symm
   subst this;refine⟨hle,World.alloc_heap_new w _,(R.fresh _ (Nat.le_refl _)).1,(R.fresh _ (Nat.le_refl _)).2,λi hi=>?_⟩;obtain⟨_,_,_,_,_,h3,_⟩:=R.box i _ hi;have:=(Array.getElem?_eq_some_iff.1 h3).1;omega
  .have h:g.old.keep b=some ob:=by simpa[au,fV]using h
   exact R'.kept b ob h
def pF(b:Nat)(ks vs:List AV):AV->AV
 |.val (.map (some b'))=>if b'=b then .map ks vs else .val (.map (some b'))
 |v=>v
def Iv(b:Nat)(ks vs:List AV)(v:AV)(h:v.one=true):(pF b ks vs v).one=true:=by
 unfold pF;split
 .split<;>rfl
 .exact h
def Rel.OP (R:Rel P w0 n bp g S H a w) {b:Nat} {es:Array MapEntry} {clock:Nat} (hk:g.old.keep b=some (.map es clock)) (ks vs:List AV) (oU:ks.length=es.size) (U':vs.length=es.size)
  (VZ:∀i (h:i<ks.length)(h':i<es.size),RD (λ_ _=>False) w ks[i] (es[i]).key) (CR:∀i (h:i<vs.length)(h':i<es.size),RD (λ_ _=>False) w vs[i] (es[i]).val)
  (hf:g.old.facts=[]):∃g',g'.old={ g.old with keep:=au g.old.keep b none }/\Rel P w0 n bp g' (λt=>match S t with|.box i o=>.box i o|_=>.bj) (λi=>(H i).map λcs=>cs.map (pF b ks vs)) a w:=by
 obtain⟨k1,k2,k3,k4,k5⟩:=R.kept b _ hk
 let g':Gh:={ g with old:={ g.old with keep:=au g.old.keep b none },hi:=au g.hi b 1 }
 have lx:∀c k,g.Pr c k->g'.Pr c k:=by
  intro c k h;rcases h with h|h
  .exact .inl h
  .refine .inr ⟨h.1,?_⟩;show k<au g.hi b 1 c
   by_cases hc:c=b
   .subst hc;rw[k3]at h;omega
   .rw[aJ _ _ hc];exact h.2
 have hK:aE g.Pr g'.Pr w w:=aE.same λc k _ h=>lx c k h
 have aa0:RD g'.Pr w (.map ks vs) (.map (some b)):=by
  refine .map ks vs b es clock (.inr ⟨k1,by show 0<au g.hi b 1 b;rw[aN];omega⟩) k2 oU U' (λi h h'=>(VZ i h h').mono (aE.same λ_ _ _ h=>h.elim)) (λi h h'=>(CR i h h').mono (aE.same λ_ _ _ h=>h.elim))
 have XG:∀{v:AV}{c:Value},RD g.Pr w v c->RD g'.Pr w (pF b ks vs v) c:=by
  intro v c h;unfold pF;split
  .rename_i b';split
   .rename_i hb;subst hb;cases h;exact aa0
   .exact h.mono hK
  .exact h.mono hK
 refine⟨g',rfl,{ size:=R.size,defers:=R.defers,facts:=λp hp=>(by rw[show g'.old.facts=g.old.facts from rfl,hf]at hp;cases hp),slot:=?_,own:=?_,box:=?_,jt:=?_,jq:=R.jq,inj:=R.inj,base:=R.base,below:=R.below,fresh:=?_,still:=R.still.trans hK,grown:=R.grown,kept:=?_ }⟩
 .intro t ht hu;have h:=R.slot t ht hu;show RV g'.Pr g'.al w (match S t with|.box i o=>.box i o|_=>.bj) _;split
  .rename_i i o hs;rw[hs]at h;generalize a.tmps.getD t undef=c at h
   cases h with
   |data _ _ h=>cases h
   |box _ _ b h=>exact .box _ _ _ h
  .exact .bj _
 .intro t ht hu;show dw P w g' (.slot t) (match S t with|.box i o=>.box i o|_=>.bj) _
  split<;>trivial
 .intro i c hi;obtain⟨cs,ju,ty,h1,h2,h3,h4,h5,h6,h7,h8,h9⟩:=R.box i c hi
  have mw:c≠b:=by rintro rfl;exact k5 i hi
  refine⟨cs.map (pF b ks vs),ju,ty,by simp[h1],h2,h3,by show au g.hi b 1 c=0;rw[aJ _ _ mw];exact h4,h5,by simpa using h6,λj hj dJ=>?_,λj hj dJ=>?_,λj hj=>?_⟩
  .simp only[List.length_map]at hj;simp only[List.getElem_map];exact XG (h7 j hj dJ)
  .simp only[List.length_map]at hj;simp only[List.getElem_map];have ho:=h8 j hj dJ;unfold pF;split
   .split<;>trivial
   .refine ho.keep rfl λb' eN=>⟨rfl,?_,eN⟩
    show au g.hi b 1 b'=g.hi b';exact aJ _ _ (by rintro rfl;rw[k4]at eN;cases eN)
  .simp only[List.length_map]at hj;simp only[List.getElem_map];exact Iv _ _ _ _ (h9 j hj)
 .intro i cs h hu;obtain⟨cs',h1,_⟩:=Option.map_eq_some_iff.1 h;exact R.jt i cs' h1 hu
 .intro c hc
  have mw:c≠b:=by
   rintro rfl;have:=(Array.getElem?_eq_some_iff.1 k2).1;omega
  exact⟨by show au g.hi b 1 c=0;rw[aJ _ _ mw];exact(R.fresh c hc).1,(R.fresh c hc).2⟩
 .intro c ob h
  have mw:c≠b:=by rintro rfl;simp[g',au]at h
  have h:g.old.keep c=some ob:=by simpa[g',au,mw]using h
  obtain⟨q1,q2,q3,q4,q5⟩:=R.kept c ob h;exact⟨q1,q2,by show au g.hi b 1 c=0;rw[aJ _ _ mw];exact q3,q4,q5⟩
end
def lO(i:Nat)(cs:List AV):AV->AV
 |.box j off=>if j=i then .ref ((cs.map AV.aw).drop off)else .box j off
 |v=>aZ i v
section
variable{P:Program}{w0:World}{n:Nat}{g:Gh}{S:af}{H:ah}{a:Act}{w:World}
def Rel.freeze (R:Rel P w0 n bp g S H a w) {i:Nat} {cs:List AV} (hH:H i=some cs) (hf:g.old.facts=[]) :
  ∃g',g'.old=g.old/\Rel P w0 n bp g' (λt=>lO i cs (S t)) (au H i none) a w:=by
 obtain⟨b,hb⟩:=Option.isSome_iff_exists.1 (R.jt i cs hH id);obtain⟨cs',vs,ty,e0,b1,b2,b3,b4,b5,b6,b7,b8⟩:=R.box i b hb;rw[hH]at e0;cases e0
 let g':Gh:={ g with al:=au g.al i none,hi:=au g.hi b cs.length }
 have lx:∀c k,g.Pr c k->g'.Pr c k:=by
  intro c k h;rcases h with h|h
  .exact .inl h
  .refine .inr ⟨h.1,?_⟩;show k<au g.hi b cs.length c
   by_cases hc:c=b
   .subst hc;rw[b3]at h;omega
   .rw[aJ _ _ hc];exact h.2
 have hK:aE g.Pr g'.Pr w w:=aE.same λc k _ h=>lx c k h
 have fu:∀j c,j≠i->g.al j=some c->g'.al j=some c:=λj c hj h=>by show au g.al i none j=_;rw[aJ _ _ hj];exact h
 have yh:∀j c,j≠i->g.al j=some c->c≠b:=by
  rintro j c hj h rfl;exact hj (R.inj j i _ h hb)
 refine⟨g',rfl,{ size:=R.size,defers:=R.defers,facts:=λp hp=>(by rw[show g'.old.facts=g.old.facts from rfl,hf]at hp;cases hp),slot:=?_,own:=?_,box:=?_,jt:=?_,jq:=λ_ h=>h.elim,inj:=?_,base:=R.base,below:=R.below,fresh:=?_,still:=R.still.trans hK,grown:=R.grown,kept:=?_ }⟩
 .intro t ht hu;have h:=R.slot t ht hu;generalize a.tmps.getD t undef=c at h;have h2:=(h.aZ i fu).mono hK (λ_ _ h=>h);show RV g'.Pr g'.al w (lO i cs (S t)) c;generalize S t=v at h h2
  cases v<;>try exact h2
  rename_i j off;simp only[lO];simp only[aZ]at h2;split
  .rename_i hj;subst hj
   have gQ:∃c',c=.pointer (some ⟨c',off,none⟩)/\g.al j=some c':=by
    cases h with
    |data _ _ h=>cases h
    |box _ _ c' h=>exact⟨c',rfl,h⟩
   obtain⟨c',rfl,KP⟩:=gQ;rw[hb]at KP;cases KP;refine .data _ _ (.ref _ b off (λk=>vs.getD (off+k) undef) (λk hk=>?_) (λk hk=>?_) (λk hk=>?_))
   .simp only[List.getElem_drop,List.getElem_map];simp only[List.length_drop,List.length_map]at hk;exact(AV.np _).trans (b8 _ (by omega))
   .simp only[List.length_drop,List.length_map]at hk;refine⟨.inr ⟨b1,by show off+k<au g.hi b cs.length b;rw[aN];omega⟩,?_⟩
    have:off+k<vs.size:=by omega
    simp[World.cell?,b2,this]
   .simp only[List.length_drop,List.length_map]at hk;simp only[List.getElem_drop,List.getElem_map];have hh:=b6 (off+k) (by omega) (by omega)
    have:off+k<vs.size:=by omega
    have:=hh.aw.mono hK;simpa[‹off+k<vs.size›]using this
  .rename_i hj;rw[if_neg hj]at h2;exact h2
 .intro t ht hu;have h:=R.own t ht hu;have h2:=zl P w g (.slot t) i (S t) _ h
  have h3:dw P w g' (.slot t) (aZ i (S t)) (a.tmps.getD t undef):=h2.keep rfl λc hc=>⟨rfl,by show au g.hi b cs.length c=g.hi c;exact aJ _ _ (by rintro rfl;rw[b4]at hc;cases hc),hc⟩
  show dw P w g' (.slot t) (lO i cs (S t)) _;generalize S t=v at h3
  cases v<;>try exact h3
  simp only[lO]
  split<;>trivial
 .intro j c hj
  have eL:j≠i:=by rintro rfl;simp[g',au]at hj
  have dJ:g.al j=some c:=by simpa[g',au,eL]using hj
  have mw:=yh j c eL dJ;obtain⟨Rw,Lb,YR,h1,h2,h3,h4,h5,h6,h7,h8,h9⟩:=R.box j c dJ;refine⟨Rw,Lb,YR,by rw[aJ _ _ eL];exact h1,h2,h3,by show au g.hi b cs.length c=0;rw[aJ _ _ mw];exact h4,h5,h6,λk hk eG=>(h7 k hk eG).mono hK,λk hk eG=>?_,h9⟩
  refine(h8 k hk eG).keep rfl λb' eN=>⟨rfl,?_,eN⟩
  show au g.hi b cs.length b'=g.hi b';exact aJ _ _ (by rintro rfl;rw[b4]at eN;cases eN)
 .intro j Rw h hu
  have eL:j≠i:=by rintro rfl;simp[au]at h
  have h':H j=some Rw:=by simpa[au,eL]using h
  show(au g.al i none j).isSome;rw[aJ _ _ eL];exact R.jt j Rw h' hu
 .intro j k c h1 h2
  have hj:j≠i:=by rintro rfl;simp[g',au]at h1
  have hk:k≠i:=by rintro rfl;simp[g',au]at h2
  exact R.inj j k c (by simpa[g',au,hj]using h1) (by simpa[g',au,hk]using h2)
 .intro c hc
  have mw:c≠b:=by
   rintro rfl;have:=(Array.getElem?_eq_some_iff.1 b2).1;omega
  exact⟨by show au g.hi b cs.length c=0;rw[aJ _ _ mw];exact(R.fresh c hc).1,(R.fresh c hc).2⟩
 .intro c ob h;obtain⟨q1,q2,q3,q4,q5⟩:=R.kept c ob h
  have mw:c≠b:=by rintro rfl;exact q5 i hb
  refine⟨q1,q2,by show au g.hi b cs.length c=0;rw[aJ _ _ mw];exact q3,q4,λj=>?_⟩;show au g.al i none j≠some c
  by_cases hj:j=i
  .subst hj;simp[au]
  .rw[aJ _ _ hj];exact q5 j
end
section
variable{P:Program}{GI:World->Prop}{n:Nat}{old:Old}{S:af}{H:ah}{Q:gy}{ro:Option Nat}
def SW.ghost{c:Code}{K:Old->af->ah->Prop}(h:∀w0 g a w,g.old=old->Rel P w0 n bp g S H a w->∃g2 S2 H2,Rel P w0 n bp g2 S2 H2 a w/\K g2.old S2 H2)(hc:∀o S H,K o S H->SW P GI n ro c Q o S H):SW P GI n ro c Q old S H:=by
 intro w0 g a w m hG ho R;obtain⟨g2,S2,H2,R2,hK⟩:=h w0 g a w ho R;exact hc _ _ _ hK w0 g2 a w m hG rfl R2
def SW.freeze{c:Code}{i:Nat}{cs:List AV}(hH:H i=some cs)(hf:old.facts=[])(hc:SW P GI n ro c Q old (λt=>lO i cs (S t)) (au H i none)):SW P GI n ro c Q old S H:=by
 intro w0 g a w m hG ho R;obtain⟨g',h1,R'⟩:=R.freeze hH (by rw[ho];exact hf);exact hc w0 g' a w m hG (h1.trans ho) R'
def HQ(P:Program)(w0:World)(n:Nat)(K:Old->af->ah->Prop):Exit->Act->World->Prop
 |.normal,a,w=>∃g S H,Rel P w0 n bp g S H a w/\K g.old S H
 |_,_,_=>False
def SW.hand (hG:av GI) {id p:Nat} {ops:Array Oper} {lm l2:List Nat} {mH oh lS:List Oper} (Kb:ops.toList=mH++(oh++lS)) (hp:mH.length=p) (hr:List.range ops.size=List.range p++(lm++l2)) (oL:l2.map (ops[·]?)=lS.map some)
  (cT:ops.all (λo=>cG o.op)=true) (bC:∀d,¬old.bx d)
  {ua tH:List bc} (ES:mH.map (aW P n false ops)=ua) (Fk:lS.map (aW P n false ops)=tH) (fh:ua.all (·.ok n)=true) (zU:tH.all (·.ok n)=true)
  {K1:af->ah->Prop} {K2 K3:Old->af->ah->Prop} (h1:aV P GI ua K1 (λ_=>False) S H)
  (hand:∀w0 g S1 H1 a w m,GI w0->g.old=old->Rel P w0 n bp g S1 H1 a w->K1 S1 H1->wpOpsIn (FR ro) m P ops (HQ P w0 n K2) lm a w)
  (h2:∀o S H,K2 o S H->(∀d,¬o.bx d)/\aV P GI tH (K3 o) (λ_=>False) S H) (hQ:∀o S H,K3 o S H->Q .normal o S H):SW P GI n ro (.region id ops false) Q old S H:=by
 intro w0 g a w m db ho R;refine wpIn_region ?_;rw[hr]
 have uq:(List.range p).map (ops[·]?)=mH.map some:=by
  apply List.ext_getElem?;intro i;simp only[List.getElem?_map]
  by_cases hi:i<p
  .have h3:ops[i]? = mH[i]? := by
    rw[<-Array.getElem?_toList,Kb,List.getElem?_append_left (by omega)]
   have h4:mH[i]?=some (mH[i]'(by omega)):=List.getElem?_eq_getElem (by omega);simp[hi,h3,h4]
  .have:mH[i]?=none:=List.getElem?_eq_none (by omega);simp[hi,this]
 refine eX (Q1:=QQ P w0 n old (az K1)) (fun e a w bt hq => ?_) (fun a1 w1 hq => ?_) _ _ _ (mD hG db cT ho R (List.range p) mH uq (fun o ic=>by
   subst ES;simp only[List.all_map,List.all_eq_true,Function.comp]at fh
   exact fh o ic) bC (by rw[ES];exact h1))
 .cases e with
  |normal=>exact absurd rfl bt
  |exit id=>obtain⟨_,_,_,_,_,h⟩:=hq;exact h.elim
  |ret=>obtain⟨_,_,_,_,_,h⟩:=hq;exact h.elim
  |panic ch=>obtain⟨_,_,_,_,_,_,_,_,_,_,h⟩:=hq;exact h.elim
  |goto l=>exact hq.elim
  |outgrown=>exact hq.elim
 .obtain⟨g1,S1,H1,lN,R1,z8⟩:=hq;refine eX (Q1:=HQ P w0 n K2) (λe a w bt hq=>?_) (λa2 w2 hq=>?_) _ _ _ (hand w0 g1 S1 H1 a1 w1 m db lN R1 z8)
  .cases e with
   |normal=>exact absurd rfl bt
   |_=>exact hq.elim
  .obtain⟨g2,S2,H2,R2,pT⟩:=hq;obtain⟨iw,jo⟩:=h2 _ _ _ pT
   have:=mD (ro:=ro) (m:=m) hG db cT (old:=g2.old) rfl R2 l2 lS oL (λo ic=>by
    subst Fk;simp only[List.all_map,List.all_eq_true,Function.comp]at zU
    exact zU o ic) iw (by rw[Fk];exact jo)
   refine eY (λe a w hq=>?_) _ _ _ this
   cases e with
   |normal=>
    obtain⟨g3,S3,H3,pD,R3,Na⟩:=hq;exact⟨g3,S3,H3,R3,by rw[pD];exact hQ _ _ _ Na⟩
   |exit id=>obtain⟨_,_,_,_,_,h⟩:=hq;exact h.elim
   |ret=>obtain⟨_,_,_,_,_,h⟩:=hq;exact h.elim
   |panic ch=>obtain⟨_,_,_,_,_,_,_,_,_,_,h⟩:=hq;exact h.elim
   |goto l=>exact hq.elim
   |outgrown=>exact hq.elim
end
section
variable{P:Program}{a:Act}{w:World}
end
section
variable{P:Program}{GI:World->Prop}{n:Nat}{old:Old}{S:af}{H:ah}{Q:gy}{ro:Option Nat}
end
section
variable{P:Program}{GI:World->Prop}{call:Ib}{n:Nat}{ro:Option Nat}{Q:gy}{old:Old}
def I4{c:Code}{x y:ae}(h:cE P n c=.seq x y):∃x' y',c=.seq x' y'/\cE P n x'=x/\cE P n y'=y:=by
 cases c with
 |seq x' y'=>simp only[cE,ae.seq.injEq]at h;exact⟨x',y',rfl,h.1,h.2⟩
 |region id ops draw=>
  simp only[cE]at h;split at h
  .split at h<;>cases h
  .split at h<;>cases h
 |cond c x y=>simp only[cE]at h;split at h<;>cases h
 |_=>cases h
end
section
variable{P:Program}{GI:World->Prop}{n:Nat}{w0:World}
def xx(P:Program)(GI:World->Prop)(i:Nat):Nat->ae->(dU->af->ah->Prop)->af->ah->Prop
 |0,ac,Q,S,H=>∃cs,H i=some cs/\bq P GI ac Q (λt=>lO i cs (S t)) (au H i none)
 |k+1,.seq x y,Q,S,H=>bq P GI x (λe S' H'=>match e with
  |.normal=>xx P GI i k y Q S' H'
  |e=>Q e S' H') S H
 |_+1,_,_,_,_=>False
def Fb(hG:av GI)(db:GI w0)(hm:P.follows .mixedOrders=true){old:Old}{i:Nat}(hf:old.facts=[])(bC:∀d,¬old.bx d):∀(k:Nat)(c:Code)(Q:dU->af->ah->Prop)(g:Gh)(S:af)(H:ah)(a:Act)(w:World),g.old=old->Rel P w0 n bp g S H a w->xx P GI i k (cE P n c) Q S H->c.wp P (QQ P w0 n old Q) a w
 |0,c,Q,g,S,H,a,w,ho,R,h=>by
  obtain⟨cs,hH,h⟩:=h;obtain⟨g',h1,R'⟩:=R.freeze hH (by rw[ho];exact hf);exact lk hG db hm c _ g' _ _ a w (λd _=>bC d) (h1.trans ho) R' h
 |k+1,c,Q,g,S,H,a,w,ho,R,h=>by
  cases ja:cE P n c<;>rw[ja]at h<;>try (exact h.elim)
  rename_i xa ya;obtain⟨x,y,rfl,rfl,rfl⟩:=I4 ja;refine wp_seq (wp_mono (lk hG db hm x _ g S H a w (λd _=>bC d) ho R h) ?_);intro e a' w' he
  cases e with
  |normal=>
   obtain⟨g',S',H',e1,R',h'⟩:=he;exact Fb hG db hm hf bC k y Q g' S' H' a' w' e1 R' h'
  |_=>exact he
def AC.L2 (hG:av GI) (hm:P.follows .mixedOrders=true) {f:Nat} {fn:Func} {c:Code} {args:List AV} {out:jn} (i k:Nat) (hf:P.funcs[f]? = some fn) (hb:fn.body=some c) (hn:fn.ntmps=n) (hl:args.length≤n) {ac:ae} (hc:cE P n c=ac)
  (h:xx P GI i k ac (post P n fn.results.toList out) (start args) (λ_=>none)):AC P GI f args out:=by
 intro w old a_ lg hlen hr;refine calls_of_wp hf hb ?_;subst hc;have R:Rel P w n bp _ (start args) (λ_=>none) { tmps:=a_++Array.replicate (fn.ntmps-a_.size) undef,defers:=[] } w:=Rel.begin hn hl hlen hr;refine wp_mono (Fb hG lg hm (old:=Old.plain old w) rfl (λ_ h=>h) k c _ _ _ _ _ w rfl R h) ?_;intro e a' w' he
 have fin:(∃ g' S H,g'.old=Old.plain old w∧Rel P w n bp g' S H a' w'∧∃ v,cU P n fn.results.toList S H=some v∧out = .ret v) →
   a'.defers=[]/\∃v,(results fn a'.tmps).run P w'=.ok v w'/\Ends P old w out (.returned v) w':=by
  rintro⟨g',S,H,e1,R',v,hv,rfl⟩;obtain⟨c,r1,r2,r3⟩:=pj R' hv;refine⟨by rw[R'.defers,e1];rfl,c,r1,?_,g'.hi,λb hb=>(R'.fresh b hb).1,c,rfl,?_,?_⟩
  .have:=R'.below;rwa [R'.base]at this
  .have:g'.Pr=lL w.heap.size old g'.hi:=by
    funext b k
    simp only[Gh.Pr,lL,R'.base,e1,Old.plain]
   rw[this]at r2;exact .data _ _ r2
  .rwa [R'.base]at r3
 cases e with
 |normal=>exact fin he
 |ret=>exact fin he
 |exit id=>obtain⟨_,_,_,_,_,h⟩:=he;exact h.elim
 |panic chain=>
  obtain⟨hd,v,c,hi,S,H,h1,h2,h3,h4,h5⟩:=he;subst h1;cases(show out=.panic v from h5);exact⟨hd,h2,hi,h3,c,rfl,h4⟩
 |goto l=>exact he.elim
 |outgrown=>exact he.elim
def LZ{i k:Nat}{x y:ae}{Q:dU->af->ah->Prop}{S:af}{H:ah}(K:af->ah->Prop)(hx:bq P GI x (λe S H=>e=.normal/\K S H) S H)(pG:∀{Q Q':dU->af->ah->Prop},(∀e S H,Q e S H->Q' e S H)->bq P GI x Q S H->bq P GI x Q' S H)(hy:∀S' H',K S' H'->xx P GI i k y Q S' H'):xx P GI i (k+1) (.seq x y) Q S H:=
 pG (λe S' H' h=>by obtain⟨rfl,h⟩:=h;exact hy S' H' h) hx
def G9{i:Nat}{ac:ae}{Q:dU->af->ah->Prop}{S:af}{H:ah}(cs:List AV)(K:af->ah->Prop)(hH:H i=some cs)(hK:K (λt=>lO i cs (S t)) (au H i none))(hc:∀S' H',K S' H'->bq P GI ac Q S' H'):xx P GI i 0 ac Q S H:=⟨cs,hH,hc _ _ hK⟩
end
section
variable{P:Program}{GI:World->Prop}{w0:World}{n:Nat}{g:Gh}{S:af}{H:ah}{a:Act}{w:World}
def Rel.D6 (R:Rel P w0 n bp g S H a w) {w':World} (hb:Below w.heap.size w w') {b:Nat} (hle:w.heap.size≤b) {o:Obj} (ho:w'.heap[b]? = some o) :
  Rel P w0 n bp { g with old:={ g.old with keep:=au g.old.keep b (some o) } } S H a w':=by
 have R':=Rel.oA R hb
 have f_:g.base<=w.heap.size:=by rw[R.base];exact R.below.size
 refine{ size:=R'.size,defers:=R'.defers,facts:=R'.facts,slot:=R'.slot,own:=λt ht hu=>(R'.own t ht hu).keep rfl λb hb=>⟨rfl,rfl,hb⟩,box:=?_,jt:=R'.jt,jq:=R'.jq,inj:=R'.inj,base:=R'.base,below:=R'.below,fresh:=R'.fresh,still:=R'.still,grown:=R'.grown,kept:=?_ }
 .intro i c hi;obtain⟨cs,vs,ty,h1,h2,h3,h4,h5,h6,h7,h8,h9⟩:=R'.box i c hi;exact⟨cs,vs,ty,h1,h2,h3,h4,h5,h6,h7,λj hj dJ=>(h8 j hj dJ).keep rfl λb hb=>⟨rfl,rfl,hb⟩,h9⟩
 .intro c ob h
  by_cases fV:c=b
  .subst fV
   have:ob=o:=by simpa[au]using h.symm
   subst this;refine⟨Nat.le_trans f_ hle,ho,(R.fresh _ hle).1,(R.fresh _ hle).2,λi hi=>?_⟩;obtain⟨_,_,_,_,_,h3,_⟩:=R.box i _ hi;have:=(Array.getElem?_eq_some_iff.1 h3).1;omega
  .have h:g.old.keep c=some ob:=by simpa[au,fV]using h
   exact R'.kept c ob h
def RD.flat{Pr:Nat->Nat->Prop}{v:AV}{c:Value}(h:RD Pr w v c):Go.AL.flat v=true/\∀d,aZ d v=v:=by
 have:=h.bu
 cases v<;>first|exact⟨rfl,λ_=>rfl⟩|cases this
def Rel.hand (R:Rel P w0 n bp g S H a w) {b:Nat} {o:Obj} (hk:g.old.keep b=some o) (m:Nat) :
  ∃g',g'.old={ g.old with keep:=au g.old.keep b none }/\g'.base=g.base/\Rel P w0 n bp g' S H a w/\(∀c k,g.Pr c k->g'.Pr c k)/\∀k,k<m->g'.Pr b k:=by
 obtain⟨k1,k2,k3,k4,k5⟩:=R.kept b o hk
 have R1:Rel P w0 n bp { g with old:={ g.old with keep:=au g.old.keep b none } } S H a w:=by
  refine{ size:=R.size,defers:=R.defers,facts:=R.facts,slot:=R.slot,own:=λt ht hu=>(R.own t ht hu).keep rfl λb hb=>⟨rfl,rfl,hb⟩,box:=?_,jt:=R.jt,jq:=R.jq,inj:=R.inj,base:=R.base,below:=R.below,fresh:=R.fresh,still:=R.still,grown:=R.grown,kept:=?_ }
  .intro i c hi;obtain⟨cs,vs,ty,h1,h2,h3,h4,h5,h6,h7,h8,h9⟩:=R.box i c hi;exact⟨cs,vs,ty,h1,h2,h3,h4,h5,h6,h7,λj hj dJ=>(h8 j hj dJ).keep rfl λb hb=>⟨rfl,rfl,hb⟩,h9⟩
  .intro c ob h
   have hc:c≠b:=by rintro rfl;simp[au]at h
   exact R.kept c ob (by simpa[au,hc]using h)
 have ao:=(Array.getElem?_eq_some_iff.1 k2).1;have R2:=R1.kF (G:=λc=>c=b) (λ_=>m) (λc hc=>by subst hc;exact⟨⟨k1,k3,k4,k5⟩,ao,aN _ _ _⟩);refine⟨Gh.kF { g with old:={ g.old with keep:=au g.old.keep b none } } (λc=>c=b) (λ_=>m),rfl,rfl,R2,λc k hp=>?_,λk hkm=>.inr ⟨k1,?_⟩⟩
 .rcases hp with hp|hp
  .exact .inl hp
  .refine .inr ⟨hp.1,?_⟩;simp only[Gh.kF]
   by_cases hc:c=b
   .subst hc;rw[k3]at hp;omega
   .rw[if_neg hc];exact hp.2
 .simp only[Gh.kF];rw[if_pos trivial];exact hkm
end
section
variable{P:Program}{GI:World->Prop}{md:Region.Mode}{ops:Array Oper}{n:Nat}
def CZ(P:Program)(GI:World->Prop)(o:bc)(S:af)(H:ah)(v:AV):Prop:=
 an S o.guard=some true/\match o.op with
 |.call f args=>(args.any λy=>bR (ev S y))=false/\dW P f=true/\AC P GI f (args.map λy=>fz H (ev S y)) (.panic v)
 |_=>False
def Fe{x y:bc}{S:af}{H:ah}{ex:aB}{v:AV}(ha:x.apart y=true)(hx:d_ P GI x S H ex)(hy:CZ P GI y (ex.S S x.dst) (ex.H H) v):CZ P GI y S H v:=by
 obtain⟨h1,h2,h3⟩:=apart_spec ha;obtain⟨d1,d2⟩:=eR hx
 have hS:∀t∈y.reads,ex.S S x.dst t=S t:=λt ht=>aB.si (λh=>(h1 t (eS (.inl h))).1 ht) (λh=>(h1 t (eS (.inr (d1 t h)))).1 ht)
 unfold CZ at hy⊢;obtain⟨hw,hy⟩:=hy;refine⟨by rw[<-hw];exact(ru λt b yc=>hS t (by simp[bc.reads,yc])).symm,?_⟩;generalize dB:y.op=op at hy
 cases op<;>try (exact hy.elim)
 rename_i f args;simp only at hy⊢
 have Wn:∀z∈args,∀t∈z.tmps,ex.S S x.dst t=S t:=λz hz t ht=>hS t (by
  simp only[bc.reads,dB,eb.rd,List.mem_append,List.mem_flatMap]
  exact .inl ⟨z,hz,ht⟩)
 have e1:(args.any λy=>bR (ev (ex.S S x.dst) y))=(args.any λy=>bR (ev S y)):=by
  rw[Bool.eq_iff_iff];simp only[List.any_eq_true]
  constructor
  .rintro⟨y,hy,hb⟩;exact⟨y,hy,by rw[<-bg (Wn y hy)];exact hb⟩
  .rintro⟨y,hy,hb⟩;exact⟨y,hy,by rw[bg (Wn y hy)];exact hb⟩
 obtain⟨hb,hc,ja⟩:=hy
 have e2:(args.map λy=>fz (ex.H H) (ev (ex.S S x.dst) y))=(args.map λy=>fz H (ev S y)):=List.map_congr_left λy hy=>by
  simp only[List.any_eq_false,Bool.not_eq_true]at hb;rw[wJ (hb y hy) (H':=H),bg (Wn y hy)]
 rw[e1]at hb;rw[e2]at ja;exact⟨hb,hc,ja⟩
def B3(P:Program)(GI:World->Prop)(n:Nat)(ops:Array Oper)(i:Nat)(K:af->ah->Prop)(Qp:AV->Prop)(S:af)(H:ah):Prop:=
 match iD P n ops i with
 |none=>False
 |some o=>(∃e,d_ P GI o S H e/\K (e.S S o.dst) (e.H H))\/∃v,CZ P GI o S H v/\Qp v
def BY(P:Program)(GI:World->Prop)(n:Nat)(md:Region.Mode)(ops:Array Oper)(QA:af->ah->Prop)(Qp:AV->Prop):Nat->Array Bool->af->ah->Prop
 |0,listed,S,H=>Region.ready md ops listed=[]/\QA S H
 |fuel+1,listed,S,H=>(Region.ready md ops listed=[]->QA S H)/\∀i∈Region.ready md ops listed,B3 P GI n ops i (BY P GI n md ops QA Qp fuel (listed.setIfInBounds i true)) Qp S H
def E8 {QA:af→ah→Prop} {Qp:AV→Prop} {i:Nat} {oi:bc} {e:aB} (hi:iD P n ops i=some oi) :
  ∀(fuel:Nat)(listed:Array Bool)(S:af)(H:ah),
   (∀j o aj,ops[j]?=some o->iD P n ops j=some aj->j≠i->listed.getD j true=false->(∀ed∈o.after,Region.binds md ed=true->ed.on≠i)->oi.apart aj=true)->
   i∈Region.ready md ops listed->d_ P GI oi S H e->
   BY P GI n md ops QA Qp fuel (listed.setIfInBounds i true) (e.S S oi.dst) (e.H H)->BY P GI n md ops QA Qp (fuel+1) listed S H:=by
 intro fuel
 induction fuel with
 |zero=>
  intro listed S H _ hr hy hK;refine⟨λh=>(by rw[h]at hr;cases hr),λj hj=>?_⟩
  by_cases eL:j=i
  .subst eL;unfold B3;rw[hi];exact .inl ⟨e,hy,hK⟩
  .have:=ready_mono hj eL;rw[hK.1]at this;cases this
 |succ fuel ih=>
  intro listed S H oQ hr hy hK;refine⟨λh=>(by rw[h]at hr;cases hr),λj hj=>?_⟩
  by_cases eL:j=i
  .subst eL;unfold B3;rw[hi];exact .inl ⟨e,hy,hK⟩
  .have h1:=hK.2 j (ready_mono hj eL);obtain⟨u9,o,ho,eP⟩:=mem_ready.1 hj
   have pK:iD P n ops j=some (aW P n true ops o):=by simp[iD,ho]
   have Ah:∀ed∈o.after,Region.binds md ed=true->ed.on≠i:=λed Me hb heq=>by
    have h1:=eP ed Me hb;have h0:=(mem_ready.1 hr).1;rw[heq]at h1;rcases Nat.lt_or_ge i listed.size with h'|h'
    .simp[h']at h0 h1;rw[h0]at h1;cases h1
    .simp[Array.getElem?_eq_none h']at h1
   have nv:=oQ j o _ ho pK eL u9 Ah;unfold B3 at h1⊢;rw[pK]at h1⊢
   rcases h1 with h1|⟨v,hg,hq⟩
   case inr=>exact .inr ⟨v,Fe nv hy hg,hq⟩
   obtain⟨ej,AR,L3⟩:=h1;have rA:=qe nv hy AR;refine .inl ⟨ej,rA,?_⟩
   have sM:∀k o' ak,ops[k]?=some o'->iD P n ops k=some ak->k≠i->(listed.setIfInBounds j true).getD k true=false->(∀ed∈o'.after,Region.binds md ed=true->ed.on≠i)->oi.apart ak=true:=by
    intro k o' ak hk HY x_ fN dp;refine oQ k o' ak hk HY x_ ?_ dp
    by_cases xQ:j=k
    .subst xQ;exact u9
    .rw[getD_set_ne true xQ]at fN;exact fN
   refine ih (listed.setIfInBounds j true) _ _ sM (ready_mono hr (Ne.symm eL)) (qc nv rA hy) ?_;rw[Array.setIfInBounds_comm _ _ eL];rw[<-tE nv (eR hy).1 (eR AR).1,<-t_ nv (eR hy).2 (eR rA).2];exact L3
def Am(md:Region.Mode)(ops:Array Oper)(al:List bc)(ps:List Nat):List Nat->Array Bool->Bool
 |[],listed=>(Region.ready md ops listed).isEmpty
 |k::ord,listed=>(Region.ready md ops listed).contains k&&Cm md ops al listed k&&(!ps.contains k||Region.ready md ops listed==[k])&&Am md ops al ps ord (listed.setIfInBounds k true)
def CI(P:Program)(GI:World->Prop)(op:eb)(dst:Option Nat)(K:af->ah->Prop)(Qp:AV->Prop)(S:af)(H:ah):Prop:=
 match op with
 |.call f args=>(args.any λy=>bR (ev S y))=false/\aI P GI (.call f args) dst K Qp S H
 |_=>False
def qp(P:Program)(GI:World->Prop)(al:List bc)(ps:List Nat):List Nat->(af->ah->Prop)->(AV->Prop)->af->ah->Prop
 |[],K,_,S,H=>K S H
 |k::ord,K,Qp,S,H=>match al[k]? with
  |none=>False
  |some o=>match an S o.guard with
   |some true=>if ps.contains k then CI P GI o.op o.dst (qp P GI al ps ord K Qp) Qp S H else gV P GI o.op o.dst (qp P GI al ps ord K Qp) S H
   |some false=>qp P GI al ps ord K Qp (aH S o.dst bI) H
   |none=>False
def B2 {QA:af→ah→Prop} {Qp:AV→Prop} {ps:List Nat}:∀ (ord:List Nat) (listed:Array Bool) (S:af) (H:ah),
  Am md ops (aO P n true ops) ps ord listed=true->qp P GI (aO P n true ops) ps ord QA Qp S H->BY P GI n md ops QA Qp ord.length listed S H
 |[],_,_,_,hB,h=>⟨by simpa[Am]using hB,h⟩
 |k::ord,listed,S,H,hB,h=>by
  simp only[Am,Bool.and_eq_true]at hB;obtain⟨⟨⟨hr,hf⟩,hp⟩,NZ⟩:=hB;simp only[qp]at h;split at h
  case h_1=>exact h.elim
  rename_i o ho
  have ha:iD P n ops k=some o:=by rw[<-e_];exact ho
  have nB:k∈Region.ready md ops listed:=by simpa using hr
  have step:∀e,d_ P GI o S H e->qp P GI (aO P n true ops) ps ord QA Qp (e.S S o.dst) (e.H H)->BY P GI n md ops QA Qp (k::ord).length listed S H:=λe hy hK=>
   E8 ha ord.length listed S H (xz ha hf) nB hy (B2 ord _ _ _ NZ hK)
  split at h
  .rename_i hw;split at h
   .rename_i gE;simp only[gE,Bool.not_true,Bool.false_or,beq_iff_eq]at hp;unfold CI at h;split at h
    case h_2=>exact h.elim
    rename_i f args dB;obtain⟨hb,out,h1,h2,h3,h4⟩:=h
    cases out with
    |ret v=>
     refine step { v:=v } ?_ h4;unfold d_;rw[hw];simp only[dB];exact⟨hb,.ret v,h1,h2,h3,rfl⟩
    |panic v=>
     refine⟨λhn=>(by rw[hn]at nB;cases nB),λj hj=>?_⟩;rw[hp,List.mem_singleton]at hj;subst hj;unfold B3;rw[ha];refine .inr ⟨v,⟨hw,?_⟩,h4⟩;rw[dB];exact⟨hb,h1,h2⟩
   .obtain⟨e,he,hK⟩:=rG h;exact step e (by unfold d_;rw[hw];exact he) hK
  .rename_i hw;exact step { v:=bI } (by unfold d_;rw[hw]) h
  .exact h.elim
variable{w0:World}{g:Gh}{S:af}{H:ah}{a:Act}{w:World}
def O' (hG:av GI) (db:GI w0) {old:Old} {Q:dU→af→ah→Prop} {S0:af} {H0:ah} (hA:∀ o∈ops,∀ t z,(aW P n true ops o).op ≠ .alloc t z) (bo:∀ o∈ops,(aW P n true ops o).ok n=true) :
  ∀(fuel:Nat)(listed:Array Bool)(g:Gh)(S:af)(H:ah)(a:Act)(w:World),g.old=old->Rel P w0 n bp g S H a w->
   BY P GI n .any ops (Q .normal) (λv=>Q (.panic v) S0 H0) fuel listed S H->wpAny P .any ops (QQ P w0 n old Q) fuel listed a w:=by
 intro fuel
 induction fuel with
 |zero=>
  intro listed g S H a w ho R h;exact⟨h.1,g,S,H,ho,R,h.2⟩
 |succ fuel ih=>
  intro listed g S H a w ho R h;refine⟨λhr=>⟨g,S,H,ho,R,h.1 hr⟩,λi hi=>?_⟩;have hd:=h.2 i hi;obtain⟨o,vO,wb⟩:=ta (P:=P) (n:=n) hi;unfold B3 at hd;rw[wb]at hd;have rL:=Array.mem_of_getElem? vO;have qS:=bo o rL;have X3:=hA o rL
  have oS:∀t,o.dst=some t->t<n/\t∉(aW P n true ops o).op.rd:=by
   intro t ht;simp only[bc.ok,Bool.and_eq_true]at qS;have h1:=qS.1;rw[show(aW P n true ops o).dst=o.dst from rfl,ht]at h1;simpa using h1
  unfold wpOp;simp only[vO]
  rcases hd with⟨e,hy,hK⟩|⟨v,⟨sg,hv⟩,hq⟩
  case inr=>
   rw[p8 R (λ_ _ _=>id) qS sg];simp only[if_true];refine .inl ?_;generalize dB:(aW P n true ops o).op=op at hv;have rn:comp P n (match o.dst with|some d=>taken ops d|none=>false) (JY ops o) o=op:=dB
   cases op<;>try (exact hv.elim)
   rename_i f args;obtain⟨hb,h1,h2⟩:=hv;refine qf R hG db rn (λt ht=>⟨(oS t ht).1,id⟩) (λ_ _=>id) (KA:=λ_=>False) (Qp:=λv'=>v'=v) ⟨.panic v,h1,h2,⟨λh=>absurd (hb.symm.trans h) (by decide),rfl⟩⟩ (λ_ _ _ _ _ _ _ hf=>hf.elim) ?_;intro v' c cy w' k1 k2 k3 k4;subst k4;exact⟨by rw[<-ho];exact R.defers,v',c,cy,S0,H0,rfl,k1,k2,by rw[<-ho];exact k3,hq⟩
  unfold d_ at hy
  cases sg:an S (aW P n true ops o).guard with
  |none=>rw[sg]at hy;exact hy.elim
  |some b=>
   rw[p8 R (λ_ _ _=>id) qS sg];rw[sg]at hy
   cases b with
   |false=>
    simp only at hy;subst hy;simp only[Bool.false_eq_true,if_false];exact ih _ g _ _ _ _ ho (R.aH o.dst _ _ (λt ht=>(oS t ht).1) (.data _ _ (rR _ _)) λ_ _=>trivial) hK
   |true=>
    simp only at hy;simp only[if_true];refine .inl ?_
    have next:∀(g':Gh)(a':Act)(w':World),g'.old=g.old->Rel P w0 n bp g' (e.S S o.dst) (e.H H) a' w'->wpAny P .any ops (QQ P w0 n old Q) fuel (listed.setIfInBounds i true) a' w':=
     λg' a' w' h2 R'=>ih _ g' _ _ _ _ (h2.trans ho) R' hK
    by_cases bf:(aW P n true ops o).op.calm=true
    .exact(tG R rfl bf (λt ht=>⟨(oS t ht).1,id⟩) (λ_ _=>id) (λt ht=>(oS t ht).2) (yI bf hy)).wp λg' a' w' e1 e2 R'=>next g' a' w' e2 R'
    .generalize dB:(aW P n true ops o).op=op at bf hy;have rn:comp P n (match o.dst with|some d=>taken ops d|none=>false) (JY ops o) o=op:=dB
     cases op<;>try (exact absurd rfl bf)
     case alloc t cs=>exact absurd dB (X3 t cs)
     case call f args=>
      exact qf R hG db rn (λt ht=>⟨(oS t ht).1,id⟩) (λ_ _=>id) hy.2 (λv g' a' w' e1 e2 R' hk=>by subst hk;exact next g' a' w' e2 R') (λ_ _ _ _ _ _ _ hf=>hf.elim)
     case gI f args=>
      simp only[jW]at hy;split at hy
      case h_2=>exact hy.elim
      rename_i k first cap vn;exact sa R hG db rn (λt ht=>⟨(oS t ht).1,id⟩) (λ_ _=>id) vn hy.2 (λv g' a' w' e1 e2 R' hk=>by subst hk;exact next g' a' w' e2 R') (λ_ _ _ _ _ _ _ hf=>hf.elim)
     case box=>exact hy.elim
     case panic=>exact hy.elim
     case other=>exact hy.elim
def Gr(l:List bc):Bool:=l.all λo=>match o.op with|.alloc ..=>false|_=>true
def NA(P:Program)(n:Nat)(ops:Array Oper)(ps ord:List Nat):Bool:=
 (aO P n true ops).all (·.ok n)&&Gr (aO P n true ops)&&decide (ord.length=ops.size)&&Am .any ops (aO P n true ops) ps ord (Array.replicate ops.size false)
def SW.XA (hG:av GI) (hm:P.follows .mixedOrders=true) {ro:Option Nat} {old:Old} {Q:gy} {id:Nat} {ps ord:List Nat} (cT:ops.all (fun o=>cG o.op)=true) (bo:NA P n ops ps ord=true)
  {l:List bc} (hl:aO P n true ops=l) (h:qp P GI l ps ord (Q .normal old) (λv=>Q (.panic v) old S H) S H):SW P GI n ro (.region id ops true) Q old S H:=by
 subst hl;intro w0 g a w m db ho R;simp only[NA,Bool.and_eq_true,decide_eq_true_eq]at bo;obtain⟨⟨⟨h1,h2⟩,h3⟩,h4⟩:=bo;have R0:Rel P w0 n bp g S H a { w with drawn:=w.drawn+1 }:=R.oA ((Below.refl _ w).drew)
 refine wpIn_mono (wpIn_region_any hm (sD cT ki _ _ _ _ (O' hG db (old:=old) (Q:=Q.bq old) (S0:=S) (H0:=H) (λo ic t z hz=>?_) (λo ic=>?_) ops.size (Array.replicate ops.size false) g S H a _ ho R0 ?_))) λ_ _ _ hq=>vU hq
 .have:=List.all_eq_true.1 h2 (aW P n true ops o) (List.mem_map_of_mem (by simpa using ic));rw[hz]at this;cases this
 .simp only[aO,List.all_map,List.all_eq_true,Function.comp]at h1;exact h1 o (by simpa using ic)
 .rw[<-h3];exact B2 ord _ S H (by rw[h3];exact h4) h
def mI(P:Program)(GI:World->Prop):List (Bool×bc)->(af->ah->Prop)->(AV->Prop)->af->ah->Prop
 |[],K,_,S,H=>K S H
 |(b,o)::L,K,Qp,S,H=>match an S o.guard with
  |some true=>if b then CI P GI o.op o.dst (mI P GI L K Qp) Qp S H else gV P GI o.op o.dst (mI P GI L K Qp) S H
  |some false=>mI P GI L K Qp (aH S o.dst bI) H
  |none=>False
def B1{al:List bc}{ps:List Nat}{K:af->ah->Prop}{Qp:AV->Prop}:∀(ord:List Nat)(L:List (Bool×bc)),(ord.map λk=>(ps.contains k,al[k]?))=(L.map λx=>(x.1,some x.2))->qp P GI al ps ord K Qp=mI P GI L K Qp
 |[],[],_=>rfl
 |[],_::_,h=>by simp at h
 |_::_,[],h=>by simp at h
 |k::ord,(b,o)::L,h=>by
  simp only[List.map_cons,List.cons.injEq,Prod.mk.injEq]at h;obtain⟨⟨h1,h2⟩,h3⟩:=h
  funext S H
  simp only[qp,mI,h1,h2,B1 ord L h3]
def qd{op:eb}{dst:Option Nat}{K K':af->ah->Prop}(hK:∀S H,K S H->K' S H){S:af}{H:ah}(h:gV P GI op dst K S H):gV P GI op dst K' S H:=by
 cases op<;>simp only[gV,aI]at h⊢<;>(try exact h)
 case alloc=>cases dst<;>first|exact h|exact hK _ _ h
 case call f args=>
  obtain⟨hb,out,h1,h2,h3,h4⟩:=h;refine⟨hb,out,h1,h2,h3,?_⟩
  cases out with
  |ret v=>exact hK _ _ h4
  |panic v=>exact h4
 case gI f args=>
  refine⟨h.1,?_⟩;have h:=h.2;split at h
  .obtain⟨out,h1,h2,h3,h4⟩:=h;refine⟨out,h1,h2,h3,?_⟩
   cases out with
   |ret v=>exact hK _ _ h4
   |panic v=>exact h4
  .exact h.elim
 all_goals
  split at h
  .exact hK _ _ h
  .exact h.elim
def p9{K:af->ah->Prop}{Qp:AV->Prop}{L:List (Bool×bc)}:∀(l:List bc){S:af}{H:ah},cM P GI l (mI P GI L K Qp) S H->mI P GI (l.map (λo=>(false,o))++L) K Qp S H
 |[],_,_,h=>h
 |o::l,S,H,h=>by
  simp only[List.map_cons,List.cons_append,mI,cM]at h⊢
  cases hw:an S o.guard with
  |none=>rw[hw]at h;exact h.elim
  |some b=>
   rw[hw]at h
   cases b with
   |true=>exact qd (λS H h=>p9 l h) h
   |false=>exact p9 l h
def EV {K:af→ah→Prop} {Qp:AV→Prop} {L:List (Bool×bc)} {d:Option Nat} {f:Nat} {args:List bZ} {S:af} {H:ah} (hb:(args.any fun y=>bR (ev S y))=false) (hc:dW P f=true) {out:jn} (h:AC P GI f (args.map fun y=>fz H (ev S y)) out)
  (hk:match(generalizing:=false) out with|.ret v=>mI P GI L K Qp (aH S d v) H|.panic v=>Qp v):mI P GI ((true,⟨d,none,.call f args⟩)::L) K Qp S H:=by
 simp only[mI,an,if_true,CI];refine⟨hb,out,hc,h,λh=>absurd (hb.symm.trans h) (by decide),?_⟩
 cases out<;>exact hk
def IJ{K:af->ah->Prop}{Qp:AV->Prop}(l:List bc){S:af}{H:ah}(h:cM P GI l K S H):mI P GI (l.map (λo=>(false,o))) K Qp S H:=by
 have:=p9 (P:=P) (GI:=GI) (K:=K) (Qp:=Qp) (L:=[]) l h;rwa [List.append_nil]at this
def SW.Uf (hG:av GI) (hm:P.follows .mixedOrders=true) {ro:Option Nat} {old:Old} {Q:gy} {id:Nat} (ps ord:List Nat) (cT:ops.all (fun o=>cG o.op)=true) (bo:NA P n ops ps ord=true)
  {l:List bc} (hl:aO P n true ops=l) (L:List (Bool×bc)) (hL:(ord.map λk=>(ps.contains k,l[k]?))=(L.map λx=>(x.1,some x.2))) (h:mI P GI L (Q .normal old) (λv=>Q (.panic v) old S H) S H):SW P GI n ro (.region id ops true) Q old S H:=
 SW.XA hG hm cT bo hl (by rw[B1 ord L hL];exact h)
end
section
variable{P:Program}{GI:World->Prop}{n:Nat}{a:Act}{w:World}{S:af}{H:ah}
def qK {o:Oper} {s el:TypeId} {i:TypeInfo} {x1 x2:Operand} {b m cap k:Nat} (ho:o.op = .indexAddr s x1 x2) (hs:P.underlying s=some (.slice el)) (hi:P.info? el=some i)
  (h1:a.eval x1=.slice (some ⟨b,0,none⟩) m cap) (h2:a.eval x2=.int .i64 k) (hk:k<m):(execOp a.eval o).run P w=.ok (.value (.pointer (some ⟨b,k*i.size,none⟩))) w:=by
 have HK:(0:Int)<=k:=by omega
 have oU:(k:Int)<m:=by omega
 simp[execOp,ho,h1,h2,Instr.indexAt,asIntOf,run_underlying hs,HK,oU,sizeOf,typeInfo,hi,Addr.add_lit,hk]
def xY {o:Oper} {s:TypeId} {fs:Array Field} {f:Field} {i:TypeInfo} {j:Nat} {x:Operand} {b off:Nat} (ho:o.op = .fieldAddr s x j) (hs:P.underlying s=some (.struct fs)) (hf:fs[j]? = some f) (hi:P.info? f.type=some i) (hz:i.size≠0)
  (hx:a.eval x=.pointer (some ⟨b,off,none⟩)):(execOp a.eval o).run P w=.ok (.value (.pointer (some ⟨b,off+f.offset,none⟩))) w:=by
 simp[execOp,ho,hx,Instr.fieldAt,run_underlying hs,hf,Instr.sureAddr,fieldPlace,sizeOf,typeInfo,hi,hz,Addr.add_lit]
def mn(w:World){b:Nat}{cs cs':Array Value}{ty:TypeId}(h:w.heap[b]?=some (.cells cs ty (0,0))):w.setRow b cs'=w.putObj b (.cells cs' ty (0,0)):=by
 unfold World.setRow World.putObj
 congr 1
 apply Array.ext_getElem?;intro k;rw[Array.getElem?_modify,Array.getElem?_setIfInBounds];have ao:=(Array.getElem?_eq_some_iff.1 h).1
 by_cases hk:b=k
 .subst hk;have e:=(Array.getElem?_eq_some_iff.1 h).2;simp[ao,e]
 .simp[hk]
def GV {o:Oper} {t:TypeId} {x y:Operand} {b off:Nat} {v:Value} {ty:TypeId} {i:TypeInfo} {arr:Array Value} (ho:o.op = .store t x y) (hx:a.eval x = .pointer (some ⟨b,off,none⟩)) (hi:P.info? t=some i) (hs:i.size=1) (hb:w.heap[b]? = some (.cells arr ty (0,0)))
  (EX:off<arr.size) (hv:(a.eval y)=v) (h1:v.oneCell'=true):∃EU:Array Value,(execOp a.eval o).run P w=.ok .skip (w.putObj b (.cells EU ty (0,0)))/\EU.size=arr.size/\∀k,EU.getD k undef=if k=off then v else arr.getD k undef:=by
 have jB:v.cells=#[v]:=by cases v<;>first|rfl|cases h1
 have eO:=run_storeCells_at P b off ty [v] 0 arr w hb (by simp;omega) (λx hx=>by simp at hx;subst hx;exact h1)
 have he:(arr.toList.take off++[v]++arr.toList.drop (off+1)).toArray=arr.setIfInBounds off v:=by
  apply Array.toList_inj.1;rw[Array.toList_setIfInBounds,List.set_eq_take_append_cons_drop,if_pos (by simpa using EX)];simp
 refine⟨arr.setIfInBounds off v,?_,by simp,λk=>?_⟩
 .rw[<-mn w hb,<-he];unfold execOp;simp only[ho,hx,hv,Instr.storeAt,Instr.sureAddr,storeVar,sizeOf,typeInfo,Sem.run_bind,Sem.run_pure,Result.andThen_ok,run_program,hi,hs,jB,ne_eq,not_true_eq_false,if_false];have aL:(#[v]:Array Value).size=1:=rfl;simp only[aL,not_true_eq_false,if_false];rw[show storeCells ⟨b,off,none⟩ (#[v]:Array Value).toList=storeCells ⟨b,off,none⟩ [v] 0 from rfl];simp only[Nat.add_zero,List.length_singleton]at eO;rw[eO]
  rfl
 .simp only[Array.getD_eq_getD_getElem?,Array.getElem?_setIfInBounds]
  by_cases hk:off=k
  .subst hk;simp[EX]
  .rw[if_neg hk,if_neg (Ne.symm hk)]
end
def pX{κ:Type}(enc:κ->Value)(es:Array MapEntry)(l:List (κ×Value)):Prop:=es.size=l.length/\∀i (h:i<es.size)(h':i<l.length),(es[i]).key=enc l[i].1/\(es[i]).val=l[i].2
def j3{κ:Type}[BEq κ](k:κ):List (κ×Value)->Nat->Option (Nat×Value)
 |[],_=>none
 |(k',v)::l,i=>if(k==k')=true then some (i,v)else j3 k l (i+1)
def pX.push{κ:Type}{enc:κ->Value}{es:Array MapEntry}{l:List (κ×Value)}(h:pX enc es l)(k:κ)(v:Value)(born:Nat):pX enc (es.push { key:=enc k,val:=v,born:=born }) (l++[(k,v)]):=by
 refine⟨by simp[h.1],λi hi cy=>?_⟩;rw[Array.getElem_push,List.getElem_append];have hs:=h.1
 by_cases ao:i<es.size
 .rw[dif_pos ao,dif_pos (by omega)];exact h.2 i ao (by omega)
 .rw[dif_neg ao,dif_neg (by omega)];simp
def pX.list{κ:Type}{enc:κ->Value}{es:Array MapEntry}{l:List (κ×Value)}(h:pX enc es l):∀i (h:i<es.toList.length)(h':i<l.length),(es.toList[i]).key=enc l[i].1/\(es.toList[i]).val=l[i].2:=λi hi cy=>by
 have:=h.2 i (by simpa using hi) cy;simpa using this
section
variable{P:Program}{a:Act}{w:World}
def mF {kt:TypeId} {fs:Array Field} {k:Nat} (hu:P.underlying kt=some (.struct fs)) (hk:iX P 10000 kt=some k) (key:List Int) (hl:key.length=k):∀ (es:List MapEntry) (l:List (List Int×Value)) (i:Nat),es.length=l.length →
  (∀j (h:j<es.length)(h':j<l.length),(es[j]).key=.agg (dC l[j].1)/\(es[j]).val=l[j].2)->(∀x∈l,x.1.length=k)->(Instr.findAsking kt (.agg (dC key)) es i).run P w=.ok (j3 key l i) w
 |[],[],_,_,_,_=>by simp[Instr.findAsking,j3]
 |[],_::_,_,h,_,_=>by simp at h
 |_::_,[],_,h,_,_=>by simp at h
 |e::es,(k',v)::l,i,hle,h,hx=>by
  obtain⟨h1,h2⟩:=h 0 (by simp) (by simp);simp only[List.getElem_cons_zero]at h1 h2;have hE:=o9 (P:=P) (w:=w) 10000 kt k hk key k' hl (hx (k',v) (by simp));simp only[encI,hu]at hE
  have D1:(Op.equal kt (.agg (dC key)) e.key).run P w=.ok (key==k') w:=by rw[h1];exact hE
  cases hb:(key==k')with
  |true=>
   rw[hb]at D1;simp[Instr.findAsking,D1,j3,hb,h2]
  |false=>
   rw[hb]at D1
   have:=mF hu hk key hl es l (i+1) (by simpa using hle) (λj hj dJ=>h (j+1) (Nat.succ_lt_succ hj) (Nat.succ_lt_succ dJ)) λx HA=>hx x (List.mem_cons_of_mem _ HA)
   simp[Instr.findAsking,D1,j3,hb,this]
def uU {o:Oper} {t kt el:TypeId} {fs:Array Field} {n:Nat} {x1 x2 x3:Operand} {b clock:Nat} {es:Array MapEntry} {key:List Int} {l:List (List Int×Value)} (ho:o.op = .mapUpdate t x1 x2 x3) (fN:P.underlying t=some (.map kt el)) (hu:P.underlying kt=some (.struct fs)) (hk:iX P 10000 kt=some n)
  (h1:a.eval x1=.map (some b)) (h2:a.eval x2=.agg (dC key)) (hl:key.length=n) (hb:w.heap[b]?=some (.map es clock)) (he:pX (λk=>.agg (dC k)) es l) (hx:∀x∈l,x.1.length=n) (dp:j3 key l 0=none):
  (execOp a.eval o).run P w=.ok .skip (w.putObj b (.map (es.push { key:=.agg (dC key),val:=a.eval x3,born:=clock }) (clock+1))):=by
 have oN:(match P.underlying kt with|some (.array _ _)|some (.struct _)=>true|_=>false)=true:=by rw[hu]
 have hf:=mF (w:=w) hu hk key hl es.toList l 0 (by simpa using he.1) he.list hx;rw[dp]at hf;have tV:=(run_findKey_eq (P:=P) (w:=w) oN (.agg (dC key)) es.toList).trans hf;have rM:=mX (P:=P) (w:=w) false 10000 kt n hk key hl;simp only[encI,hu]at rM;unfold execOp;simp only[ho,h1,h2,Instr.mapUpdate,Sem.run_bind,run_underlying fN,Result.andThen_ok,MapKept.run_getObj_map hb,rM,tV,MapKept.run_setObj_map _ hb]
 rfl
def uI {o:Oper} {t kt el:TypeId} {fs:Array Field} {n:Nat} {ie:TypeInfo} {z:Value} {x1 x2:Operand} {b clock:Nat} {es:Array MapEntry} {key:List Int} {l:List (List Int×Value)} (ho:o.op = .lookup t x1 x2 true) (fN:P.underlying t=some (.map kt el)) (hu:P.underlying kt=some (.struct fs)) (hk:iX P 10000 kt=some n) (hi:P.info? el=some ie) (hz:ie.zero=some z)
  (h1:a.eval x1=.map (some b)) (h2:a.eval x2=.agg (dC key)) (hl:key.length=n) (hb:w.heap[b]?=some (.map es clock)) (he:pX (λk=>.agg (dC k)) es l) (hx:∀x∈l,x.1.length=n):
  (execOp a.eval o).run P w=.ok (.value (match j3 key l 0 with|some (_,v)=>.tuple #[v,.bool true]|none=>.tuple #[z,.bool false])) w:=by
 have oN:(match P.underlying kt with|some (.array _ _)|some (.struct _)=>true|_=>false)=true:=by rw[hu]
 have hf:=mF (w:=w) hu hk key hl es.toList l 0 (by simpa using he.1) he.list hx;have tV:=(run_findKey_eq (P:=P) (w:=w) oN (.agg (dC key)) es.toList).trans hf;have rM:=mX (P:=P) (w:=w) es.isEmpty 10000 kt n hk key hl;simp only[encI,hu]at rM;unfold execOp;simp only[ho,h1,h2,Instr.lookup,Sem.run_bind,run_underlying fN,Result.andThen_ok,MapKept.run_getObj_map hb,Sem.run_pure,rM,tV]
 cases j3 key l 0 with
 |none=>simp[zeroValue,typeInfo,hi,hz]
 |some q=>simp
end
def BF(x y:bc):Bool:=match x.dst,x.guard,x.op,y.dst,y.guard,y.op with
 |some d,none,.loadT _ a,some d',none,.loadT _ a'=>d !=d'&&!a'.tmps.contains d&&!a.tmps.contains d'
 |_,_,_,_,_,_=>false
def nD(S:af)(x y:bc):Prop:=match x.op,y.op with
 |.loadT _ a,.loadT _ a'=>∃i o i' o',ev S a=.box i o/\ev S a'=.box i' o'/\(i≠i'\/o≠o')
 |_,_=>False
section
variable{P:Program}{GI:World->Prop}{md:Region.Mode}{ops:Array Oper}{n:Nat}
def K4 {x y:bc} {S:af} {H:ah} {ex ey:aB} (hs:BF x y=true) (hA:nD S x y) (hx:d_ P GI x S H ex) (hy:d_ P GI y (ex.S S x.dst) (ex.H H) ey) :
  ∃Dl mj,d_ P GI y S H Dl/\d_ P GI x (Dl.S S y.dst) (Dl.H H) mj/\mj.S (Dl.S S y.dst) x.dst=ey.S (ex.S S x.dst) y.dst/\mj.H (Dl.H H)=ey.H (ex.H H)/\Dl.dm=none:=by
 obtain⟨xd,xg,xo⟩:=x;obtain⟨yd,yg,yo⟩:=y;unfold BF at hs;split at hs
 case h_2=>cases hs
 rename_i d h a d' h' a' q1 q2 q3 q4 q5 q6;simp only at q1 q2 q3 q4 q5 q6;subst q1 q2 q3 q4 q5 q6;simp only[Bool.and_eq_true,bne_iff_ne,ne_eq,Bool.not_eq_true',List.contains_eq_mem,decide_eq_false_iff_not]at hs;obtain⟨⟨hd,Bl⟩,p6⟩:=hs;obtain⟨i,o,i',o',e1,e2,bt⟩:=hA;simp only[d_,an,jW,aq,e1]at hx;split at hx
 case isFalse=>cases hx
 rename_i bo;split at hx
 case h_2=>cases hx
 rename_i cs lz;split at hx
 case h_2=>cases hx
 rename_i v hv;cases hx;simp only[aB.S,aH,aB.H]at hy
 have e2':ev (au S d v) a'=.box i' o':=by
  rw[<-e2];exact bg λt ht=>aJ _ _ (by rintro rfl;exact Bl ht)
 simp only[d_,an,jW,aq,e2']at hy;split at hy
 case isFalse=>cases hy
 rename_i zR;split at hy
 case h_2=>cases hy
 rename_i cs' Ka;split at hy
 case h_2=>cases hy
 rename_i v' pY;cases hy
 have e1':ev (au S d' v') a=.box i o:=by
  rw[<-e1];exact bg λt ht=>aJ _ _ (by rintro rfl;exact p6 ht)
 have QG:au (au S d' v') d v=au (au S d v) d' v':=by
  funext t
  simp only[au]
  by_cases h1:t=d
  .subst h1;simp[hd]
  .simp[h1]
 by_cases hi:i=i'
 .subst hi
  have ho:o≠o':=by rcases bt with h|h;exact absurd rfl h;exact h
  rw[aN]at Ka;cases Ka;rw[List.getElem?_set_ne ho]at pY;refine⟨{ v:=v',hw:=some (i,cs.set o' v'.aw) },{ v:=v,hw:=some (i,(cs.set o' v'.aw).set o v.aw) },?_,?_,QG,?_,rfl⟩
  .simp[d_,an,jW,aq,e2,zR,lz,pY]
  .have:(cs.set o' v'.aw)[o]?=some v:=by rw[List.getElem?_set_ne (Ne.symm ho)];exact hv
   simp[d_,an,jW,aq,aB.S,aB.H,aH,e1',bo,aN,this]
  .simp only[aB.H];rw[List.set_comm _ _ (Ne.symm ho)]
   funext t
   simp only[au]
   split<;>rfl
 .rw[aJ _ _ (Ne.symm hi)]at Ka;refine⟨{ v:=v',hw:=some (i',cs'.set o' v'.aw) },{ v:=v,hw:=some (i,cs.set o v.aw) },?_,?_,QG,?_,rfl⟩
  .simp[d_,an,jW,aq,e2,zR,Ka,pY]
  .simp[d_,an,jW,aq,aB.S,aB.H,aH,e1',bo,aJ _ _ hi,lz,hv]
  .simp only[aB.H]
   funext t
   simp only[au]
   by_cases h1:t=i
   .subst h1;simp[hi]
   .simp[h1]
def nD.keep{S S':af}{x y:bc}(h:nD S x y)(hS:∀t∈x.op.rd++y.op.rd,S' t=S t):nD S' x y:=by
 obtain⟨xd,xg,xo⟩:=x;obtain⟨yd,yg,yo⟩:=y;unfold nD at h⊢;simp only at h hS⊢;split at h
 case h_2=>exact h.elim
 obtain⟨i,o,i',o',e1,e2,bt⟩:=h;refine⟨i,o,i',o',?_,?_,bt⟩
 .rw[<-e1];exact bg λt ht=>hS t (List.mem_append_left _ ht)
 .rw[<-e2];exact bg λt ht=>hS t (List.mem_append_right _ ht)
def stay(P:Program)(n:Nat)(ops:Array Oper)(listed:Array Bool)(ts:List Nat):Prop:=∀k ak,iD P n ops k=some ak->listed.getD k true=false->∀t∈ts,t∉ak.writes
def Dc {QA:af→ah→Prop} {i:Nat} {oi:bc} (hi:iD P n ops i=some oi) :
  ∀(fuel:Nat)(listed:Array Bool)(S:af)(H:ah)(e:aB),
   (∀j o aj,ops[j]?=some o->iD P n ops j=some aj->j≠i->listed.getD j true=false->(∀ed∈o.after,Region.binds md ed=true->ed.on≠i)->oi.apart aj=true\/(BF oi aj=true/\nD S oi aj/\stay P n ops listed (oi.op.rd++aj.op.rd)))->
   i∈Region.ready md ops listed->d_ P GI oi S H e->
   uD P GI n md ops QA fuel (listed.setIfInBounds i true) (e.S S oi.dst) (e.H H)->uD P GI n md ops QA (fuel+1) listed S H:=by
 intro fuel
 induction fuel with
 |zero=>
  intro listed S H e _ hr hy hK;refine⟨λh=>(by rw[h]at hr;cases hr),λj hj=>?_⟩
  by_cases eL:j=i
  .subst eL;unfold FO;rw[hi];exact⟨e,hy,hK⟩
  .have:=ready_mono hj eL;rw[hK.1]at this;cases this
 |succ fuel ih=>
  intro listed S H e oQ hr hy hK;refine⟨λh=>(by rw[h]at hr;cases hr),λj hj=>?_⟩
  by_cases eL:j=i
  .subst eL;unfold FO;rw[hi];exact⟨e,hy,hK⟩
  .have h1:=hK.2 j (ready_mono hj eL);obtain⟨u9,o,ho,eP⟩:=mem_ready.1 hj
   have pK:iD P n ops j=some (aW P n true ops o):=by simp[iD,ho]
   have Ah:∀ed∈o.after,Region.binds md ed=true->ed.on≠i:=λed Me hb heq=>by
    have h1:=eP ed Me hb;have h0:=(mem_ready.1 hr).1;rw[heq]at h1;rcases Nat.lt_or_ge i listed.size with h'|h'
    .simp[h']at h0 h1;rw[h0]at h1;cases h1
    .simp[Array.getElem?_eq_none h']at h1
   have nv:=oQ j o _ ho pK eL u9 Ah;unfold FO at h1⊢;rw[pK]at h1⊢;obtain⟨ej,AR,L3⟩:=h1
   have SG:∀k,(listed.setIfInBounds j true).getD k true=false->listed.getD k true=false:=λk hk=>by
    by_cases xQ:j=k
    .subst xQ;exact u9
    .rwa [getD_set_ne true xQ]at hk
   have sM:∀ Uo:aB,(∀ t,Uo.dm=some t→t∈(aW P n true ops o).op.wr)→∀ k o' ak,ops[k]? = some o'→iD P n ops k=some ak→k≠i→(listed.setIfInBounds j true).getD k true=false→(∀ ed∈o'.after,Region.binds md ed=true→ed.on≠i) →
     oi.apart ak=true\/(BF oi ak=true/\nD (Uo.S S (aW P n true ops o).dst) oi ak/\stay P n ops (listed.setIfInBounds j true) (oi.op.rd++ak.op.rd)):=by
    intro Uo IP k o' ak hk HY x_ fN dp
    rcases oQ k o' ak hk HY x_ (SG k fN) dp with h|⟨h1,h2,h3⟩
    .exact .inl h
    .refine .inr ⟨h1,h2.keep λt ht=>?_,λm am hm hu=>h3 m am hm (SG m hu)⟩;have:=h3 j _ pK u9 t ht;exact aB.si (λh=>this (eS (.inl h))) (λh=>this (eS (.inr (IP t h))))
   rcases nv with nv|⟨hs,hA,_⟩
   .have rA:=qe nv hy AR;refine⟨ej,rA,?_⟩;refine ih (listed.setIfInBounds j true) _ _ e (sM ej (eR AR).1) (ready_mono hr (Ne.symm eL)) (qc nv rA hy) ?_;rw[Array.setIfInBounds_comm _ _ eL];rw[<-tE nv (eR hy).1 (eR AR).1,<-t_ nv (eR hy).2 (eR rA).2];exact L3
   .obtain⟨Dl,mj,q1,q2,q3,q4,q5⟩:=K4 hs hA hy AR;refine⟨Dl,q1,?_⟩;refine ih (listed.setIfInBounds j true) _ _ mj (sM Dl (λt h=>by rw[q5]at h;cases h)) (ready_mono hr (Ne.symm eL)) q2 ?_;rw[Array.setIfInBounds_comm _ _ eL,q3,q4];exact L3
def CN(md:Region.Mode)(ops:Array Oper)(al:List bc)(p q:Nat)(listed:Array Bool)(i:Nat):Bool:=
 match al[i]? with
 |none=>false
 |some oi=>(List.range ops.size).all fun j=>j==i || listed.getD j true || match ops[j]?,al[j]? with
   |some oj,some aj=>oj.after.any (fun e=>Region.binds md e && e.on==i) || oi.apart aj ||
     (i==p&&j==q&&BF oi aj&&(List.range ops.size).all λk=>listed.getD k true||match al[k]? with
      |some ak=>(oi.op.rd++aj.op.rd).all λt=>!ak.writes.contains t
      |none=>true)
   |_,_=>true
def zc(md:Region.Mode)(ops:Array Oper)(al:List bc)(p q:Nat):List Nat->Array Bool->Bool
 |[],listed=>(Region.ready md ops listed).isEmpty
 |k::r,listed=>(Region.ready md ops listed).contains k&&CN md ops al p q listed k&&zc md ops al p q r (listed.setIfInBounds k true)
def C0 {p q i:Nat} {oi:bc} {listed:Array Bool} {S:af} (hi:iD P n ops i=some oi) (h:CN md ops (aO P n true ops) p q listed i=true) (hS:i=p→∀ aj,iD P n ops q=some aj→nD S oi aj) (j:Nat) (o:Oper) (aj:bc)
  (hj:ops[j]?=some o) (pK:iD P n ops j=some aj) (bt:j≠i) (fN:listed.getD j true=false) (dp:∀e∈o.after,Region.binds md e=true->e.on≠i):oi.apart aj=true\/(BF oi aj=true/\nD S oi aj/\stay P n ops listed (oi.op.rd++aj.op.rd)):=by
 simp only[CN,e_,hi,List.all_eq_true,List.mem_range]at h;have h1:=h j (Array.getElem?_eq_some_iff.1 hj).1;simp only[hj,pK,Bool.or_eq_true,beq_iff_eq,bt,false_or,fN,Bool.false_eq_true,Bool.and_eq_true]at h1
 rcases h1 with(h1|h1)|⟨⟨⟨h1,h2⟩,h3⟩,h4⟩
 .obtain⟨e,he,hb⟩:=Array.any_eq_true'.1 h1;simp only[Bool.and_eq_true,beq_iff_eq]at hb;exact absurd hb.2 (dp e he hb.1)
 .exact .inl h1
 .subst h1 h2;refine .inr ⟨h3,hS rfl aj pK,λk ak hk hu t ht hw=>?_⟩
  have oU:k<ops.size:=by
   unfold iD at hk
   cases ho:ops[k]? with
   |none=>rw[ho]at hk;cases hk
   |some x=>exact(Array.getElem?_eq_some_iff.1 ho).1
  have h5:=List.all_eq_true.1 h4 k (List.mem_range.2 oU);simp only[hu,Bool.false_or,hk]at h5;have:=List.all_eq_true.1 h5 t ht;simp[hw]at this
def mY{K K':af->ah->Prop}(hK:∀S H,K S H->K' S H):∀(l:List bc)(S:af)(H:ah),cM P GI l K S H->cM P GI l K' S H
 |[],_,_,h=>hK _ _ h
 |o::rest,S,H,h=>by
  simp only[cM]at h⊢;split
  .rename_i hw;simp only[hw]at h;exact qd (λS H=>mY hK rest S H) h
  .rename_i hw;simp only[hw]at h;exact mY hK rest _ _ h
  .rename_i hw;simp only[hw]at h
def wq(P:Program)(GI:World->Prop)(al:List bc)(p q:Nat)(K:af->ah->Prop):List Nat->af->ah->Prop
 |[],S,H=>K S H
 |k::r,S,H=>∃o,al[k]?=some o/\(k=p->∀aj,al[q]?=some aj->nD S o aj)/\cM P GI [o] (wq P GI al p q K r) S H
def Aw {QA:af→ah→Prop} {p q:Nat}:∀ (ord:List Nat) (listed:Array Bool) (S:af) (H:ah),
  zc md ops (aO P n true ops) p q ord listed=true->wq P GI (aO P n true ops) p q QA ord S H->uD P GI n md ops QA ord.length listed S H
 |[],_,_,_,hB,h=>⟨by simpa[zc]using hB,h⟩
 |k::r,listed,S,H,hB,h=>by
  obtain⟨o,ha,hS,h⟩:=h;rw[e_]at ha;simp only[zc,Bool.and_eq_true]at hB;obtain⟨⟨hr,hf⟩,NZ⟩:=hB;obtain⟨e,hy,hK⟩:=qN h
  exact Dc ha r.length listed S H e (C0 ha hf (λhk aj pK=>hS hk aj (by rw[e_];exact pK))) (by simpa using hr) hy
   (Aw r _ _ _ NZ hK)
def TL(P:Program)(n:Nat)(ops:Array Oper)(p q:Nat)(ord:List Nat):Bool:=
 (aO P n true ops).all (·.ok n)&&mG .any ops (aO P n true ops)&&Gr (aO P n true ops)&&decide (ord.length=ops.size)&&zc .any ops (aO P n true ops) p q ord (Array.replicate ops.size false)
def tU{al:List bc}{p q:Nat}{K:af->ah->Prop}{r:List Nat}:∀(ks:List Nat)(l:List bc){S:af}{H:ah},ks.map (al[·]?)=l.map some->(∀k∈ks,k≠p)->cM P GI l (wq P GI al p q K r) S H->wq P GI al p q K (ks++r) S H
 |[],[],_,_,_,_,h=>h
 |[],_::_,_,_,h,_,_=>by simp at h
 |_::_,[],_,_,h,_,_=>by simp at h
 |k::ks,o::l,S,H,he,hp,h=>by
  simp only[List.map_cons,List.cons.injEq]at he;refine⟨o,he.1,λhk=>absurd hk (hp k (by simp)),?_⟩
  have hm:∀S H,cM P GI l (wq P GI al p q K r) S H->wq P GI al p q K (ks++r) S H:=λS H h=>tU ks l he.2 (λk hk=>hp k (List.mem_cons_of_mem _ hk)) h
  simp only[cM]at h⊢;split
  .rename_i hw;simp only[hw]at h;exact qd hm h
  .rename_i hw;simp only[hw]at h;exact hm _ _ h
  .rename_i hw;simp only[hw]at h
end
section
variable{P:Program}{GI:World->Prop}{n:Nat}{ops:Array Oper}{S:af}{H:ah}
def SW.WM (hG:av GI) (hm:P.follows .mixedOrders=true) {ro:Option Nat} {old:Old} {Q:gy} {id p q:Nat} (k1 k2:List Nat) (cT:ops.all (fun o=>cG o.op)=true) (bo:TL P n ops p q (k1++p::k2)=true) (h1:∀ k∈k1,k≠p) (h2:∀ k∈k2,k≠p)
  {l:List bc} (hl:aO P n true ops=l) (l1 l2:List bc) (o aj:bc) (e1:k1.map (l[·]?)=l1.map some) (e2:k2.map (l[·]?)=l2.map some) (eo:l[p]?=some o) (ej:l[q]?=some aj)
  (h:cM P GI l1 (λS H=>nD S o aj/\cM P GI [o] (λS H=>cM P GI l2 (λS H=>Q .normal old S H) S H) S H) S H):SW P GI n ro (.region id ops true) Q old S H:=by
 subst hl;intro w0 g a w m db ho R;simp only[TL,Bool.and_eq_true,decide_eq_true_eq]at bo;obtain⟨⟨⟨⟨q1,q2⟩,q3⟩,q4⟩,q5⟩:=bo
 have dp:∀j o d z,iD P n ops j=some o->aR o=some (d,z)->False:=λj o d z hj hz=>by
  rw[<-e_]at hj;have:=List.all_eq_true.1 q3 o (List.mem_of_getElem? hj);unfold aR at hz;split at hz
  .rename_i h _;rw[h]at this;cases this
  .cases hz
 have R0:Rel P w0 n bp g S H a { w with drawn:=w.drawn+1 }:=R.oA ((Below.refl _ w).drew)
 have hU:UU P n ops (Array.replicate ops.size false)=bp:=by
  funext t
  simp only[UU,bp,eq_iff_iff,iff_false];rintro⟨j,o,z,k1,k2,_⟩;exact dp j o t z k1 k2
 refine wpIn_mono (wpIn_region_any hm (sD cT ki _ _ _ _ (Cn (Q:=Q.bq old) (old:=old) hG db q2 (λo ic=>?_) ops.size (Array.replicate ops.size false) g S H a _ (by simp) ho (by rw[hU];exact R0) (λj o d z k1 k2 k3=>(dp j o d z k1 k2).elim) ?_))) λ_ _ _ hq=>vU hq
 .simp only[aO,List.all_map,List.all_eq_true,Function.comp]at q1;exact q1 o (by simpa using ic)
 .have:=Aw (P:=P) (GI:=GI) (n:=n) (md:=.any) (ops:=ops) (QA:=Q.bq old .normal) (k1++p::k2) (Array.replicate ops.size false) S H q5 (tU k1 l1 e1 h1 (mY (λS H hh=>?_) _ _ _ h))
  .rw[q4]at this;exact this
  .obtain⟨hs,hh⟩:=hh;refine⟨o,eo,λ_ aj' Td=>by rw[ej]at Td;cases Td;exact hs,mY (λS H hh=>?_) _ _ _ hh⟩;have:=tU (P:=P) (GI:=GI) (al:=aO P n true ops) (p:=p) (q:=q) (K:=Q.bq old .normal) (r:=[]) k2 l2 e2 h2 (S:=S) (H:=H) (mY (λS H h=>h) l2 _ _ hh);simpa using this
end
section
variable{P:Program}{GI:World->Prop}{n m:Nat}{Q:Exit->Act->World->Prop}
def yq(ops:Array Oper)(p:Nat):Bool:=
 decide (p<=ops.size)&&ops.all (λo=>o.guard.isNone)&&
 (List.range ops.size).all (λi=>((ops[i]?).map λo=>if i<p then o.after.all λe=>!Region.binds .any e||decide (e.on<i)else(List.range p).all λj=>o.after.any λe=>Region.binds .any e&&e.on==j).getD true)&&
 jF ops (ops.size-p) p ((List.range ops.size).map λi=>decide (i<p)).toArray
def vg{F:Fence}{ops:Array Oper}(hg:ops.all (λo=>o.guard.isNone)=true)(x:Nat):∀(k i:Nat)(l:Array Bool)(a:Act)(w:World),jF ops k i l=true->wpOpsIn F m P ops Q (List.range' i k) a w->wpAnyIn F m P .any ops Q (x+k) l a w
 |0,i,l,a,w,h,hh=>by
  have h0:Region.ready .any ops l=[]:=by simpa[jF]using h
  cases x with
  |zero=>exact⟨h0,hh⟩
  |succ x=>exact⟨λ_=>hh,λi hi=>by rw[h0]at hi;cases hi⟩
 |k+1,i,l,a,w,h,hh=>by
  simp only[jF,Bool.and_eq_true,beq_iff_eq]at h;refine⟨λhr=>(by rw[hr]at h;cases h.1),λj hj=>?_⟩;rw[h.1,List.mem_singleton]at hj;subst hj;simp only[List.range'_succ]at hh;rw[wpOpsIn_cons]at hh;exact wpOpIn_mono (λa w hq=>vg hg x k _ _ a w h.2 hq) hh
structure Et(ops:Array Oper)(p:Nat)(la l:Array Bool):Prop where
 zJ:la.size=p
 sl:l.size=ops.size
 front:∀i,i<p->l[i]?=la[i]?
 back:∀i,p<=i->i<ops.size->l[i]?=some false
section
variable{ops:Array Oper}{p:Nat}{la l:Array Bool}(hp:p<=ops.size)
 (hw:∀i o,ops[i]?=some o->if i<p then∀e∈o.after,Region.binds .any e=true->e.on<i else∀j,j<p->∃e∈o.after,Region.binds .any e=true/\e.on=j)
include hp hw
def G2(h:Et ops p la l){j:Nat}(hj:j<p)(px:la[j]?=some false):Region.ready .any ops l=Region.ready .any (ops.extract 0 p) la:=by
 unfold Region.ready
 have aL:(ops.extract 0 p).size=p:=by simp;omega
 rw[aL]
 have hr:List.range ops.size=List.range p++List.range' p (ops.size-p):=by
  rw[List.range_eq_range',List.range_eq_range'];have:=List.range'_append_1 (s:=0) (m:=p) (n:=ops.size-p);rw[Nat.zero_add]at this;rw[this]
  congr 1;omega
 rw[hr,List.filter_append]
 have hb:(List.range' p (ops.size-p)).filter (λi=>!l.getD i true&&((ops[i]?).map (·.after.all λe=>!Region.binds .any e||l.getD e.on false)).getD false)=[]:=by
  rw[List.filter_eq_nil_iff];intro i hi;have hi:=List.mem_range'_1.1 hi;have xS:p<=i:=hi.1
  have rF:i<ops.size:=by omega
  have ho:ops[i]?=some ops[i]:=Array.getElem?_eq_getElem rF;have nF:=hw i _ ho;rw[if_neg (by omega)]at nF;obtain⟨e,he,hb,hej⟩:=nF j hj;rw[ho];simp only[Option.map_some,Option.getD_some,Bool.and_eq_true,not_and,Bool.not_eq_true];intro _;rw[Array.all_eq_false];obtain⟨q,hq,rfl⟩:=Array.getElem_of_mem he;refine⟨q,hq,?_⟩;rw[hb,hej];simp only[Bool.not_true,Bool.false_or,Bool.not_eq_true];rw[Array.getD_eq_getD_getElem?,h.front j hj,px];rfl
 rw[hb,List.append_nil]
 refine List.filter_congr λi hi=>?_
 have hi:=List.mem_range.1 hi;have ho:ops[i]?=some (ops[i]'(by omega)):=Array.getElem?_eq_getElem (by omega);have nF:=hw i _ ho;rw[if_pos hi]at nF
 have IU:(ops.extract 0 p)[i]?=ops[i]?:=by
  rw[Array.getElem?_extract]
  have:i<min p ops.size-0:=by omega
  rw[if_pos this,Nat.zero_add]
 rw[IU,ho];simp only[Option.map_some,Option.getD_some,Array.getD_eq_getD_getElem?,h.front i hi]
 congr 1
 rw[Bool.eq_iff_iff,Array.all_eq_true',Array.all_eq_true']
 refine forall_congr' λe=>forall_congr' λhe=>?_
 cases wG:Region.binds .any e with
 |false=>simp
 |true=>
  have:=nF e he wG;rw[h.front e.on (by omega)]
def tu(h:Et ops p la l){j:Nat}(hj:j<p)(px:la[j]?=some false):Region.ready .any (ops.extract 0 p) la≠[]:=by
 have aL:(ops.extract 0 p).size=p:=by simp;omega
 have ex:∃j,j<p/\la[j]?=some false/\∀i,i<j->la[i]?=some true:=by
  induction j using Nat.strongRecOn with
  |_ j ih=>
   by_cases hx:∃i,i<j/\la[i]?=some false
   .obtain⟨i,hi,Xc⟩:=hx;exact ih i hi (by omega) Xc
   .refine⟨j,hj,px,λi hi=>?_⟩
    have ec:i<la.size:=by rw[h.zJ];omega
    rw[Array.getElem?_eq_getElem ec]
    cases hb:la[i]with
    |true=>rfl
    |false=>exact absurd ⟨i,hi,by rw[Array.getElem?_eq_getElem ec,hb]⟩ hx
 obtain⟨j,hj,px,FE⟩:=ex;intro nk
 have:j∈Region.ready .any (ops.extract 0 p) la:=by
  unfold Region.ready;rw[List.mem_filter];refine⟨List.mem_range.2 (by omega),?_⟩;have ho:ops[j]?=some (ops[j]'(by omega)):=Array.getElem?_eq_getElem (by omega);have nF:=hw j _ ho;rw[if_pos hj]at nF
  have IU:(ops.extract 0 p)[j]?=ops[j]?:=by
   rw[Array.getElem?_extract]
   have:j<min p ops.size-0:=by omega
   rw[if_pos this,Nat.zero_add]
  rw[IU,ho];simp only[Option.map_some,Option.getD_some,Bool.and_eq_true,Array.getD_eq_getD_getElem?,px,Bool.not_false,true_and];rw[Array.all_eq_true'];intro e he
  cases wG:Region.binds .any e with
  |false=>rfl
  |true=>
   rw[FE e.on (nF e he wG)];rfl
 rw[nk]at this;cases this
def Fq {F:Fence} (hg:ops.all (fun o=>o.guard.isNone)=true) (v_:jF ops (ops.size - p) p ((List.range ops.size).map fun i=>decide (i < p)).toArray=true):∀ (k:Nat) (la l:Array Bool) (a:Act) (w:World),Et ops p la l →
  wpAnyIn F m P .any (ops.extract 0 p) (Ap (wpOpsIn F m P ops Q (List.range' p (ops.size-p))) Q) k la a w->wpAnyIn F m P .any ops Q (k+(ops.size-p)) l a w:=by
 have aL:(ops.extract 0 p).size=p:=by simp;omega
 have final:∀(k:Nat)(la l:Array Bool)(a:Act)(w:World),Et ops p la l->(¬∃j,j<p/\la[j]?=some false)->wpOpsIn F m P ops Q (List.range' p (ops.size-p)) a w->wpAnyIn F m P .any ops Q (k+(ops.size-p)) l a w:=by
  intro k la l a w h eP hh
  have hl:l=((List.range ops.size).map λi=>decide (i<p)).toArray:=by
   apply Array.ext_getElem?;intro i
   by_cases hi:i<ops.size
   .simp only[List.getElem?_toArray,List.getElem?_map,List.getElem?_range hi,Option.map_some]
    by_cases oW:i<p
    .rw[h.front i oW]
     have ec:i<la.size:=by rw[h.zJ];omega
     rw[Array.getElem?_eq_getElem ec]
     cases hb:la[i]with
     |true=>simp[oW]
     |false=>exact absurd ⟨i,oW,by rw[Array.getElem?_eq_getElem ec,hb]⟩ eP
    .rw[h.back i (by omega) hi];simp[oW]
   .have C':=h.sl;rw[Array.getElem?_eq_none (by omega),Array.getElem?_eq_none (by simp;omega)]
  rw[hl];exact vg hg k _ _ _ a w v_ hh
 intro k
 induction k with
 |zero=>
  intro la l a w h hh;refine final 0 la l a w h ?_ hh.2;rintro⟨j,hj,px⟩;exact tu hp hw h hj px hh.1
 |succ k ih=>
  intro la l a w h hh
  by_cases eP:∃j,j<p/\la[j]?=some false
  case neg=>
   have h0:Region.ready .any (ops.extract 0 p) la=[]:=by
    unfold Region.ready;rw[List.filter_eq_nil_iff];intro i hi;have hi:=List.mem_range.1 hi
    have ec:i<la.size:=by rw[h.zJ];omega
    cases hb:la[i]with
    |true=>simp[Array.getD_eq_getD_getElem?,Array.getElem?_eq_getElem ec,hb]
    |false=>exact absurd ⟨i,by omega,by rw[Array.getElem?_eq_getElem ec,hb]⟩ eP
   exact final (k+1) la l a w h eP (hh.1 h0)
  obtain⟨j,hj,px⟩:=eP;have h1:=tu hp hw h hj px;have h2:=G2 hp hw h hj px;rw[show k+1+(ops.size-p)=(k+(ops.size-p))+1 by omega];refine⟨λhr=>absurd (h2▸hr) h1,λi hi=>?_⟩
  have cy:i∈Region.ready .any (ops.extract 0 p) la:=by rw[<-h2];exact hi
  have oW:i<p:=by
   have:=List.mem_range.1 (List.mem_filter.1 cy).1;omega
  have hI:Et ops p (la.setIfInBounds i true) (l.setIfInBounds i true):=by
   refine⟨by simpa using h.zJ,by simpa using h.sl,λq hq=>?_,λq hq L1=>?_⟩
   .rw[Array.getElem?_setIfInBounds,Array.getElem?_setIfInBounds,h.front q hq];have e1:=h.zJ;have e2:=h.sl
    by_cases AT:i=q
    .subst AT;rw[if_pos rfl,if_pos rfl,if_pos (by omega),if_pos (by omega)]
    .rw[if_neg AT,if_neg AT]
   .rw[Array.getElem?_setIfInBounds,if_neg (by omega)];exact h.back q hq L1
  have hs:=hh.2 i cy;unfold wpOpIn at hs⊢
  have j6:(ops.extract 0 p)[i]?=ops[i]?:=by
   rw[Array.getElem?_extract]
   have:i<min p ops.size-0:=by omega
   rw[if_pos this,Nat.zero_add]
  rw[j6]at hs
  cases ho:ops[i]? with
  |none=>rw[ho]at hs;exact ih _ _ a w hI hs
  |some o=>
   rw[ho]at hs
   have ly:o.guard=none:=by
    have:=Array.all_eq_true'.1 hg o (Array.mem_of_getElem? ho);simpa using this
   have hw:∀y,Region.wanted o y=true:=λy=>by simp[Region.wanted,ly]
   simp only[hw,if_true]at hs⊢;exact Oper.wpIn_mono (λa w hq=>ih _ _ a w hI hq) (tM hs)
end
def zD (hm:P.follows .mixedOrders=true) {F:Fence} {id p:Nat} {ops:Array Oper} {a:Act} {w:World} (h:yq ops p=true)
  (hh:wpAnyIn F m P .any (ops.extract 0 p) (Ap (wpOpsIn F m P ops Q (List.range' p (ops.size-p))) Q) p (Array.replicate p false) a { w with drawn:=w.drawn+1 }):(Code.region id ops true).wpIn F m P Q a w:=by
 simp only[yq,Bool.and_eq_true,decide_eq_true_eq]at h;obtain⟨⟨⟨h1,h2⟩,h3⟩,h4⟩:=h;refine wpIn_region_any hm ?_
 have:=Fq (P:=P) (Q:=Q) (m:=m) h1 (λi o ho=>by
  have hi:=(Array.getElem?_eq_some_iff.1 ho).1;have:=List.all_eq_true.1 h3 i (List.mem_range.2 hi);rw[ho]at this;simp only[Option.map_some,Option.getD_some]at this;split
  .rename_i oW;rw[if_pos oW,Array.all_eq_true']at this;intro e he hb;have:=this e he;simpa[hb]using this
  .rename_i oW;rw[if_neg oW]at this;intro j hj;have:=List.all_eq_true.1 this j (List.mem_range.2 hj);obtain⟨q,hq,U4⟩:=Array.any_eq_true.1 this;simp only[Bool.and_eq_true,beq_iff_eq]at U4
   exact⟨_,Array.getElem_mem hq,U4.1,U4.2⟩) (F:=F) h2 h4 p (Array.replicate p false) (Array.replicate ops.size false) a _ ⟨by simp,by simp,λi hi=>by
    rw[Array.getElem?_replicate,Array.getElem?_replicate,if_pos (by omega),if_pos hi],λi hi cy=>by rw[Array.getElem?_replicate,if_pos cy]⟩ hh
 rwa [show p+(ops.size-p)=ops.size by omega]at this
end
section
variable{P:Program}{Q:Exit->Act->World->Prop}{ro:Option Nat}{m n:Nat}{ops:Array Oper}
structure AI(ops:Array Oper)(n:Nat)(a0:Act)(val:Nat->Value)(l:Array Bool)(a:Act):Prop where
 size:a.tmps.size=n
 defers:a.defers=a0.defers
 old:∀t:Nat,(∀(i:Nat)(o:Oper),ops[i]?=some o->o.dst≠some t)->a.tmps.getD t undef=a0.tmps.getD t undef
 Ly:∀(i:Nat)(o:Oper)(t:Nat),ops[i]?=some o->o.dst=some t->l.getD i false=true->a.tmps.getD t undef=val t
def De(ops:Array Oper)(n:Nat):Bool:=
 ops.all (λo=>o.guard.isNone&&cG o.op&&(match o.dst with|some t=>decide (t<n)|none=>false))&&
 (List.range ops.size).all (λi=>((ops[i]?).map λo=>(o.after.all λe=>!Region.binds .any e||decide (e.on<i))&&(List.range ops.size).all λj=>i==j||((ops[j]?).map λo'=>o'.dst !=o.dst).getD true).getD true)
def xB{l:Array Bool}(ja:∀(i:Nat)(o:Oper),ops[i]?=some o->∀e∈o.after,Region.binds .any e=true->e.on<i)(hl:l.size=ops.size):Region.ready .any ops l=[]->∀i,i<ops.size->l.getD i false=true:=by
 intro h i
 induction i using Nat.strongRecOn with
 |_ i ih=>
 intro hi
 cases hli:l.getD i false with
 |true=>rfl
 |false=>
  exfalso
  have cy:i<l.size:=by omega
  have h1:l.getD i true=false:=by
   simp only[Array.getD_eq_getD_getElem?,Array.getElem?_eq_getElem cy,Option.getD_some]at hli⊢;exact hli
  have:i∈Region.ready .any ops l:=mem_ready.2 ⟨h1,ops[i],Array.getElem?_eq_getElem hi,λe he hb=>ih e.on (ja i _ (Array.getElem?_eq_getElem hi) e he hb) (by have:=ja i _ (Array.getElem?_eq_getElem hi) e he hb;omega)⟩;rw[h]at this;cases this
def A4 {a0:Act} {val:Nat→Value} (gx:De ops n=true) (W:World→Prop)
  (uy:∀(i:Nat)(o:Oper)(l:Array Bool)(a:Act)(w:World),ops[i]?=some o->AI ops n a0 val l a->W w->(∀e∈o.after,Region.binds .any e=true->l.getD e.on false=true)->
   ∃t,o.dst=some t/\((∃w',(execOp a.eval o).run P w=.ok (.value (val t)) w'/\W w')\/
    ∃f args,(execOp a.eval o).run P w=.ok (.enter f args) w/\Calls P f args w λe w'=>e=.returned (val t)/\W w'))
  (hQ:∀(a:Act)(w:World),AI ops n a0 val (Array.replicate ops.size true) a->W w->Q .normal a w):
  ∀(fuel:Nat)(l:Array Bool)(a:Act)(w:World),l.size=ops.size->(l.toList.filter (! ·)).length<=fuel->AI ops n a0 val l a->W w->wpAnyIn (FR ro) m P .any ops Q fuel l a w:=by
 simp only[De,Bool.and_eq_true]at gx;obtain⟨hg,hs⟩:=gx
 have ja:∀(i:Nat)(o:Oper),ops[i]?=some o->∀e∈o.after,Region.binds .any e=true->e.on<i:=by
  intro i o ho e he hb;have:=List.all_eq_true.1 hs i (List.mem_range.2 (Array.getElem?_eq_some_iff.1 ho).1);simp only[ho,Option.map_some,Option.getD_some,Bool.and_eq_true]at this;have:=Array.all_eq_true'.1 this.1 e he;simpa[hb]using this
 have N5:∀(i j:Nat)(o o':Oper),ops[i]?=some o->ops[j]?=some o'->i≠j->o'.dst≠o.dst:=by
  intro i j o o' ho kZ pt;have:=List.all_eq_true.1 hs i (List.mem_range.2 (Array.getElem?_eq_some_iff.1 ho).1);simp only[ho,Option.map_some,Option.getD_some,Bool.and_eq_true]at this;have:=List.all_eq_true.1 this.2 j (List.mem_range.2 (Array.getElem?_eq_some_iff.1 kZ).1);simpa[kZ,pt]using this
 have fin:∀(l:Array Bool)(a:Act)(w:World),l.size=ops.size->AI ops n a0 val l a->W w->Region.ready .any ops l=[]->Q .normal a w:=by
  intro l a w hl hI hW hr;have:=xB ja hl hr;refine hQ a w ⟨hI.size,hI.defers,hI.old,λi o t ho hd _=>hI.Ly i o t ho hd (this i (Array.getElem?_eq_some_iff.1 ho).1)⟩ hW
 intro fuel
 induction fuel with
 |zero=>
  intro l a w hl hc hI hW
  have hr:Region.ready .any ops l=[]:=by
   rw[List.eq_nil_iff_forall_not_mem];intro i hi;obtain⟨h1,o,ho,_⟩:=mem_ready.1 hi
   have cy:i<l.size:=by rw[hl];exact(Array.getElem?_eq_some_iff.1 ho).1
   have h2:l[i]=false:=by simpa[Array.getD_eq_getD_getElem?,cy]using h1
   have:l[i]∈l.toList.filter (! ·):=List.mem_filter.2 ⟨by simp,by simp[h2]⟩;have:=List.length_pos_of_mem this;omega
  exact⟨hr,fin l a w hl hI hW hr⟩
 |succ fuel ih=>
  intro l a w hl hc hI hW;refine⟨λhr=>fin l a w hl hI hW hr,λi hi=>?_⟩;obtain⟨h1,o,ho,eP⟩:=mem_ready.1 hi;have wc:=(Array.getElem?_eq_some_iff.1 ho).1
  have cy:i<l.size:=by omega
  have h2:l[i]=false:=by simpa[Array.getD_eq_getD_getElem?,cy]using h1
  have ly:=Array.all_eq_true'.1 hg o (Array.mem_of_getElem? ho);simp only[Bool.and_eq_true]at ly;obtain⟨⟨ly,bf⟩,oS⟩:=ly;obtain⟨t,hd,mf⟩:=uy i o l a w ho hI hW eP
  have Nz:t<n:=by simpa[hd]using oS
  have na:((l.setIfInBounds i true).toList.filter (! ·)).length<=fuel:=by
   have:(l.setIfInBounds i true).toList=l.toList.set i true:=by simp
   rw[this]
   have hlen:∀(xs:List Bool)(k:Nat)(h:k<xs.length),xs[k]=false->((xs.set k true).filter (! ·)).length+1=(xs.filter (! ·)).length:=by
    intro xs
    induction xs with
    |nil=>intro k h;simp at h
    |cons x xs ih=>
     intro k h hk
     cases k with
     |zero=>
      simp only[List.getElem_cons_zero]at hk;subst hk;simp
     |succ k=>
      simp only[List.getElem_cons_succ]at hk;have:=ih k (by simpa using h) hk;simp only[List.set_cons_succ,List.filter_cons]
      split<;>(try simp only[List.length_cons])<;>omega
   have:=hlen l.toList i (by simpa using cy) (by simpa using h2);omega
  have next:∀w',W w'->wpAnyIn (FR ro) m P .any ops Q fuel (l.setIfInBounds i true) (a.put o.dst (val t)) w':=by
   intro w' Aq;refine ih _ _ w' (by simpa using hl) na ⟨by simp[Act.put,hd,hI.size],by rw[hd];exact hI.defers,λs hs=>?_,λj o' s kZ sX FU=>?_⟩ Aq
   .have bt:s≠t:=by rintro rfl;exact hs i o ho hd
    rw[hd,<-hI.old s hs];simp[Act.put,Array.getElem?_setIfInBounds_ne (Ne.symm bt)]
   .rw[hd]
    by_cases eL:j=i
    .subst eL;rw[ho]at kZ;cases kZ;rw[hd]at sX;cases sX;simp[Act.put,hI.size,Nz]
    .have bt:s≠t:=by
      rintro rfl;exact N5 i j o o' ho kZ (Ne.symm eL) (sX.trans hd.symm)
     have B6:l.getD j false=true:=by
      have:=FU;simp only[Array.getD_eq_getD_getElem?,Array.getElem?_setIfInBounds_ne (Ne.symm eL)]at this⊢;exact this
     rw[<-hI.Ly j o' s kZ sX B6];simp[Act.put,Array.getElem?_setIfInBounds_ne (Ne.symm bt)]
  have hw:Region.wanted o (yielded ops a.tmps)=true:=by
   have:o.guard=none:=by simpa using ly
   simp[Region.wanted,this]
  simp only[wpOpIn,ho,hw,if_true];refine⟨λ_ _=>trivial,?_⟩;rw[Oper.semAt_eq _ _ _ (λc hc=>by rw[hc]at bf;cases bf)]
  rcases mf with⟨w',hr,Aq⟩|⟨f,args,hr,hC⟩
  .rw[hr];exact next w' Aq
  .rw[hr];refine⟨λh=>by simp[FR,Fence.wide]at h,eA.2 (hC.mono λe iU hh=>?_)⟩;obtain⟨rfl,Aq⟩:=hh;exact next iU Aq
def Bm (hm:P.follows .mixedOrders=true) {id p:Nat} {a0:Act} {w0:World} {val:Nat→Value} (ph:yq ops p=true) (kR:(ops.extract 0 p).size=p) (gx:De (ops.extract 0 p) n=true) (aL:a0.tmps.size=n) (W:World→Prop) (Xn:W { w0 with drawn:=w0.drawn+1 })
  (uy:∀(i:Nat)(o:Oper)(l:Array Bool)(a:Act)(w:World),(ops.extract 0 p)[i]?=some o->AI (ops.extract 0 p) n a0 val l a->W w->(∀e∈o.after,Region.binds .any e=true->l.getD e.on false=true)->
   ∃t,o.dst=some t/\((∃w',(execOp a.eval o).run P w=.ok (.value (val t)) w'/\W w')\/
    ∃f args,(execOp a.eval o).run P w=.ok (.enter f args) w/\Calls P f args w λe w'=>e=.returned (val t)/\W w'))
  (hQ:∀(a:Act)(w:World),AI (ops.extract 0 p) n a0 val (Array.replicate p true) a->W w->wpOpsIn (FR ro) m P ops Q (List.range' p (ops.size-p)) a w):(Code.region id ops true).wpIn (FR ro) m P Q a0 w0:=by
 refine zD hm ph ?_;refine A4 gx W uy (λa w hI hW=>?_) p (Array.replicate p false) a0 _ (by simp[kR]) ?_ ⟨aL,rfl,λ_ _=>rfl,λi o t ho hd h=>?_⟩ Xn
 .rw[kR]at hI;exact hQ a w hI hW
 .refine Nat.le_trans (List.length_filter_le _ _) (by simp)
 .simp[Array.getElem?_replicate]at h
  split at h<;>cases h
section
variable{a:Act}{w:World}
def HD {i:Nat} {rest:List Nat} {o:Oper} (ho:ops[i]? = some o) (hw:Region.wanted o (yielded ops a.tmps)=true) (cT:cG o.op=true) {v:Value} {w':World}
  (hr:(execOp a.eval o).run P w=.ok (.value v) w') (hk:wpOpsIn (FR ro) m P ops Q rest (a.put o.dst v) w'):wpOpsIn (FR ro) m P ops Q (i::rest) a w:=by
 simp only[wpOpsIn,ho];rw[if_pos hw];refine⟨λ_ _=>trivial,?_⟩;rw[Oper.semAt_eq _ _ _ (λc hc=>by rw[hc]at cT;cases cT),hr];exact hk
def pd {i:Nat} {rest:List Nat} {o:Oper} (ho:ops[i]? = some o) (hw:Region.wanted o (yielded ops a.tmps)=true) (cT:cG o.op=true) {f:Nat} {args:Array Value} {w':World}
  (hr:(execOp a.eval o).run P w=.ok (.enter f args) w') {R:Ending->World->Prop} (hc:Calls P f args w' R) (hk:∀e iU,R e iU->∃v,e=.returned v/\wpOpsIn (FR ro) m P ops Q rest (a.put o.dst v) iU):wpOpsIn (FR ro) m P ops Q (i::rest) a w:=by
 simp only[wpOpsIn,ho];rw[if_pos hw];refine⟨λ_ _=>trivial,?_⟩;rw[Oper.semAt_eq _ _ _ (λc hc=>by rw[hc]at cT;cases cT),hr];refine⟨λh=>by simp[FR,Fence.wide]at h,eA.2 (hc.mono λe iU hh=>?_)⟩;obtain⟨v,rfl,h⟩:=hk e iU hh;exact h
end
end
section
variable{P:Program}{GI:World->Prop}{w0:World}{n:Nat}{g:Gh}{S:af}{H:ah}{a:Act}{w:World}
def Rel.Ss (R:Rel P w0 n bp g S H a w) (d:Nat) (hd:d < n) (bC:¬ g.old.bx d) (cs:List AV) (vs:Array Value) (ty:TypeId) (hr:ng g.Pr w cs vs)
  (ho:∀(g':Gh) j (h:j<cs.length)(h':j<vs.size),(cs[j]).kE/\dw P w g' (.cell d j) cs[j] vs[j]):
  ∃g',g'.base=g.base/\g'.old=g.old/\g'.hi=g.hi/\g'.owner=g.owner/\g'.al d=some w.heap.size/\Rel P w0 n bp g' (au (λt=>aZ d (S t)) d (.box d 0)) (au H d (some cs)) (a.put (some d) (.pointer (some ⟨w.heap.size,0,none⟩))) (w.alloc (.cells vs ty)):=by
 have R1:=R.suspend d bC (.box d 0) cs;have R2:=R1.CM d (.inr rfl) hd cs vs ty (aN _ _ _) (aN _ _ _) hr.1 hr.2.1 (λj h h'=>ho _ j h h') hr.2.2;rw[BL]at R2;exact⟨{ g with al:=au (au g.al d none) d (some w.heap.size) },rfl,rfl,rfl,rfl,aN _ _ _,R2⟩
def ra{o:Oper}{t:TypeId}{it:TypeInfo}{z:Value}(ho:o.op=.alloc t)(hi:P.info? t=some it)(hz:it.zero=some z):(execOp a.eval o).run P w=.ok (.value (.pointer (some ⟨w.heap.size,0,none⟩))) (w.alloc (.cells z.cells t)):=by
 unfold execOp;simp[ho,Instr.alloc,zeroValue,typeInfo,hi,hz,newVar,newRow]
def iV {o:Oper} {t:TypeId} {x y:Operand} {b:Nat} {c:Value} {vs:Array Value} {ty:TypeId} {i:TypeInfo} (ho:o.op = .store t x y) (hx:a.eval x = .pointer (some ⟨b,0,none⟩)) (hi:P.info? t=some i) (hb:w.heap[b]? = some (.cells vs ty (0,0))) (hy:a.eval y=c)
  (aL:c.cells.size=i.size) (CR:vs.size=i.size) (jY:∀u∈c.cells.toList,u.oneCell'=true):(execOp a.eval o).run P w=.ok .skip (w.setRow b c.cells):=by
 have eO:=run_storeCells_at P b 0 ty c.cells.toList 0 vs w hb (by simp;omega) jY
 have e:(vs.toList.take 0++c.cells.toList++vs.toList.drop (0+c.cells.toList.length)).toArray=c.cells:=by
  simp[List.drop_eq_nil_of_le,aL,CR]
 simp only[Nat.add_zero]at eO;rw[e]at eO;unfold execOp;simp only[ho,hx,hy,Instr.storeAt,Instr.sureAddr,storeVar,sizeOf,typeInfo,Sem.run_bind,Sem.run_pure,Result.andThen_ok,run_program,hi,aL,ne_eq,not_true_eq_false,if_false];rw[show storeCells ⟨b,0,none⟩ c.cells.toList=storeCells ⟨b,0,none⟩ c.cells.toList 0 from rfl,eO]
 rfl
def Rel.forget(R:Rel P w0 n bp g S H a w)(d:Nat)(hd:d<n)(c:Value):Rel P w0 n bp g (au S d .bj) H (a.put (some d) c) w:=R.put d .bj c hd (.bj _) trivial
end
end Go.AL
namespace Go.Proofs.Tryz
open Go.AL
noncomputable def codeOf(f:Go.Func):Go.Code:=match f.body with|some c=>c|none=>f.body.get!
abbrev Ev(n:Nat)(f:Go.Func):={c:ae//cE prog n (codeOf f)=c}
def _root_.Go.Code.cA:Go.Code->Go.Code
 |.seq x _=>x
 |.cond _ x _=>x
 |c=>c
def _root_.Go.Code.cB:Go.Code->Go.Code
 |.seq _ y=>y
 |.cond _ _ y=>y
 |.block _ c=>c
 |.loop c=>c
 |c=>c
noncomputable def _root_.Go.Func.cO(f:Go.Func):Go.Code:=match f.body with|some c=>c|none=>f.body.get!
@[simp] noncomputable def aU(n:Nat)(c:Go.Code){a:ae}(_h:cE prog n c=a:=by conv=>lhs;cbv):ae:=a
end Go.Proofs.Tryz
namespace Go.AL
def bl{n:Int}(h: -9223372036854775808<=n/\n<9223372036854775808):IntKind.i64.wrap n=n:=by
 have key:∀m:Int,m=n % 18446744073709551616->(if decide (m>=9223372036854775808)=true then m-18446744073709551616 else m)=n:=by
  intro m hm;split
  .rename_i hd;have:=of_decide_eq_true hd;omega
  .rename_i hd
   have sX:¬m>=9223372036854775808:=λhh=>hd (decide_eq_true hh)
   omega
 exact key _ rfl
def ints(l:List Int):List AV:=l.map (.int .i64)
def br(l:List Int):(ints l).length=l.length:=by simp[ints]
def bU(l:List Int)(i:Nat)(h:i<(ints l).length):(ints l)[i]=.int .i64 (l[i]'(by simpa[ints]using h)):=by simp[ints]
def vI(l:List Int):AV:=.slice .view (ints l)
def int(n:Int):AV:=.int .i64 n
def aE.of_eq{Pr cS:Nat->Nat->Prop}{w w':World}(h:∀b k,Pr b k->cS b k/\w'.heap[b]?=w.heap[b]?):aE Pr cS w w':={
 cell b k hp u hu:=⟨(h b k hp).1,by rw[World.cell?_of_block (w:=w) (h b k hp).2];exact hu⟩
 map b hp es c hm:=⟨(h b 0 hp).1,by rw[(h b 0 hp).2];exact hm⟩ }
def RV.fc{Pr:Nat->Nat->Prop}{al:Nat->Option Nat}{w:World}{b:Bool}{c:Value}(h:RV Pr al w (.bool b) c):c=.bool b:=by
 cases h;rename_i h;cases h;rfl
def RV.int_eq{Pr:Nat->Nat->Prop}{al:Nat->Option Nat}{w:World}{k:IntKind}{n:Int}{c:Value}(h:RV Pr al w (.int k n) c):c=.int k n:=by
 cases h;rename_i h;cases h;rfl
def RV.jf{Pr:Nat->Nat->Prop}{al:Nat->Option Nat}{w:World}{v c:Value}(h:RV Pr al w (.val v) c):c=v:=by
 cases h;rename_i h;cases h;rfl
def iC{P:Program}{ro:Option Nat}{m:Nat}{c:Code}{Q:Exit->Act->World->Prop}{a:Act}{w:World}(A:Act->Prop)(ha:A a)(h:∀a,A a->c.wpIn (FR ro) m P Q a w):c.wpIn (FR ro) m P Q a w:=h a ha
def xp {P:Program} {a:Act} {w:World} {ro:Option Nat} {m:Nat} {Q:Exit→Act→World→Prop} {ops:Array Oper} {i:Nat} {rest:List Nat} {o:Oper} (ho:ops[i]? = some o) (hg:o.guard=none) (cT:cG o.op=true) {f:Nat} {args:Array Value} {w':World}
    (hr:(execOp a.eval o).run P w=.ok (.enter f args) w') {R:Ending->World->Prop} (hc:Calls P f args w' R)
    (hk:∀e iU,R e iU->match e with|.returned v=>wpOpsIn (FR ro) m P ops Q rest (a.put o.dst v) iU|.panicked ch=>Q (.panic ch) a iU|.outgrown=>False):wpOpsIn (FR ro) m P ops Q (i::rest) a w:=by
  simp only[wpOpsIn,ho]
  have:Region.wanted o (yielded ops a.tmps)=true:=by simp[Region.wanted,hg]
  rw[if_pos this];refine⟨λ_ _=>trivial,?_⟩;rw[Oper.semAt_eq _ _ _ (λc hc=>by rw[hc]at cT;cases cT),hr];refine⟨λh=>by simp[FR,Fence.wide]at h,eA.2 (hc.mono λe iU hh=>?_)⟩;have:=hk e iU hh
  cases e with
  |returned v=>exact this
  |panicked ch=>exact this
  |outgrown=>exact this.elim
def wR {P:Program} {a:Act} {w:World} {m:Nat} {Q:Exit→Act→World→Prop} {ops:Array Oper} {i:Nat} {rest:List Nat} {o:Oper} (ho:ops[i]? = some o) (hg:o.guard=none) {d:Deferred} {w':World}
    (hr:(execOp a.eval o).run P w=.ok (.defer d) w') (hk:wpOpsIn (FR none) m P ops Q rest ({ a with defers:=d::a.defers }.put o.dst undef) w'):wpOpsIn (FR none) m P ops Q (i::rest) a w:=by
  simp only[wpOpsIn,ho]
  have:Region.wanted o (yielded ops a.tmps)=true:=by simp[Region.wanted,hg]
  rw[if_pos this];refine⟨λ_ _=>trivial,?_⟩;show Oper.uponIn _ _ _ _ _ _ _ ((Oper.semAt none a.eval o).run P w);rw[Oper.semAt_none,hr];exact hk
section
variable{P:Program}{GI:World->Prop}{n:Nat}{ro:Option Nat}{old:Old}{S:af}{H:ah}{Q:gy}
def SW.cut (hG:av GI) (hm:P.follows .mixedOrders=true) {x y:Code} (hc:iW x=true) {ac:ae} (ja:cE P n x=ac) (bC:∀ d∈ac.names,¬ old.bx d) (K:af→ah→Prop) (h:bq P GI ac (az K) S H)
  (hy:∀S' H',K S' H'->SW P GI n ro y Q old S' H'):SW P GI n ro (.seq x y) Q old S H:=by
 subst ja;intro w0 g a w m db ho R;refine wpIn_seq (wpIn_mono (iq hG db hm x (az K) g S H a w hc bC ho R h) ?_);intro e a' w' hq
 cases e with
 |normal=>
  obtain⟨g',S',H',h1,h2,h3⟩:=hq;exact hy S' H' h3 w0 g' a' w' m db h1 h2
 |exit id=>obtain⟨_,_,_,_,_,h⟩:=hq;exact h.elim
 |ret=>obtain⟨_,_,_,_,_,h⟩:=hq;exact h.elim
 |panic ch=>obtain⟨_,_,_,_,_,_,_,_,_,_,h⟩:=hq;exact h.elim
 |goto l=>exact hq.elim
 |outgrown=>exact hq.elim
end
section
variable{P:Program}{GI:World->Prop}{n:Nat}{ro:Option Nat}{old:Old}{S:af}{H:ah}{Q:gy}{b:Frame}{a:Act}{k:List Item}{cs:List Frame}{w:World}
def Cl{c:Code}:step P (lone (b.atR a (.code (.scope c)::k)) cs w)=.next (lone (b.atR a (.code c::.inScope c::k)) cs w):=
 step_lone_go (by simp[stepG,stepG.exec,Frame.atR])
def ze{c:Code}:step P (lone (b.atR a (.inScope c::k)) cs w)=.next (lone (b.atR a k) cs w):=
 step_lone_go (by simp[stepG,stepG.exec,Frame.atR])
def SW.scope{c:Code}(h:SW P GI n ro c Q old S H):SW P GI n ro (.scope c) Q old S H:=by
 intro w0 g a w m hG ho R b k cs ov hF hr;obtain⟨e,iu,jT,hq,gC⟩:=h w0 g a w m hG ho R b (.inScope c::k) cs ov hF hr
 have s1:StepsIn (Machine.fenced P (FR ro)) P (lone (b.atR a (.code (.scope c)::k)) cs w) (lone (b.atR a (.code c::.inScope c::k)) cs w):=
  .one (fenced_calm (F:=FR ro) (fr:=b.atR a (.code (.scope c)::k)) trivial hr rfl) Cl
 have ex:∀id,exitTo id (.inScope c::k)=exitTo id k:=λid=>by simp[exitTo]
 refine⟨e,iu,jT,hq,.of_steps s1 ?_⟩
 cases e with
 |normal=>exact StepsIn.trans gC (.one (fenced_calm (F:=FR ro) (fr:=b.atR iu (.inScope c::k)) trivial hr rfl) ze)
 |exit id=>exact⟨λk' hk=>gC.1 k' (by rw[ex];exact hk),λhh hk=>gC.2 hh (by rw[ex];exact hk)⟩
 |goto l=>exact hq.elim
 |ret=>exact gC
 |panic ch=>exact gC
 |outgrown=>exact hq.elim
def SW.label{l:Nat}(h:Q .normal old S H):SW P GI n ro (.label l) Q old S H:=
 λ_ g _ _ _ _ ho R=>wpIn_label ⟨g,S,H,R,by rw[ho];exact h⟩
end
section
def fJ {P:Program} {a:Act} {o:Oper} {cl:Call} {k:Nat} {args:Array Value} (w:World) (ho:o.op = .call cl) (hc:cl.callee = .value (.func k)) (ha:cl.args.map a.eval=args) (hk:dW P k=true) :
  (execOp a.eval o).run P w=.ok (.enter k args) w:=by
 unfold execOp;simp only[ho,dX hc,show a.eval (.func k)=.func (.func k) #[] #[]from rfl,Deferred.ofValue,Sem.run_bind,Sem.run_pure,Result.andThen_ok,invoke,Array.empty_append,Array.append_empty,ha];rw[eV hk]
def zI(a:Act)(d t:Nat)(c:Value)(hd:d<a.tmps.size):(a.put (some d) c).eval (.tmp t)=if t=d then c else a.eval (.tmp t):=jO a d t c hd
def Lh(a:Act)(d:Option Nat)(c:Value):(a.put d c).tmps.size=a.tmps.size:=by cases d<;>simp[Act.put]
end
end Go.AL
namespace Go.AL
open Go.RowKit
section
variable{P:Program}{GI:World->Prop}{n:Nat}{a:Act}{w w0:World}{m:Nat}{Q:Exit->Act->World->Prop}{g:Gh}{S:af}{H:ah}{ro:Option Nat}
def eI (R:Rel P w0 n bp g S H a w) (hG:av GI) (db:GI w0) (hm:P.follows .mixedOrders=true) {id:Nat} {ops:Array Oper} {draw:Bool} (hc:iW (.region id ops draw)=true) {ac:ae} (ja:cE P n (.region id ops draw)=ac) {W:Nat→Bool} (hW:fy ops W=true)
  (bC:∀d,¬g.old.bx d) {K:af->ah->Prop} (h:bq P GI ac (az K) S H)
  (hk:∀g' S' H' a' w',g'.old=g.old->Rel P w0 n bp g' S' H' a' w'->K S' H'->dV W a a'->Q .normal a' w'):(Code.region id ops draw).wpIn (FR ro) m P Q a w:=by
 subst ja
 have fin:∀e a' w',tI W a (QQ P w0 n g.old (az K)) e a' w'->Q e a' w':=by
  intro e a' w' hq
  cases e with
  |normal=>
   obtain⟨⟨g',S',H',h1,h2,h3⟩,h4⟩:=hq;exact hk g' S' H' a' w' h1 h2 h3 h4
  |exit id=>obtain⟨_,_,_,_,_,h⟩:=hq;exact h.elim
  |ret=>obtain⟨_,_,_,_,_,h⟩:=hq;exact h.elim
  |panic ch=>obtain⟨_,_,_,_,_,_,_,_,_,_,h⟩:=hq;exact h.elim
  |goto l=>exact hq.elim
  |outgrown=>exact hq.elim
 simp only[cE]at h
 cases draw with
 |true=>
  simp only[if_true]at h;split at h
  case isFalse=>exact h.elim
  rename_i bo;exact wpIn_region_any hm (fp fin _ _ _ _ (fO hW _ _ _ _ (jA hG db hm hc bo (λ_ _ _ _=>bC _) rfl R h)))
 |false=>
  simp only[Bool.false_eq_true,if_false]at h;split at h
  case isFalse=>exact h.elim
  rename_i bo;exact wpIn_region (eY fin _ _ _ (fm hW _ _ _ (pn hG db hc bo (λ_ _ _ _=>bC _) rfl R h)))
def jz{o:Oper}{t:TypeId}{z:Value}(ho:o.op=.alloc t)(hz:(P.info? t).bind (·.zero)=some z):(execOp a.eval o).run P w=.ok (.value (.pointer (some ⟨w.heap.size,0,none⟩))) (w.alloc (.cells z.cells t)):=by
 obtain⟨it,h1,h2⟩:=Option.bind_eq_some_iff.1 hz;unfold execOp;simp[ho,Instr.alloc,zeroValue,typeInfo,h1,h2,newVar,newRow]
def pO{o:Oper}{fn:Fn}{c:Array Operand}(ho:o.op=.makeFunc fn #[] c):(execOp a.eval o).run P w=.ok (.value (.func fn #[] (c.map a.eval))) w:=by
 simp[execOp,ho,Instr.makeFunc]
end
section
variable{P:Program}{GI:World->Prop}{n:Nat}{ro:Option Nat}{old:Old}{S:af}{H:ah}{Q:gy}{a:Act}{w:World}
def run_makeMap{o:Oper}{t:TypeId}(ho:o.op=.makeMap t none):(execOp a.eval o).run P w=.ok (.value (.map (some w.heap.size))) (w.alloc (.map #[] 0)):=by
 unfold execOp;simp[ho,Instr.makeMap,run_newObj_alloc]
def Eu {o:Oper} {t kt el:TypeId} {fs:Array Field} {k:Nat} {x1 x2 x3:Operand} {b clock:Nat} {es:Array MapEntry} {key:List Int} {val:Value} {ks vs:List AV} {Pr:Nat→Nat→Prop} (ho:o.op = .mapUpdate t x1 x2 x3)
  (fN:P.underlying t=some (.map kt el)) (hu:P.underlying kt=some (.struct fs)) (hk:iX P 10000 kt=some k) (h1:a.eval x1=.map (some b)) (h2:a.eval x2=.agg (dC key)) (h3:a.eval x3=val)
  (hb:w.heap[b]?=some (.map es clock)) (hl:key.length=k) (oU:ks.length=es.size) (U':vs.length=es.size) (VZ:∀i (h:i<ks.length)(h':i<es.size),RD Pr w ks[i] (es[i]).key) (CR:∀i (h:i<vs.length)(h':i<es.size),RD Pr w vs[i] (es[i]).val)
  (dp:ny key ks vs=some none):(execOp a.eval o).run P w=.ok .skip (w.putObj b (.map (es.push { key:=.agg (dC key),val:=val,born:=clock }) (clock+1))):=by
 have oN:(match P.underlying kt with|some (.array _ _)|some (.struct _)=>true|_=>false)=true:=by rw[hu]
 have rM:=mX (P:=P) (w:=w) false 10000 kt k hk key hl;simp only[encI,hu]at rM;obtain⟨q,q1,q2⟩:=kg (w:=w) (Pr:=Pr) hu hk key hl ks vs es.toList 0 none (by simpa using oU) (by simpa using U') (λj h h'=>by simpa using VZ j h (by simpa using h')) (λj h h'=>by simpa using CR j h (by simpa using h')) dp
 have hq:q=none:=by cases q with|none=>rfl|some p=>exact q2.elim
 subst hq;have tV:=(run_findKey_eq (P:=P) (w:=w) oN (.agg (dC key)) es.toList).trans q1;unfold execOp;simp only[ho,h1,h2,h3,Instr.mapUpdate,Sem.run_bind,run_underlying fN,Result.andThen_ok,MapKept.run_getObj_map hb,rM,tV,MapKept.run_setObj_map _ hb]
 rfl
end
section
variable{P:Program}{GI:World->Prop}{n m:Nat}{a:Act}{w w0:World}{Q:Exit->Act->World->Prop}{g:Gh}{S:af}{H:ah}{ro:Option Nat}
def mW (R:Rel P w0 n bp g S H a w) (hG:av GI) (db:GI w0) {ops:Array Oper} {p:Nat} {l2:List Nat} (hr:List.range ops.size=List.range p++l2) (cT:ops.all (fun o=>cG o.op)=true) (bo:((aO P n false ops).take p).all (·.ok n)=true)
  {l:List bc} (hl:(aO P n false ops).take p=l) (hpn:p<=ops.size) {W:Nat->Bool} (hW:fy ops W=true) (bC:∀d,¬g.old.bx d) {K:af->ah->Prop} (h:aV P GI l K (λ_=>False) S H)
  (hk:∀g' S' H' a' w',g'.old=g.old->Rel P w0 n bp g' S' H' a' w'->K S' H'->dV W a a'->wpOpsIn (FR ro) m P ops Q l2 a' w') {id:Nat}:(Code.region id ops false).wpIn (FR ro) m P Q a w:=by
 refine wpIn_region ?_;rw[hr];subst hl
 have key:=lT hG db (old:=g.old) (ops:=ops) (Q:=az K) (S0:=S) (H0:=H) (List.range p) (ops.toList.take p) g S H a w (by
   apply List.ext_getElem?;intro i;simp only[List.getElem?_map,List.getElem?_take]
   by_cases hi:i<p
   .have:i<ops.size:=by omega
    simp[hi,this]
   .simp[hi]) (λo ic=>by
    simp only[aO,<-List.map_take,List.all_map,List.all_eq_true,Function.comp]at bo
    exact bo o ic) (λ_ _ d _=>bC d) rfl R (by
    simp only[aO,<-List.map_take]at h
    exact h)
 refine eX (Q1:=tI W a (QQ P w0 n g.old (az K))) (λe a w bt hq=>?_) (λa' w' hq=>?_) _ _ _ (fm hW _ _ _ (km cT ki _ _ _ key))
 .cases e with
  |normal=>exact absurd rfl bt
  |exit id=>obtain⟨_,_,_,_,_,h⟩:=hq;exact h.elim
  |ret=>obtain⟨_,_,_,_,_,h⟩:=hq;exact h.elim
  |panic ch=>obtain⟨_,_,_,_,_,_,_,_,_,_,h⟩:=hq;exact h.elim
  |goto l=>exact hq.elim
  |outgrown=>exact hq.elim
 .obtain⟨⟨g',S',H',h1,h2,h3⟩,h4⟩:=hq;exact hk g' S' H' a' w' h1 h2 h3 h4
def qR {o:Oper} {s el:TypeId} {len:Nat} {i:TypeInfo} {x1 x2:Operand} {b off k:Nat} (ho:o.op = .indexAddr s x1 x2) (hs:P.underlying s=some (.array len el)) (hi:P.info? el=some i)
  (h1:a.eval x1=.pointer (some ⟨b,off,none⟩)) (h2:a.eval x2=.int .i64 k) (hk:k<len):(execOp a.eval o).run P w=.ok (.value (.pointer (some ⟨b,off+k*i.size,none⟩))) w:=by
 have HK:(0:Int)<=k:=by omega
 have oU:(k:Int)<len:=by omega
 simp[execOp,ho,h1,h2,Instr.indexAt,asIntOf,run_underlying hs,HK,oU,sizeOf,typeInfo,hi,Addr.add_lit,hk,Instr.sureAddr]
def w_ {o:Oper} {cl:Call} {f:Operand} {k:Nat} {first cap:Array Value} (w:World) (ho:o.op = .call cl) (hc:cl.callee = .value f) (hf:a.eval f = .func (.func k) first cap) (hk:dW P k=true) :
  (execOp a.eval o).run P w=.ok (.enter k (first++cl.args.map a.eval++cap)) w:=by
 unfold execOp;simp[ho,dX hc,hf,Deferred.ofValue,invoke,eV hk]
def sf {o:Oper} {t:TypeId} {d:TypeDesc} {x:Operand} {b off:Nat} {v:Value} {vs:Array Value} {ty:TypeId} (ho:o.op = .load t x) (hx:a.eval x = .pointer (some ⟨b,off,none⟩)) (hd:P.underlying t=some d) (sX:fE d=false) (hb:w.heap[b]? = some (.cells vs ty (0,0))) (hv:vs[off]? = some v) :
  (execOp a.eval o).run P w=.ok (.value v) w:=by
 refine gY ho hx hd sX ?_;simp[World.cell?,hb,hv]
def AI.keep{ops:Array Oper}{a0:Act}{val:Nat->Value}{l:Array Bool}(h:AI ops n a0 val l a){t:Nat}(ht:ops.all (λo=>o.dst !=some t)=true):a.tmps.getD t undef=a0.tmps.getD t undef:=
 h.old t λi o ho hd=>by
  have:=Array.all_eq_true'.1 ht o (Array.mem_of_getElem? ho);simp[hd]at this
def AI.at{ops:Array Oper}{a0:Act}{val:Nat->Value}{l:Array Bool}(h:AI ops n a0 val l a)(i t:Nat)(ho:∃o,ops[i]?=some o/\o.dst=some t)(hl:l.getD i false=true):a.tmps.getD t undef=val t:=by
 obtain⟨o,h1,h2⟩:=ho;exact h.Ly i o t h1 h2 hl
def As{fn:Func}{tmps:Array Value}{T t b:Nat}{u v:Value}{ty:TypeId}{fs:Array Field}{i:TypeInfo}(hr:fn.results=#[.cell t T])(h:tmps.getD t undef=.pointer (some ⟨b,0,none⟩))(hb:w.heap[b]?=some (.cells #[u,v] ty (0,0)))(hT:P.underlying T=some (.struct fs))(hi:P.info? T=some i)(hs:i.size=2):(results fn tmps).run P w=.ok (.agg #[u,v]) w:=by
 have h':tmps[t]?.getD undef=.pointer (some ⟨b,0,none⟩):=by rw[<-h];simp
 have kY:(isAgg T).run P w=.ok true w:=by
  unfold isAgg;rw[Sem.run_bind,run_underlying hT w]
  rfl
 have hl:(loadVar T ⟨b,0,none⟩).run P w=.ok (.agg #[u,v]) w:=by
  simp[loadVar,Sem.run_bind,kY,sizeOf,typeInfo,hi,hs,loadCells]
  have h0:w.cell? ⟨b,0,none⟩=some u:=by simp[World.cell?,hb]
  have h1:w.cell? ⟨b,1,none⟩=some v:=by simp[World.cell?,hb]
  simp[loadCellsFrom,Sem.run_bind,run_load,Addr.add_lit,h0,h1]
 simp[results,hr,h',asAddr,hl]
end
def dw.On{P:Program}{w w':World}{g:Gh}{loc:Loc}{v:AV}{c:Value}(h:dw P w g loc v c)(hk:∀b o,g.base<=b->w.heap[b]?=some o->w'.heap[b]?=some o):dw P w' g loc v c:=by
 unfold dw at*
 split at h
 .obtain⟨i,xs,b,h1,h2,h3,h4,h5⟩:=h;refine⟨i,xs,b,h1,?_,h3,h4,h5⟩;refine⟨h2.1,?_⟩
  rcases h2.2 with hn|⟨gg,cap,cur,rfl,gQ,sP,rest⟩
  .exact .inl hn
  .exact .inr ⟨gg,cap,cur,rfl,gQ,hk gg _ gQ sP,rest⟩
 .trivial
def ib(wS w':World)(b:Nat)(o:Obj):World:={ w' with heap:=wS.heap.setIfInBounds b o }
section
variable{P:Program}{GI:World->Prop}{n m:Nat}{a:Act}{w w0:World}{Q:Exit->Act->World->Prop}{g:Gh}{S:af}{H:ah}{ro:Option Nat}
def Rel.DD(R:Rel P w0 n bp g S H a w){w':World}{bM:Nat}{o:Obj}(ht:dG (λb=>b=bM) w w')(ao:bM<g.base)(dp:∀k,¬g.old.c bM k)(ho:w'.heap[bM]?=some o):Rel P (ib w0 w' bM o) n bp g S H a w':=by
 have hb:=R.base
 have LV:∀b ob,g.base<=b->w.heap[b]?=some ob->w'.heap[b]?=some ob:=λb ob gQ h=>by
  rw[ht.block b (Array.getElem?_eq_some_iff.1 h).1 (by omega)];exact h
 have hK:aE g.Pr g.Pr w w':=aE.jj λb k hl hp=>ht.block b hl (by
  rintro rfl;rcases hp with hp|hp
  .exact dp k hp.2
  .omega)
 have qn:∀b,b<g.base->(ib w0 w' bM o).heap[b]?=w'.heap[b]?:=λb gQ=>by
  by_cases HN:b=bM
  .subst HN;rw[ho];simp[ib,<-hb,gQ]
  .have h1:w.heap[b]?=w0.heap[b]?:=R.below.block b gQ;have h2:=ht.block b (by have:=R.below.size;omega) HN;simp only[ib,Array.getElem?_setIfInBounds_ne (Ne.symm HN)];rw[h2,h1]
 refine{ size:=R.size,defers:=R.defers,facts:=λp hp=>(R.facts p hp).mono hK λ_ _ h=>h,slot:=λt ht hu=>(R.slot t ht hu).mono hK λ_ _ h=>h,own:=λt ht hu=>(R.own t ht hu).On LV,box:=?_,jt:=R.jt,jq:=R.jq,inj:=R.inj,base:=by simp[ib,hb],below:=?_,fresh:=λb hb=>R.fresh b (Nat.le_trans ht.size hb),still:=R.still.trans hK,grown:=Nat.le_trans R.grown ht.size,kept:=?_ }
 .intro i b hi;obtain⟨cs,vs,ty,h1,h2,h3,h4,h5,h6,h7,h8,h9⟩:=R.box i b hi;exact⟨cs,vs,ty,h1,h2,LV b _ h2 h3,h4,h5,h6,λj hj dJ=>(h7 j hj dJ).mono hK,λj hj dJ=>(h8 j hj dJ).On LV,h9⟩
 .refine⟨rfl,rfl,rfl,?_,λb gQ=>(qn b gQ).symm⟩;have:=R.below.size;have:=ht.size
  have:(ib w0 w' bM o).heap.size=w0.heap.size:=by simp[ib]
  omega
 .intro b ob h;obtain⟨q1,q2,q3,q4,q5⟩:=R.kept b ob h;exact⟨q1,LV b ob q1 q2,q3,q4,q5⟩
def ui (R:Rel P w0 n bp g S H a w) (hG:av GI) (db:GI w0) {ops:Array Oper} {l2:List Nat} {lS:List Oper} (oL:l2.map (ops[·]?)=lS.map some) (cT:ops.all (fun o=>cG o.op)=true) {al:List bc} (fu:lS.map (aW P n false ops)=al) (bo:al.all (·.ok n)=true)
  {W:Nat->Bool} (hW:fy ops W=true) (bC:∀d,¬g.old.bx d) {K:af->ah->Prop} (h:aV P GI al K (λ_=>False) S H)
  (hk:∀g' S' H' a' w',g'.old=g.old->Rel P w0 n bp g' S' H' a' w'->K S' H'->dV W a a'->Q .normal a' w'):wpOpsIn (FR ro) m P ops Q l2 a w:=by
 subst fu
 have key:=lT hG db (old:=g.old) (ops:=ops) (Q:=az K) (S0:=S) (H0:=H) l2 lS g S H a w oL (fun o ic=>by
    simp only[List.all_map,List.all_eq_true,Function.comp]at bo
    exact bo o ic) (λ_ _ d _=>bC d) rfl R h
 refine eY (λe a' w' hq=>?_) _ _ _ (fm hW _ _ _ (km (ro:=ro) (m:=m) cT ki _ _ _ key))
 cases e with
 |normal=>
  obtain⟨⟨g',S',H',h1,h2,h3⟩,h4⟩:=hq;exact hk g' S' H' a' w' h1 h2 h3 h4
 |exit id=>obtain⟨_,_,_,_,_,h⟩:=hq;exact h.elim
 |ret=>obtain⟨_,_,_,_,_,h⟩:=hq;exact h.elim
 |panic ch=>obtain⟨_,_,_,_,_,_,_,_,_,_,h⟩:=hq;exact h.elim
 |goto l=>exact hq.elim
 |outgrown=>exact hq.elim
def rI{κ:Type}[BEq κ][LawfulBEq κ]{k:κ}:∀{l:List (κ×Value)}{i:Nat},(∀x∈l,x.1≠k)->j3 k l i=none
 |[],_,_=>rfl
 |(k',v)::l,i,h=>by
  have h1:k'≠k:=h (k',v) (by simp);unfold j3;rw[if_neg (by simpa using Ne.symm h1)]
  exact rI λx hx=>h x (List.mem_cons_of_mem _ hx)
def tz{κ:Type}[BEq κ][LawfulBEq κ]{k:κ}:∀{l:List (κ×Value)}{i j:Nat}{v:Value},j3 k l i=some (j,v)->(k,v)∈l
 |[],_,_,_,h=>by cases h
 |(k',v')::l,i,j,v,h=>by
  unfold j3 at h;split at h
  .rename_i hk
   have:k=k':=by simpa using hk
   subst this;cases h;simp
  .exact List.mem_cons_of_mem _ (tz h)
def vV{κ:Type}[BEq κ][LawfulBEq κ]{k:κ}:∀{l:List (κ×Value)}{i:Nat},j3 k l i=none->∀x∈l,x.1≠k
 |[],_,_,x,hx=>by cases hx
 |(k',v')::l,i,h,x,hx=>by
  unfold j3 at h;split at h
  .cases h
  .rename_i hk;rcases List.mem_cons.1 hx with rfl|hx
   .intro he;apply hk;simpa using he.symm
   .exact vV h x hx
end
section
variable{P:Program}{GI:World->Prop}{n m:Nat}{a:Act}{w:World}{Q:Exit->Act->World->Prop}{S:af}{ro:Option Nat}
def F1 {P:Program} {w:World} {bN k:Nat} {el:TypeId} {sz:Nat} {v:Value} {xs last:List Value} (cC:w.ownsRow (bN+1) el sz v (k+1) (xs++last)) (iY:xs.length=k * sz) :
  ∃g cap,v=.slice (some ⟨g,0,none⟩) (k+1) cap/\k<=cap/\w.ownsRow (bN+1) el sz (.slice (some ⟨g,0,none⟩) k cap) k xs:=by
 obtain⟨_,h2⟩:=cC
 rcases h2 with⟨_,h⟩|⟨g',s_,cur,hv,hg,hh,hn,eu,aL,oq⟩
 .omega
 .refine⟨g',s_,hv,by omega,iY,.inr ⟨g',s_,cur,rfl,hg,hh,by omega,eu,aL,?_⟩⟩
  have h3:(cur.toList.take ((k+1)*sz)).take (k*sz)=(xs++last).take (k*sz):=by rw[oq]
  rw[List.take_take,Nat.min_eq_left (Nat.mul_le_mul_right _ (by omega))]at h3;rw[h3,<-iY,List.take_left]
end
section
variable{P:Program}{n m:Nat}{a:Act}{w:World}{Q:Exit->Act->World->Prop}{ro:Option Nat}
def Bb {ops:Array Oper} {i:Nat} {rest:List Nat} {o:Oper} (ho:ops[i]? = some o) (hg:o.guard=none) (cT:cG o.op=true) {v:Value} {w':World}
  (hr:(execOp a.eval o).run P w=.ok (.value v) w') (h:wpOpsIn (FR ro) m P ops Q (i::rest) a w):wpOpsIn (FR ro) m P ops Q rest (a.put o.dst v) w':=by
 simp only[wpOpsIn,ho]at h
 have:Region.wanted o (yielded ops a.tmps)=true:=by simp[Region.wanted,hg]
 rw[if_pos this]at h;have h2:=h.2;rw[Oper.semAt_eq _ _ _ (λc hc=>by rw[hc]at cT;cases cT),hr]at h2;exact h2
def L4{a:Act}{d e:Nat}{u v:Value}(h:d≠e):(a.put (some d) u).put (some e) v=(a.put (some e) v).put (some d) u:=by
 simp[Act.put,Array.setIfInBounds_comm _ _ h]
def EO {ops:Array Oper} {i j:Nat} {rest:List Nat} {oi oj:Oper} {d e:Nat} {u v:Value} (hi:ops[i]? = some oi) (hj:ops[j]? = some oj) (gi:oi.guard=none) (gj:oj.guard=none) (ci:cG oi.op=true) (cj:cG oj.op=true) (di:oi.dst=some d) (dj:oj.dst=some e) (hde:d≠e)
  (ri:(execOp a.eval oi).run P w=.ok (.value u) w) (rj:(execOp (a.put (some d) u).eval oj).run P w=.ok (.value v) w) (ri':(execOp (a.put (some e) v).eval oi).run P w=.ok (.value u) w)
  (h:wpOpsIn (FR ro) m P ops Q (i::rest) (a.put (some e) v) w):wpOpsIn (FR ro) m P ops Q (i::j::rest) a w:=by
 refine aT hi gi ci ri ?_;rw[di];refine aT hj gj cj rj ?_;rw[dj,L4 hde];have:=Bb hi gi ci ri' h;rw[di]at this;exact this
def EB {ops:Array Oper} {l2:List Nat} {lS:List Oper} (oL:l2.map (ops[·]?)=lS.map some) (cT:ops.all (fun o=>cG o.op)=true) {al:List bc} (fu:lS.map (aW P n false ops)=al) (bo:al.all (·.ok n)=true) {W:Nat→Bool} (hW:fy ops W=true) (pr:Nat→Nat→Prop) (S:af)
  {bN nm tp:Nat} {v:Value} {e ty:TypeId} {i:TypeInfo} {es es':List AV} {xs:List Value} (Im:tp<n) (Uc:W tp=false) (NM:a.tmps.getD tp undef=.pointer (some ⟨bN,0,none⟩)) (aL:a.tmps.size=n) (c_:a.defers=[])
  (hN:w.heap[bN]?=some (.cells #[v] ty (0,0))) (hi:P.info? e=some i) (cC:w.ownsRow (bN+1) e i.size v es.length xs) (hf:iN (λb k=>b<bN/\pr b k) w i.size es xs)
  (hS:∀t,t<n->(S t).aw=S t/\((S t=.box nm 0/\a.tmps.getD t undef=.pointer (some ⟨bN,0,none⟩))\/RV (λb k=>b<bN/\pr b k) bO w (S t) (a.tmps.getD t undef)))
  (h:aV P (λ_=>True) al (λS' H'=>S' tp=.box nm 0/\H' nm=some [.slice (.own e) es']) (λ_=>False) S (λj=>if j=nm then some [kq e v es]else none))
  (kz:∀x∈es',x.cells.length=i.size/\x.storable=true/\∀c∈x.cells,c.one=true) (DH:∀x∈es',∀c∈x.cells,gf c=true)
  (hk:∀a' w' v' rv j2,a'.tmps.size=n->a'.defers=[]->dV W a a'->w'.heap[bN]?=some (.cells #[v'] rv (0,0))->w'.ownsRow (bN+1) e i.size v' es'.length j2->iN (λ_ _=>False) w' i.size es' j2->
   dG (λb=>b=bN\/v.ownBlock=some b) w w'->(∀b,v'.ownBlock=some b->v.ownBlock=some b\/w.heap.size<=b)->Q .normal a' w'):wpOpsIn (FR ro) m P ops Q l2 a w:=by
 subst fu;obtain⟨g,xT,lE,PR,R⟩:=Rel.stack (P:=P) (nm:=nm) (S:=S) (a:=a) pr aL c_ hN hi cC hf hS;have ao:=(Array.getElem?_eq_some_iff.1 hN).1
 have fin:∀e1 a' w',tI W a (QQ P { w with heap:=w.heap.extract 0 bN } n (jL pr w bN v) (az λS' H'=>S' tp=.box nm 0/\H' nm=some [.slice (.own e) es'])) e1 a' w'->Q e1 a' w':=by
  intro e1 a' w' hq
  cases e1 with
  |normal=>
   obtain⟨⟨g',S',H',h1,h2,h3⟩,h4⟩:=hq
   have rE:g'.base=bN:=by rw[h2.base];simp;omega
   have fu:g'.al nm=some bN:=by
    have hs:=h2.slot tp Im (λhh=>hh);rw[h3.1,h4 tp Uc,NM]at hs
    cases hs with
    |data _ _ h=>cases h
    |box _ _ b h=>exact h
   obtain⟨v',rv,j2,k1,k2,k3,k4,k5⟩:=Rel.B5 (w:=w) pr hi h2 h1 rE (λb hb=>by
    show(w.heap.extract 0 bN)[b]?=w.heap[b]?
    rw[Array.getElem?_extract,if_pos (by omega),Nat.zero_add]) fu h3.2 kz DH
   have l8:=h2.grown;rw[h1]at l8;refine hk a' w' v' rv j2 h2.size (by rw[h2.defers,h1];rfl) h4 k1 k2 k3 ⟨h2.below.os,h2.below.tape,h2.below.output,l8,λb hb hM=>?_⟩ k5;exact k4 b hb (λh=>hM (.inl h)) (λh=>hM (.inr h))
  |exit id=>obtain⟨_,_,_,_,_,h⟩:=hq;exact h.elim
  |ret=>obtain⟨_,_,_,_,_,h⟩:=hq;exact h.elim
  |panic ch=>obtain⟨_,_,_,_,_,_,_,_,_,_,h⟩:=hq;exact h.elim
  |goto l=>exact hq.elim
  |outgrown=>exact hq.elim
 have key:=lT (GI:=fun _=>True) (fun _ _ _ _=>trivial) trivial (old:=jL pr w bN v) (ops:=ops) (Q:=az fun S' H'=>S' tp = .box nm 0∧H' nm=some [.slice (.own e) es']) (S0:=S) (H0:=fun j=>if j=nm then some [kq e v es] else none) l2 lS g S _ a w oL (fun o ic=>by
    simp only[List.all_map,List.all_eq_true,Function.comp]at bo
    exact bo o ic) (λ_ _ _ _ h=>h) xT R h
 exact eY fin _ _ _ (fm hW _ _ _ (km (ro:=ro) (m:=m) cT ki _ _ _ key))
def Ju(P:Program)(t j:Nat):Option (Nat×Nat):=match P.underlying t with
 |some (.struct fs)=>match fs[j]? with
  |some f=>match P.info? f.type with
   |some i=>some (f.offset,i.size)
   |none=>none
  |none=>none
 |_=>none
def qP{o:Oper}{s j JE sz:Nat}{x:Operand}{b off:Nat}(h:Ju P s j=some (JE,sz))(hz:sz≠0)(ho:o.op=.fieldAddr s x j)(hx:a.eval x=.pointer (some ⟨b,off,none⟩)):(execOp a.eval o).run P w=.ok (.value (.pointer (some ⟨b,off+JE,none⟩))) w:=by
 unfold Ju at h;split at h
 .rename_i fs lM;split at h
  .rename_i f hf;split at h
   .rename_i i hi;simp only[Option.some.injEq,Prod.mk.injEq]at h;obtain⟨rfl,rfl⟩:=h;exact xY ho lM hf hi hz hx
   .cases h
  .cases h
 .cases h
def FL{Pr:Nat->Nat->Prop}{es:List AV}{c:Value}(h:RD Pr w (.slice .view es) c):∃ad cap,c=.slice ad es.length cap:=by
 cases h with
 |fH=>exact⟨_,_,rfl⟩
 |slice _ _ b off cap size cs eu hn aL h1 hc hr=>exact⟨_,_,rfl⟩
 |iG _ a=>exact⟨_,_,rfl⟩
end
section
variable{P:Program}{GI:World->Prop}{n m:Nat}{a:Act}{w:World}{Q:Exit->Act->World->Prop}{ro:Option Nat}
def kf(o:Oper):List Nat:=(o.after.toList.filter (Region.binds .any ·)).map (·.on)
def Co(ops:Array Oper):Nat->List Nat->List Nat
 |0,s=>s
 |k+1,s=>Co ops k (if s.contains k then s++((ops[k]?).map kf).getD []else s)
def tf{ops:Array Oper}{L:Nat->Prop}:∀(n:Nat),(∀k,k<n->∀o,ops[k]?=some o->L k->∀y∈kf o,L y)->∀s,(∀y∈s,L y)->∀y∈Co ops n s,L y
 |0,_,s,hs,y,hy=>hs y hy
 |k+1,h,s,hs,y,hy=>by
  refine tf k (λk' eG=>h k' (by omega)) _ (λz hz=>?_) y hy;split at hz
  .rename_i hc;rcases List.mem_append.1 hz with hz|hz
   .exact hs z hz
   .cases ho:ops[k]? with
    |none=>rw[ho]at hz;cases hz
    |some o=>
     rw[ho]at hz;exact h k (by omega) o ho (hs k (by simpa using hc)) z hz
  .exact hs z hz
def Ck(ops:Array Oper)(p:Nat):Bool:=
 decide (p<=ops.size)&&(ops.extract 0 p).all (λo=>match o.guard with|none=>true|some (j,_)=>decide (j<p))&&
 (List.range ops.size).all (λi=>((ops[i]?).map λo=>if i<p then(kf o).all (λy=>decide (y<i))else let c:=Co ops i (kf o);(List.range p).all λj=>c.contains j).getD true)&&
 jF ops (ops.size-p) p ((List.range ops.size).map λi=>decide (i<p)).toArray
def tr{F:Fence}{ops:Array Oper}(x:Nat):∀(k i:Nat)(l:Array Bool)(a:Act)(w:World),jF ops k i l=true->wpOpsIn F m P ops Q (List.range' i k) a w->wpAnyIn F m P .any ops Q (x+k) l a w
 |0,i,l,a,w,h,hh=>by
  have h0:Region.ready .any ops l=[]:=by simpa[jF]using h
  cases x with
  |zero=>exact⟨h0,hh⟩
  |succ x=>exact⟨λ_=>hh,λi hi=>by rw[h0]at hi;cases hi⟩
 |k+1,i,l,a,w,h,hh=>by
  simp only[jF,Bool.and_eq_true,beq_iff_eq]at h;refine⟨λhr=>(by rw[hr]at h;cases h.1),λj hj=>?_⟩;rw[h.1,List.mem_singleton]at hj;subst hj;simp only[List.range'_succ]at hh;rw[wpOpsIn_cons]at hh;exact wpOpIn_mono (λa w hq=>tr x k _ _ a w h.2 hq) hh
structure FF(ops:Array Oper)(p:Nat)(la l:Array Bool):Prop where
 zJ:la.size=p
 sl:l.size=ops.size
 front:∀i,i<p->l[i]?=la[i]?
 back:∀i,p<=i->i<ops.size->l[i]?=some false
 closed:∀(i:Nat)(o:Oper),ops[i]?=some o->l.getD i false=true->∀y∈kf o,l.getD y false=true
section
variable{ops:Array Oper}{p:Nat}{la l:Array Bool}(hp:p<=ops.size)
 (hw:∀i o,ops[i]?=some o->if i<p then∀e∈o.after,Region.binds .any e=true->e.on<i else∀j,j<p->j∈Co ops i (kf o))
include hp hw
def E0(h:FF ops p la l){j:Nat}(hj:j<p)(px:la[j]?=some false):Region.ready .any ops l=Region.ready .any (ops.extract 0 p) la:=by
 unfold Region.ready
 have aL:(ops.extract 0 p).size=p:=by simp;omega
 rw[aL]
 have hr:List.range ops.size=List.range p++List.range' p (ops.size-p):=by
  rw[List.range_eq_range',List.range_eq_range'];have:=List.range'_append_1 (s:=0) (m:=p) (n:=ops.size-p);rw[Nat.zero_add]at this;rw[this]
  congr 1;omega
 rw[hr,List.filter_append]
 have hb:(List.range' p (ops.size-p)).filter (λi=>!l.getD i true&&((ops[i]?).map (·.after.all λe=>!Region.binds .any e||l.getD e.on false)).getD false)=[]:=by
  rw[List.filter_eq_nil_iff];intro i hi;have hi:=List.mem_range'_1.1 hi;have xS:p<=i:=hi.1
  have rF:i<ops.size:=by omega
  have ho:ops[i]?=some ops[i]:=Array.getElem?_eq_getElem rF;have nF:=hw i _ ho;rw[if_neg (by omega)]at nF;rw[ho];simp only[Option.map_some,Option.getD_some,Bool.and_eq_true,not_and];intro _ eP;have eP:=Array.all_eq_true'.1 eP
  have hL:=tf (L:=λy=>l.getD y false=true) (ops:=ops) i (λk _ o ho hLk=>h.closed k o ho hLk) (kf ops[i]) (λy hy=>by
   simp only[kf,List.mem_map,List.mem_filter,Array.mem_toList_iff]at hy;obtain⟨e,⟨he,wG⟩,rfl⟩:=hy
   simpa[wG]using eP e he) j (nF j hj)
  rw[Array.getD_eq_getD_getElem?,h.front j hj,px]at hL;cases hL
 rw[hb,List.append_nil]
 refine List.filter_congr λi hi=>?_
 have hi:=List.mem_range.1 hi;have ho:ops[i]?=some (ops[i]'(by omega)):=Array.getElem?_eq_getElem (by omega);have nF:=hw i _ ho;rw[if_pos hi]at nF
 have IU:(ops.extract 0 p)[i]?=ops[i]?:=by
  rw[Array.getElem?_extract]
  have:i<min p ops.size-0:=by omega
  rw[if_pos this,Nat.zero_add]
 rw[IU,ho];simp only[Option.map_some,Option.getD_some,Array.getD_eq_getD_getElem?,h.front i hi]
 congr 1
 rw[Bool.eq_iff_iff,Array.all_eq_true',Array.all_eq_true']
 refine forall_congr' λe=>forall_congr' λhe=>?_
 cases wG:Region.binds .any e with
 |false=>simp
 |true=>
  have:=nF e he wG;rw[h.front e.on (by omega)]
def rZ(h:FF ops p la l){j:Nat}(hj:j<p)(px:la[j]?=some false):Region.ready .any (ops.extract 0 p) la≠[]:=by
 have aL:(ops.extract 0 p).size=p:=by simp;omega
 have ex:∃j,j<p/\la[j]?=some false/\∀i,i<j->la[i]?=some true:=by
  induction j using Nat.strongRecOn with
  |_ j ih=>
   by_cases hx:∃i,i<j/\la[i]?=some false
   .obtain⟨i,hi,Xc⟩:=hx;exact ih i hi (by omega) Xc
   .refine⟨j,hj,px,λi hi=>?_⟩
    have ec:i<la.size:=by rw[h.zJ];omega
    rw[Array.getElem?_eq_getElem ec]
    cases hb:la[i]with
    |true=>rfl
    |false=>exact absurd ⟨i,hi,by rw[Array.getElem?_eq_getElem ec,hb]⟩ hx
 obtain⟨j,hj,px,FE⟩:=ex;intro nk
 have:j∈Region.ready .any (ops.extract 0 p) la:=by
  unfold Region.ready;rw[List.mem_filter];refine⟨List.mem_range.2 (by omega),?_⟩;have ho:ops[j]?=some (ops[j]'(by omega)):=Array.getElem?_eq_getElem (by omega);have nF:=hw j _ ho;rw[if_pos hj]at nF
  have IU:(ops.extract 0 p)[j]?=ops[j]?:=by
   rw[Array.getElem?_extract]
   have:j<min p ops.size-0:=by omega
   rw[if_pos this,Nat.zero_add]
  rw[IU,ho];simp only[Option.map_some,Option.getD_some,Bool.and_eq_true,Array.getD_eq_getD_getElem?,px,Bool.not_false,true_and];rw[Array.all_eq_true'];intro e he
  cases wG:Region.binds .any e with
  |false=>rfl
  |true=>
   rw[FE e.on (nF e he wG)];rfl
 rw[nk]at this;cases this
def GO {F:Fence} (hg:(ops.extract 0 p).all (fun o=>match o.guard with | none=>true | some (j,_)=>decide (j < p))=true) (v_:jF ops (ops.size - p) p ((List.range ops.size).map fun i=>decide (i < p)).toArray=true):∀ (k:Nat) (la l:Array Bool) (a:Act) (w:World),FF ops p la l →
  wpAnyIn F m P .any (ops.extract 0 p) (Ap (wpOpsIn F m P ops Q (List.range' p (ops.size-p))) Q) k la a w->wpAnyIn F m P .any ops Q (k+(ops.size-p)) l a w:=by
 have aL:(ops.extract 0 p).size=p:=by simp;omega
 have final:∀(k:Nat)(la l:Array Bool)(a:Act)(w:World),FF ops p la l->(¬∃j,j<p/\la[j]?=some false)->wpOpsIn F m P ops Q (List.range' p (ops.size-p)) a w->wpAnyIn F m P .any ops Q (k+(ops.size-p)) l a w:=by
  intro k la l a w h eP hh
  have hl:l=((List.range ops.size).map λi=>decide (i<p)).toArray:=by
   apply Array.ext_getElem?;intro i
   by_cases hi:i<ops.size
   .simp only[List.getElem?_toArray,List.getElem?_map,List.getElem?_range hi,Option.map_some]
    by_cases oW:i<p
    .rw[h.front i oW]
     have ec:i<la.size:=by rw[h.zJ];omega
     rw[Array.getElem?_eq_getElem ec]
     cases hb:la[i]with
     |true=>simp[oW]
     |false=>exact absurd ⟨i,oW,by rw[Array.getElem?_eq_getElem ec,hb]⟩ eP
    .rw[h.back i (by omega) hi];simp[oW]
   .have C':=h.sl;rw[Array.getElem?_eq_none (by omega),Array.getElem?_eq_none (by simp;omega)]
  rw[hl];exact tr k _ _ _ a w v_ hh
 intro k
 induction k with
 |zero=>
  intro la l a w h hh;refine final 0 la l a w h ?_ hh.2;rintro⟨j,hj,px⟩;exact rZ hp hw h hj px hh.1
 |succ k ih=>
  intro la l a w h hh
  by_cases eP:∃j,j<p/\la[j]?=some false
  case neg=>
   have h0:Region.ready .any (ops.extract 0 p) la=[]:=by
    unfold Region.ready;rw[List.filter_eq_nil_iff];intro i hi;have hi:=List.mem_range.1 hi
    have ec:i<la.size:=by rw[h.zJ];omega
    cases hb:la[i]with
    |true=>simp[Array.getD_eq_getD_getElem?,Array.getElem?_eq_getElem ec,hb]
    |false=>exact absurd ⟨i,by omega,by rw[Array.getElem?_eq_getElem ec,hb]⟩ eP
   exact final (k+1) la l a w h eP (hh.1 h0)
  obtain⟨j,hj,px⟩:=eP;have h1:=rZ hp hw h hj px;have h2:=E0 hp hw h hj px;rw[show k+1+(ops.size-p)=(k+(ops.size-p))+1 by omega];refine⟨λhr=>absurd (h2▸hr) h1,λi hi=>?_⟩
  have cy:i∈Region.ready .any (ops.extract 0 p) la:=by rw[<-h2];exact hi
  have oW:i<p:=by
   have:=List.mem_range.1 (List.mem_filter.1 cy).1;omega
  have hI:FF ops p (la.setIfInBounds i true) (l.setIfInBounds i true):=by
   have Ru:∀o,ops[i]?=some o->∀y∈kf o,l.getD y false=true:=λo ho y hy=>by
    obtain⟨_,o',kZ,eP⟩:=mem_ready.1 hi;rw[ho]at kZ;cases kZ;simp only[kf,List.mem_map,List.mem_filter,Array.mem_toList_iff]at hy;obtain⟨e,⟨he,wG⟩,rfl⟩:=hy;exact eP e he wG
   have pG:∀y,l.getD y false=true->(l.setIfInBounds i true).getD y false=true:=λy hy=>by
    rw[Array.getD_eq_getD_getElem?,Array.getElem?_setIfInBounds]
    by_cases Ra:i=y
    .subst Ra;rw[Array.getD_eq_getD_getElem?]at hy;split
     .split
      .rfl
      .rename_i h1 h2;rw[Array.getElem?_eq_none (by omega)]at hy;cases hy
     .exact hy
    .rw[if_neg Ra,<-Array.getD_eq_getD_getElem?];exact hy
   refine⟨by simpa using h.zJ,by simpa using h.sl,λq hq=>?_,λq hq L1=>?_,λq o ho hLq y hy=>?_⟩
   .rw[Array.getElem?_setIfInBounds,Array.getElem?_setIfInBounds,h.front q hq];have e1:=h.zJ;have e2:=h.sl
    by_cases AT:i=q
    .subst AT;rw[if_pos rfl,if_pos rfl,if_pos (by omega),if_pos (by omega)]
    .rw[if_neg AT,if_neg AT]
   .rw[Array.getElem?_setIfInBounds,if_neg (by omega)];exact h.back q hq L1
   .by_cases AT:q=i
    .subst AT;exact pG y (Ru o ho y hy)
    .refine pG y (h.closed q o ho ?_ y hy);rw[Array.getD_eq_getD_getElem?,Array.getElem?_setIfInBounds,if_neg (Ne.symm AT),<-Array.getD_eq_getD_getElem?]at hLq;exact hLq
  have hs:=hh.2 i cy;unfold wpOpIn at hs⊢
  have j6:∀i,i<p->(ops.extract 0 p)[i]?=ops[i]?:=λi oW=>by
   rw[Array.getElem?_extract]
   have:i<min p ops.size-0:=by omega
   rw[if_pos this,Nat.zero_add]
  have Ja:=j6 i oW;rw[Ja]at hs
  cases ho:ops[i]? with
  |none=>rw[ho]at hs;exact ih _ _ a w hI hs
  |some o=>
   rw[ho]at hs Ja
   have hw:Region.wanted o (yielded (ops.extract 0 p) a.tmps)=Region.wanted o (yielded ops a.tmps):=by
    have:=Array.all_eq_true'.1 hg o (Array.mem_of_getElem? Ja);unfold Region.wanted
    cases ly:o.guard with
    |none=>rfl
    |some q=>
     obtain⟨j,b⟩:=q;rw[ly]at this;simp only[decide_eq_true_eq]at this;simp only[yielded,j6 j this]
   simp only[hw]at hs;simp only;split
   .rename_i L0;rw[if_pos L0]at hs;exact Oper.wpIn_mono (λa w hq=>ih _ _ a w hI hq) (tM hs)
   .rename_i L0;rw[if_neg L0]at hs;exact⟨hs.1,ih _ _ _ w hI hs.2⟩
end
def I1 (hm:P.follows .mixedOrders=true) {F:Fence} {id p:Nat} {ops:Array Oper} {a:Act} {w:World} (h:Ck ops p=true)
  (hh:wpAnyIn F m P .any (ops.extract 0 p) (Ap (wpOpsIn F m P ops Q (List.range' p (ops.size-p))) Q) p (Array.replicate p false) a { w with drawn:=w.drawn+1 }):(Code.region id ops true).wpIn F m P Q a w:=by
 simp only[Ck,Bool.and_eq_true,decide_eq_true_eq]at h;obtain⟨⟨⟨h1,h2⟩,h3⟩,h4⟩:=h;refine wpIn_region_any hm ?_
 have:=GO (P:=P) (Q:=Q) (m:=m) h1 (λi o ho=>by
  have hi:=(Array.getElem?_eq_some_iff.1 ho).1;have:=List.all_eq_true.1 h3 i (List.mem_range.2 hi);rw[ho]at this;simp only[Option.map_some,Option.getD_some]at this;split
  .rename_i oW;rw[if_pos oW,List.all_eq_true]at this;intro e he hb
   have:=this e.on (by
    simp only[kf,List.mem_map,List.mem_filter,Array.mem_toList_iff]
    exact⟨e,⟨he,hb⟩,rfl⟩)
   simpa using this
  .rename_i oW;rw[if_neg oW]at this;intro j hj;have:=List.all_eq_true.1 this j (List.mem_range.2 hj)
   simpa using this) (F:=F) h2 h4 p (Array.replicate p false) (Array.replicate ops.size false) a _ ⟨by simp,by simp,λi hi=>by
    rw[Array.getElem?_replicate,Array.getElem?_replicate,if_pos (by omega),if_pos hi],λi hi cy=>by rw[Array.getElem?_replicate,if_pos cy],λi o ho hL=>by
    rw[Array.getD_eq_getD_getElem?,Array.getElem?_replicate]at hL
    split at hL<;>cases hL⟩ hh
 rwa [show p+(ops.size-p)=ops.size by omega]at this
def Is (hG:av GI) (hm:P.follows .mixedOrders=true) {id:Nat} {ops:Array Oper} {p:Nat} (ph:Ck ops p=true) (cT:(ops.extract 0 p).all (fun o=>cG o.op)=true) (bo:DW P n (ops.extract 0 p)=true)
  {l:List bc} (hl:aO P n true (ops.extract 0 p)=l) (kR:(ops.extract 0 p).size=p) {W:Nat->Bool} (hW:fy (ops.extract 0 p) W=true) (lg:GI w) (pr:Nat->Nat->Prop) (S:af)
  (aL:a.tmps.size=n) (c_:a.defers=[]) (hS:∀t,t<n->(S t).aw=S t/\RV pr bO w (S t) (a.tmps.getD t undef)) {K:af->ah->Prop}
  (h:cM P GI l K (dM l S) (cD l (λ_=>none)))
  (hk:∀g S' H' a' w',g.old=Old.plain pr w->Rel P w n bp g S' H' a' w'->K S' H'->dV W a a'->wpOpsIn (FR ro) m P ops Q (List.range' p (ops.size-p)) a' w'):
  (Code.region id ops true).wpIn (FR ro) m P Q a w:=by
 refine I1 hm ph ?_;have key:=jA (ro:=ro) (m:=m) (a:=a) (w:=w) hG lg hm (old:=Old.plain pr w) (ops:=ops.extract 0 p) (Q:=az K) cT bo (λ_ _ _ _ h=>h) rfl (Rel.Ce pr aL c_ hS) (by subst hl;exact h);rw[kR]at key;refine fp ?_ _ _ _ _ (fO hW _ _ _ _ key);intro e a' w' hq
 cases e with
 |normal=>
  obtain⟨⟨g',S',H',h1,h2,h3⟩,h4⟩:=hq;exact hk g' S' H' a' w' h1 h2 h3 h4
 |exit id=>obtain⟨_,_,_,_,_,h⟩:=hq;exact h.elim
 |ret=>obtain⟨_,_,_,_,_,h⟩:=hq;exact h.elim
 |panic ch=>obtain⟨_,_,_,_,_,_,_,_,_,_,h⟩:=hq;exact h.elim
 |goto l=>exact hq.elim
 |outgrown=>exact hq.elim
end
def RO{α:Type}(P:Program)(x:Sem α):Prop:=∀w r w',x.run P w=.ok r w'->w'=w
def NK{α:Type}(P:Program)(x:Sem α):Prop:=∀w r w',x.run P w≠.ok r w'
section
variable{P:Program}{α β:Type}
def RO.pure(a:α):RO P (Pure.pure a:Sem α):=λw r w' h=>by
 have:(Pure.pure a:Sem α).run P w=.ok a w:=rfl;rw[this]at h;cases h;rfl
def RO.bind{x:Sem α}{f:α->Sem β}(hx:RO P x)(hf:∀a,RO P (f a)):RO P (x >>= f):=λw r w' h=>by
 rw[Sem.run_bind]at h
 cases hr:x.run P w with
 |ok a w1=>
  rw[hr]at h;have h1:=hf a w1 r w' h;rw[h1,hx w a w1 hr]
 |halt e w1=>rw[hr]at h;cases h
def NK.ro{x:Sem α}(h:NK P x):RO P x:=λw r w' hh=>absurd hh (h w r w')
def NK.bind{x:Sem α}{f:α->Sem β}(hf:∀a,NK P (f a)):NK P (x >>= f):=λw r w' h=>by
 rw[Sem.run_bind]at h
 cases hr:x.run P w with
 |ok a w1=>rw[hr]at h;exact hf a w1 r w' h
 |halt e w1=>rw[hr]at h;cases h
def NK.UG{x:Sem α}{f:α->Sem β}(hx:NK P x):NK P (x >>= f):=λw r w' h=>by
 rw[Sem.run_bind]at h
 cases hr:x.run P w with
 |ok a w1=>exact hx w a w1 hr
 |halt e w1=>rw[hr]at h;cases h
def NK.halt(e:Halt):NK P (.halt e:Sem α):=λw r w' h=>by cases h
def RO.load(m:Mode)(a:Addr):RO P (.load m a .pure):=λw r w' h=>by
 simp only[Sem.run]at h;split at h
 .cases h;rfl
 .split at h
  .cases h;rfl
  .cases h
def RO.underlying(t:TypeId):RO P (Go.underlying t):=λw r w' h=>by
 simp only[Go.underlying,program]at h;rw[Sem.run_bind]at h;simp only[Sem.run,Result.andThen]at h;split at h
 .cases h;rfl
 .cases h
def RO.typeInfo(t:TypeId):RO P (Go.typeInfo t):=λw r w' h=>by
 simp only[Go.typeInfo,program]at h;rw[Sem.run_bind]at h;simp only[Sem.run,Result.andThen]at h;split at h
 .cases h;rfl
 .cases h
def RO.sizeOf(t:TypeId):RO P (Go.sizeOf t):=(RO.typeInfo t).bind λ_=>RO.pure _
def RO.isAgg(t:TypeId):RO P (Go.isAgg t):=(RO.underlying t).bind λd=>by split<;>exact RO.pure _
def RO.loadCellsFrom(a:Addr):∀(n i:Nat)(acc:Array Value),RO P (Go.loadCellsFrom a i n acc)
 |0,_,_=>RO.pure _
 |n+1,i,acc=>(RO.load _ _).bind λ_=>RO.loadCellsFrom a n _ _
def RO.loadVar(t:TypeId)(a:Addr):RO P (Go.loadVar t a):=by
 unfold Go.loadVar
 refine(RO.isAgg t).bind λb=>?_
 cases b
 .exact RO.load _ _
 .exact(RO.sizeOf t).bind λn=>(RO.loadCellsFrom a n 0 #[]).bind λ_=>RO.pure _
def RO.sureAddr(v:Value):RO P (Instr.sureAddr v):=by
 unfold Instr.sureAddr;split
 .exact RO.pure _
 .exact(NK.halt _).ro
def RO.loadAt(t:TypeId)(v:Value):RO P (Instr.loadAt t v):=(RO.sureAddr v).bind λa=>RO.loadVar t a
def RO.asIntOf(v:Value):RO P (Go.asIntOf v):=by
 unfold Go.asIntOf;split
 .exact RO.pure _
 .exact(NK.halt _).ro
 .exact(NK.halt _).ro
def NK.bounds(k:IntKind)(x y:Int)(c:BoundsCode):NK P (boundsPanic k x y c:Sem α):=by
 have h:∀s:Bool,NK P (runtimePanic (.bounds (IntKind.i64.wrap x) y s c):Sem α):=λs=>NK.bind λp=>NK.halt _
 unfold boundsPanic;dsimp only;split
 .exact NK.bind h
 .exact NK.bind h
def RO.indexAt(t:TypeId)(x ix:Value):RO P (Instr.indexAt t x ix):=by
 have key:∀ (k:IntKind) (i:Int) (b:Option Addr) (len:Nat) (elem:TypeId),RO P (do
   let d<-Go.underlying t
   let aaA:Bool:=decide (len<=1)&&(match d with|.array ..=>true|_=>false)
   match b with
   |some a=>
    if 0<=i/\i<(len:Int)then do
     let sz<-Go.sizeOf elem
     Pure.pure (Value.pointer (some (a.add (i.toNat*sz))))
    else if aaA=true then unsupported (Unsupported.noEntry "op/indexAddr.an index out of range at an array of length 0 or 1 (ledger 616)")
    else boundsPanic k i len BoundsCode.index
   |none=>boundsPanic k i 0 BoundsCode.index):=by
  intro k i b len elem
  refine(RO.underlying t).bind λd=>?_
  cases b with
  |some a=>
   simp only;split
   .exact(RO.sizeOf _).bind λ_=>RO.pure _
   .generalize(decide (len<=1)&&_)=tn;cases tn
    .exact(NK.bounds _ _ _ _).ro
    .exact(NK.halt _).ro
  |none=>exact(NK.bounds _ _ _ _).ro
 unfold Instr.indexAt
 refine(RO.asIntOf ix).bind λ⟨k,i⟩=>?_
 refine(RO.underlying t).bind λd=>?_
 dsimp only;split
 .exact(RO.sureAddr _).bind λ_=>(RO.pure _).bind λ⟨base,len,elem⟩=>key k i base len elem
 .exact(RO.pure _).bind λ⟨base,len,elem⟩=>key k i base len elem
 .exact(NK.UG (NK.halt _)).ro
end
section
variable{P:Program}{ops Cc:Array Oper}{Q:Exit->Act->World->Prop}{m:Nat}
structure Oj(ops Cc:Array Oper):Prop where
 size:Cc.size=ops.size
 each:∀(i:Nat)(o:Oper),ops[i]?=some o->∃o',Cc[i]?=some o'/\o'.dst=o.dst/\o'.after=o.after/\o'.guard=none/\o.guard=none
def Oj.ready(h:Oj ops Cc)(l:Array Bool):Region.ready .any Cc l=Region.ready .any ops l:=by
 unfold Region.ready;rw[h.size]
 refine List.filter_congr λi hi=>?_
 have hi:=List.mem_range.1 hi;obtain⟨o',kZ,_,ha,_⟩:=h.each i _ (Array.getElem?_eq_getElem hi);rw[kZ,Array.getElem?_eq_getElem hi];simp only[Option.map_some,Option.getD_some,ha]
end
section
variable{P:Program}{GI:World->Prop}{n:Nat}{ops Cc:Array Oper}{S:af}{H:ah}
end
def Fl:AV->Value
 |.bool b=>.bool b
 |.int k n=>.int k n
 |_=>undef
def Jx:AV->Bool
 |.bool _|.int _ _=>true
 |_=>false
def RD.Qr{Pr:Nat->Nat->Prop}{w:World}{v:AV}{c:Value}(h:RD Pr w v c)(hv:Jx v=true):c=Fl v:=by
 cases h<;>first|rfl|cases hv
def RD.Zj{Pr:Nat->Nat->Prop}{w:World}{v:AV}(hv:Jx v=true):RD Pr w v (Fl v):=by
 cases v<;>first|exact .bool _|exact .int _ _|cases hv
def KV{v:AV}(hv:Jx v=true):v.one=true:=by cases v<;>first|rfl|cases hv
def nf(es:List AV):List Value:=(es.flatMap AV.cells).map Fl
def jS(size:Nat)(es:List AV):Prop:=∀x∈es,x.storable=true/\x.cells.length=size/\∀c∈x.cells,Jx c=true
def jS.elems{size:Nat}{es:List AV}(h:jS size es):aC size es=true:=mq.2 λv hv=>⟨(h v hv).1,(h v hv).2.1⟩
def Br{size:Nat}:∀{es:List AV},jS size es->(es.flatMap AV.cells).length=es.length*size
 |[],_=>by simp
 |x::es,h=>by
  rw[List.flatMap_cons,List.length_append,Br λy hy=>h y (List.mem_cons_of_mem _ hy),(h x List.mem_cons_self).2.1,List.length_cons,Nat.add_mul];omega
def sN{size:Nat}{es:List AV}(h:jS size es):(nf es).length=es.length*size:=by
 rw[nf,List.length_map,Br h]
def LD(es fs:List AV):nf (es++fs)=nf es++nf fs:=by simp[nf]
def flat_get{size:Nat}:∀{es:List AV},jS size es->∀j (h:j<es.length) k (hk:k<(es[j]).cells.length),(es.flatMap AV.cells)[j*size+k]?=some (es[j]).cells[k]
 |[],_,_,h,_,_=>by simp at h
 |x::es,ho,0,h,k,hk=>by
  rw[List.flatMap_cons,Nat.zero_mul,Nat.zero_add];exact(List.getElem?_append_left hk).trans (List.getElem?_eq_getElem hk)
 |x::es,ho,j+1,h,k,hk=>by
  have hx:=(ho x List.mem_cons_self).2.1;rw[List.flatMap_cons,List.getElem?_append_right (by rw[hx,Nat.add_mul];omega),hx,show(j+1)*size+k-size=j*size+k by rw[Nat.add_mul];omega];exact flat_get (λy hy=>ho y (List.mem_cons_of_mem _ hy)) j (by simpa using h) k hk
def pM{size:Nat}{es:List AV}(ho:jS size es){j:Nat}(h:j<es.length){k:Nat}(hk:k<(es[j]).cells.length):(nf es)[j*size+k]?=some (Fl (es[j]).cells[k]):=by
 rw[nf,List.getElem?_map,flat_get ho j h k hk];rfl
def jS.flat{size:Nat}{es:List AV}(ho:jS size es)(Pr:Nat->Nat->Prop)(w:World):iN Pr w size es (nf es):=
 ⟨λx hx=>⟨(ho x hx).2.1,(ho x hx).1,λc hc=>KV ((ho x hx).2.2 c hc)⟩,λj h k hk=>⟨_,pM ho h hk,RD.Zj ((ho _ (List.getElem_mem h)).2.2 _ (List.getElem_mem hk))⟩⟩
def jS.app{size:Nat}{es fs:List AV}(h:jS size es)(h':jS size fs):jS size (es++fs):=λx hx=>by
 rcases List.mem_append.1 hx with hx|hx
 .exact h x hx
 .exact h' x hx
structure KO(cc:Nat->Nat->Prop)(e:TypeId)(size:Nat)(es:List AV)(o:Old)(v:Value):Prop where
 c:o.c=cc
 ds:o.ds=[]
 bx:∀d,¬o.bx d
 ok:jS size es
 row:((∃a0,v=.slice a0 0 0)/\es=[])\/∃b cap cur,v=.slice (some ⟨b,0,none⟩) es.length cap/\o.keep b=some (.cells cur e (0,0))/\es.length<=cap/\cap<=maxLen/\cur.size=cap*size/\cur.toList.take (es.length*size)=nf es
section
variable{P:Program}{GI:World->Prop}{w0:World}{n:Nat}{g:Gh}{S:af}{H:ah}{a:Act}{w:World}{cc:Nat->Nat->Prop}{e:TypeId}{size:Nat}{es:List AV}{v:Value}
def Rel.Db (R:Rel P w0 n bp g S H a w) {b:Nat} (hf:rN g b) {o:Obj} (ho:w.heap[b]? = some o) :
  Rel P w0 n bp { g with old:={ g.old with keep:=au g.old.keep b (some o) } } S H a w:=by
 refine{ size:=R.size,defers:=R.defers,facts:=R.facts,slot:=R.slot,own:=λt ht hu=>(R.own t ht hu).keep rfl λb hb=>⟨rfl,rfl,hb⟩,box:=?_,jt:=R.jt,jq:=R.jq,inj:=R.inj,base:=R.base,below:=R.below,fresh:=R.fresh,still:=R.still,grown:=R.grown,kept:=?_ }
 .intro i c hi;obtain⟨cs,vs,ty,h1,h2,h3,h4,h5,h6,h7,h8,h9⟩:=R.box i c hi;exact⟨cs,vs,ty,h1,h2,h3,h4,h5,h6,h7,λj hj dJ=>(h8 j hj dJ).keep rfl λb hb=>⟨rfl,rfl,hb⟩,h9⟩
 .intro c ob h
  by_cases fV:c=b
  .subst fV
   have:ob=o:=by simpa[au]using h.symm
   subst this;exact⟨hf.1,ho,hf.2.1,hf.2.2.1,hf.2.2.2⟩
  .exact R.kept c ob (by simpa[au,fV]using h)
def Rel.LJ (R:Rel P w0 n bp g S H a w) {b:Nat} {o:Obj} (hk:g.old.keep b=some o) :
  Rel P w0 n bp { g with old:={ g.old with keep:=au g.old.keep b none } } S H a w/\rN { g with old:={ g.old with keep:=au g.old.keep b none } } b/\w.heap[b]?=some o:=by
 obtain⟨k1,k2,k3,k4,k5⟩:=R.kept b o hk;refine⟨?_,⟨k1,k3,k4,k5⟩,k2⟩;refine{ size:=R.size,defers:=R.defers,facts:=R.facts,slot:=R.slot,own:=λt ht hu=>(R.own t ht hu).keep rfl λb hb=>⟨rfl,rfl,hb⟩,box:=?_,jt:=R.jt,jq:=R.jq,inj:=R.inj,base:=R.base,below:=R.below,fresh:=R.fresh,still:=R.still,grown:=R.grown,kept:=?_ }
 .intro i c hi;obtain⟨cs,vs,ty,h1,h2,h3,h4,h5,h6,h7,h8,h9⟩:=R.box i c hi;exact⟨cs,vs,ty,h1,h2,h3,h4,h5,h6,h7,λj hj dJ=>(h8 j hj dJ).keep rfl λb hb=>⟨rfl,rfl,hb⟩,h9⟩
 .intro c ob h
  have hc:c≠b:=by rintro rfl;simp[au]at h
  exact R.kept c ob (by simpa[au,hc]using h)
def Rel.GG (R:Rel P w0 n bp g S H a w) (hp:g.old.c=cc∧g.old.ds=[]∧∀ d,¬ g.old.bx d) {w':World} (hb:Below w.heap.size w w') (bo:jS size es) (cC:w'.ownsRow w.heap.size e size v es.length (nf es)) :
  ∃g',Rel P w0 n bp g' S H a w'/\KO cc e size es g'.old v:=by
 rcases cC.2 with⟨rfl,h0⟩|⟨b,cap,cur,rfl,gQ,hg,h1,h2,h3,h4⟩
 .exact⟨g,R.oA hb,hp.1,hp.2.1,hp.2.2,bo,.inl ⟨⟨_,rfl⟩,List.eq_nil_of_length_eq_zero h0⟩⟩
 .exact⟨_,R.D6 hb gQ hg,hp.1,hp.2.1,hp.2.2,bo,.inr ⟨b,cap,cur,rfl,aN _ _ _,h1,h2,h3,h4⟩⟩
def KO.append (R:Rel P w0 n bp g S H a w) {i:TypeInfo} (hK:KO cc e i.size es g.old v) {o:Oper} {cl:Call} {t:TypeId} {z:Value} {x1 x2:Operand} (ho:o.op = .call cl) (jw:cl.callee = .builtin .append) (yi:cl.args = #[x1,x2]) (zw:cl.argTypes = #[t,t])
  (fN:P.underlying t=some (.slice e)) (hi:P.info? e=some i) (hz:i.zero=some z) (pw:z.cells.size=i.size) (Xz:i.bytes<=65536) (hv:a.eval x1=v) {y2:bZ} (kX:dg n x2=some y2) {oo:Ow} {x:AV} (hS:ev S y2=.slice oo [x]) (hx:jS i.size [x]) (hlen:es.length+1<=2097152):
  ∃v' w' g',(execOp a.eval o).run P w=.ok (.value v') w'/\Rel P w0 n bp g' S H a w'/\KO cc e i.size (es++[x]) g'.old v':=by
 have hle:g.base<=w.heap.size:=by rw[R.base];exact R.below.size
 have fe:=R.ev kX (λ_ _=>id);rw[hS]at fe
 have run:∀v' w',(Builtin.append_ #[t,t] o.type #[v,a.eval x2]).run P w=.ok v' w'->(execOp a.eval o).run P w=.ok (.value v') w':=by
  intro v' w' h;rw[<-hv]at h;unfold execOp;simp[ho,jw,yi,zw,resolve,invoke,builtin,h]
 have bytes:∀m,m<=2097152->m*i.bytes<=140737488355328:=λm hm=>Nat.le_trans (Nat.mul_le_mul hm Xz) (by decide)
 rcases(fe.bQ rfl).lG i.size hx.elems with⟨h0,_⟩|⟨b,off,cap,news,ig,hl,hn,h1,hr⟩
 .cases h0
 have qm:news=nf [x]:=by
  apply List.ext_getElem?;intro j
  by_cases hj:j<i.size
  .have Ok:([x][0]).cells.length=i.size:=(hx x (by simp)).2.1;obtain⟨u,u1,u2⟩:=hr 0 (by simp) j (by rw[Ok];exact hj);have e1:=pM hx (j:=0) (by simp) (k:=j) (by rw[Ok];exact hj);rw[Nat.zero_mul,Nat.zero_add]at u1 e1;rw[u1,e1,u2.Qr ((hx x (by simp)).2.2 _ (List.getElem_mem _))]
  .rw[List.getElem?_eq_none (by rw[hl];simp;omega),List.getElem?_eq_none (by rw[sN hx];simp;omega)]
 have zR:jS i.size (es++[x]):=hK.ok.app hx
 have tF:(es++[x]).length=es.length+1:=by simp
 rcases hK.row with⟨⟨a0,rfl⟩,rfl⟩|⟨bk,aam,cur,hvk,hk,q1,q2,q3,q4⟩
 .obtain⟨v',w',r1,r2,r3,r4,r5⟩:=vo (P:=P) (w:=w) w.heap.size t o.type e i z fN hi hz pw a0 ⟨b,off,none⟩ 1 cap news (by rw[hl];rfl) (λj u hu=>by rw[Addr.add_lit];exact hn j u hu) (by omega) (by omega) (bytes _ (by omega)) (Nat.le_refl _);rw[qm]at r2;obtain⟨g',R',Xf⟩:=R.GG (es:=[x]) ⟨hK.c,hK.ds,hK.bx⟩ ⟨r4.os,r4.tape,r4.output,r4.size,λk hk=>r4.block k hk (by simp)⟩ hx r2;exact⟨v',w',g',run _ _ (by rw[ig];exact r1),R',Xf⟩
 .have bt:es≠[]\/es=[]:=(Decidable.em _).symm;obtain⟨k1,k2,k3,k4,k5⟩:=R.kept bk _ hk
  have cC:w.ownsRow g.base e i.size v es.length (nf es):=⟨sN hK.ok,.inr ⟨bk,aam,cur,hvk,k1,k2,q1,q2,q3,q4⟩⟩
  obtain⟨v',w',b',r1,r2,r3,r4⟩:=sZ (P:=P) (w:=w) g.base t o.type e i z fN hi hz pw v es.length (nf es) bk cC (by rw[hvk];rfl) ⟨b,off,none⟩ 1 cap news (by rw[hl];rfl) (λj u hu=>by rw[Addr.add_lit];exact hn j u hu) h1 hlen (bytes _ hlen) hle;rw[qm,<-LD]at r2
  have nt:∃Az BQ,v'=.slice (some ⟨b',0,none⟩) (es++[x]).length Az/\w'.heap[b']?=some (.cells BQ e (0,0))/\(es++[x]).length<=Az/\Az<=maxLen/\BQ.size=Az*i.size/\BQ.toList.take ((es++[x]).length*i.size)=nf (es++[x]):=by
   rcases r2.2 with⟨_,h0⟩|⟨gg,cp,cu,rfl,_,m1,m2,m3,m4,m5⟩
   .omega
   .have:gg=b':=by simpa[Value.ownBlock]using r3
    subst this;rw[tF];exact⟨cp,cu,rfl,m1,m2,m3,m4,m5⟩
  obtain⟨Az,BQ,pY,eN,m2,m3,m4,m5⟩:=nt
  rcases r4 with⟨rfl,l8⟩|⟨rfl,l8,aL⟩
  .obtain⟨R1,hf,_⟩:=R.LJ hk;have R2:=R1.fQ (M:=λc=>c=b') (w':=w') ⟨l8.os,l8.tape,l8.output,l8.size,λk hk hm=>l8.block k hk (by simpa using hm)⟩ (λc hc=>by subst hc;exact hf) (λc hc=>by subst hc;exact aN _ _ _);have R3:=R2.Db hf eN;exact⟨v',w',_,run _ _ (by rw[ig];exact r1),R3,hK.c,hK.ds,hK.bx,zR,.inr ⟨b',Az,BQ,pY,aN _ _ _,m2,m3,m4,m5⟩⟩
  .have R2:=R.D6 (w':=w') ⟨l8.os,l8.tape,l8.output,l8.size,λk hk=>l8.block k hk (by simp)⟩ (Nat.le_refl _) eN;exact⟨v',w',_,run _ _ (by rw[ig];exact r1),R2,hK.c,hK.ds,hK.bx,zR,.inr ⟨w.heap.size,Az,BQ,pY,aN _ _ _,m2,m3,m4,m5⟩⟩
def KO.cell (hK:KO cc e size es g.old v) (R:Rel P w0 n bp g S H a w) {j:Nat} (hj:j < es.length) :
  ∃b cap cur,v=.slice (some ⟨b,0,none⟩) es.length cap/\g.old.keep b=some (.cells cur e (0,0))/\w.heap[b]?=some (.cells cur e (0,0))/\∀k (hk:k<(es[j]).cells.length),j*size+k<cur.size/\cur[j*size+k]?=some (Fl (es[j]).cells[k]):=by
 rcases hK.row with⟨_,rfl⟩|⟨b,cap,cur,hv,hk,h1,h2,h3,h4⟩
 .simp at hj
 refine⟨b,cap,cur,hv,hk,(R.kept b _ hk).2.1,λk nP=>?_⟩;have hg:=pM hK.ok hj nP;rw[<-h4,List.getElem?_take]at hg;split at hg
 .have lE:cur[j*size+k]?=some (Fl (es[j]).cells[k]):=by rw[<-hg,Array.getElem?_toList]
  exact⟨(Array.getElem?_eq_some_iff.1 lE).1,lE⟩
 .cases hg
def KO.set (hK:KO cc e size es g.old v) {j k:Nat} (hj:j < es.length) (hk:k < (es[j]).cells.length) {x:AV} (hx:jS size [x]) {u:AV} (hu:x.cells=(es[j]).cells.set k u) {b cap:Nat} {cur qI:Array Value} (hv:v = .slice (some ⟨b,0,none⟩) es.length cap) (hkb:g.old.keep b=some (.cells cur e (0,0)))
  (aL:qI.size=cur.size) (hc:∀m,qI.getD m undef=if m=j*size+k then Fl u else cur.getD m undef):KO cc e size (es.set j x) { g.old with keep:=au g.old.keep b (some (.cells qI e (0,0))) } v:=by
 have bo:jS size (es.set j x):=λy hy=>by
  rcases List.mem_or_eq_of_mem_set hy with h|h
  .exact hK.ok y h
  .subst h;exact hx y (by simp)
 refine⟨hK.c,hK.ds,hK.bx,bo,.inr ⟨b,cap,qI,by rw[List.length_set];exact hv,aN _ _ _,?_⟩⟩;rw[List.length_set]
 rcases hK.row with⟨_,rfl⟩|⟨b2,abr,abt,fe,pT,h1,h2,h3,h4⟩
 .simp at hj
 rw[hv]at fe;cases fe;rw[hkb]at pT;cases pT;refine⟨h1,h2,by rw[aL];exact h3,?_⟩
 have hle:es.length*size<=cur.size:=by rw[h3];exact Nat.mul_le_mul_right _ h1
 apply List.ext_getElem?;intro m
 by_cases hm:m<es.length*size
 case neg=>rw[List.getElem?_eq_none (by rw[List.length_take];omega),List.getElem?_eq_none (by rw[sN bo,List.length_set];omega)]
 have RX:0<size:=by
  rcases Nat.eq_zero_or_pos size with h|h
  .rw[h,Nat.mul_zero]at hm;omega
  .exact h
 obtain⟨q,r,hr,rfl⟩:∃q r,r<size/\m=q*size+r:=⟨m/size,m % size,Nat.mod_lt _ RX,by rw[Nat.mul_comm];exact(Nat.div_add_mod m size).symm⟩
 have hq:q<es.length:=by
  rcases Nat.lt_or_ge q es.length with h|h
  .exact h
  .have:=Nat.mul_le_mul_right size h;omega
 have L1:q<(es.set j x).length:=by rw[List.length_set];exact hq
 have hlen:((es.set j x)[q]).cells.length=size:=(bo _ (List.getElem_mem L1)).2.1;rw[pM bo L1 (by rw[hlen];exact hr),List.getElem?_take,if_pos hm,Array.getElem?_toList];have Eo:=hc (q*size+r)
 have kJ:q*size+r<qI.size:=by rw[aL];omega
 have SO:q*size+r<cur.size:=by omega
 rw[Array.getD_eq_getD_getElem?,Array.getElem?_eq_getElem kJ,Option.getD_some,Array.getD_eq_getD_getElem?,Array.getElem?_eq_getElem SO,Option.getD_some]at Eo;rw[Array.getElem?_eq_getElem kJ,Eo]
 have hold:cur[q*size+r]?=some (Fl ((es[q]).cells[r]'(by rw[(hK.ok _ (List.getElem_mem hq)).2.1];exact hr))):=by
  have hg:=pM hK.ok hq (k:=r) (by rw[(hK.ok _ (List.getElem_mem hq)).2.1];exact hr);rw[<-h4,List.getElem?_take,if_pos hm,Array.getElem?_toList]at hg;exact hg
 rw[Array.getElem?_eq_getElem SO]at hold;have hold:=Option.some.inj hold
 by_cases hqj:q=j
 .subst hqj
  have Ao:(es.set q x)[q]=x:=by simp
  by_cases hrk:r=k
  .subst hrk;rw[if_pos rfl];simp only[Ao,hu,List.getElem_set_self]
  .rw[if_neg (by omega)];simp only[Ao,hu];rw[List.getElem_set_ne (by omega),hold]
 .have Ao:(es.set j x)[q]=es[q]:=List.getElem_set_ne (by omega) _;rw[if_neg,hold]
  .simp only[Ao]
  .intro h
   have eG:k<size:=by rw[<-(hK.ok _ (List.getElem_mem hj)).2.1];exact hk
   apply hqj;have:=congrArg (·/size) h;simp only[Nat.mul_comm _ size,Nat.mul_add_div RX,Nat.div_eq_of_lt hr,Nat.div_eq_of_lt eG]at this;simpa using this
def BM{a:Act}{t:Nat}{c:Value}(ht:t<a.tmps.size)(h:a.tmps.getD t undef=c):a.put (some t) c=a:=by
 cases a;simp only[Act.put,Act.mk.injEq,and_true]at h ht⊢;apply Array.ext
 .simp
 .intro i h1 h2;rw[Array.getElem_setIfInBounds];split
  .rename_i hi;subst hi;rw[<-h];simp[Array.getD_eq_getD_getElem?,h2]
  .rfl
def KO.done (hK:KO cc e size es g.old v) (R:Rel P w0 n bp g S H a w) {t:Nat} (ht:t < n) (hS:S t = .val v) :
  ∃g',Rel P w0 n bp g' (au S t (.slice .view es)) H a w/\g'.old.c=cc/\g'.old.ds=[]/\∀d,¬g'.old.bx d:=by
 have hv:a.tmps.getD t undef=v:=by
  have:=R.slot t ht id;rw[hS]at this;exact this.jf
 have zn:∀{c},a.tmps.getD t undef=c->a.put (some t) c=a:=λh=>BM (by rw[R.size];exact ht) h
 rcases hK.row with⟨⟨a0,rfl⟩,rfl⟩|⟨b,cap,cur,fe,hk,h1,h2,h3,h4⟩
 .have dc:RD g.Pr w (.slice .view []) (.slice a0 0 0):=by
   cases a0 with
   |none=>exact .fH _
   |some b=>exact .iG _ _
  have R2:=R.put t (.slice .view []) _ ht (.data _ _ dc) trivial;rw[zn hv]at R2;exact⟨g,R2,hK.c,hK.ds,hK.bx⟩
 .obtain⟨k1,k2,_⟩:=R.kept b _ hk;obtain⟨g',q1,q2,R1,q3,q4⟩:=R.hand hk (es.length*size)
  have dc:RD g'.Pr w (.slice .view es) v:=by
   refine RD.ofRow (base:=g.base) ⟨sN hK.ok,.inr ⟨b,cap,cur,fe,k1,k2,h1,h2,h3,h4⟩⟩ (hK.ok.flat _ _) λb' eN k nP=>?_
   have:b=b':=by rw[fe]at eN;simpa[Value.ownBlock]using eN
   subst this;exact q4 k nP
  have R2:=R1.put t (.slice .view es) v ht (.data _ _ dc) trivial;rw[zn hv]at R2;exact⟨g',R2,by rw[q1];exact hK.c,by rw[q1];exact hK.ds,by rw[q1];exact hK.bx⟩
def KO.start(R:Rel P w0 n bp g S H a w)(hp:g.old.c=cc/\g.old.ds=[]/\∀d,¬g.old.bx d){t:Nat}(ht:t<n)(hS:S t=.slice .nil []):∃v,Rel P w0 n bp g (au S t (.val v)) H a w/\KO cc e size [] g.old v:=by
 obtain⟨ad,hc⟩:∃ad,a.tmps.getD t undef=.slice ad 0 0:=by
  have hq:=R.slot t ht id;rw[hS]at hq;have hq:=hq.bQ rfl;generalize a.tmps.getD t undef=c at hq
  cases hq with
  |fH=>exact⟨_,rfl⟩
  |iG=>exact⟨_,rfl⟩
  |slice _ _ b off cap size cs eu pU=>rw[pU rfl];exact⟨_,rfl⟩
 have R2:=R.put t (.val (.slice ad 0 0)) (.slice ad 0 0) ht (.data _ _ (.val _ rfl)) trivial;rw[BM (by rw[R.size];exact ht) hc]at R2;exact⟨_,R2,hp.1,hp.2.1,hp.2.2,(λx hx=>by cases hx),.inl ⟨⟨_,rfl⟩,rfl⟩⟩
end
section
variable{P:Program}{GI:World->Prop}{w0:World}{n:Nat}{g:Gh}{S:af}{H:ah}{a:Act}{w:World}{cc:Nat->Nat->Prop}{e:TypeId}{size:Nat}{es:List AV}{v:Value}
end
section
variable{P:Program}{w0:World}{n:Nat}{g:Gh}{S:af}{H:ah}{a:Act}{w:World}{cc:Nat->Nat->Prop}{e:TypeId}
def KO.make(R:Rel P w0 n bp g S H a w)(hp:g.old.c=cc/\g.old.ds=[]/\∀d,¬g.old.bx d){m:Nat}(hm:m<=1000):∃g',Rel P w0 n bp g' S H a (w.alloc (.cells (madeCells #[.int .i64 0] m) e))/\KO cc e 1 (List.replicate m (.int .i64 0)) g'.old (.slice (some ⟨w.heap.size,0,none⟩) m m):=by
 refine R.GG hp (Below.alloc (Below.refl _ _) (Nat.le_refl _) _) (λx hx=>?_) ⟨?_,.inr ⟨w.heap.size,m,madeCells #[.int .i64 0] m,by simp,Nat.le_refl _,(by show(w.heap.push _)[w.heap.size]?=_;simp),by simp,by simp[maxLen];omega,by simp[size_madeCells],?_⟩⟩
 .rw[List.mem_replicate]at hx;rw[hx.2];exact⟨rfl,rfl,λc hc=>by simp[AV.cells]at hc;subst hc;rfl⟩
 .simp[nf,AV.cells]
 .have hc:(madeCells #[Value.int .i64 0] m).toList=List.replicate m (.int .i64 0):=by
   apply List.ext_getElem
   .simp[size_madeCells]
   .intro j h1 h2;simp[madeCells,Nat.mod_one]
  have hr:∀k,nf (List.replicate k (AV.int .i64 0))=List.replicate k (.int .i64 0):=by
   intro k
   induction k with
   |zero=>rfl
   |succ k ih=>rw[List.replicate_succ,List.replicate_succ,<-ih];rfl
  rw[hc,hr,List.length_replicate,Nat.mul_one,List.take_of_length_le (by simp)]
end
section
variable{P:Program}{GI:World->Prop}{w0:World}{n:Nat}{g:Gh}{S:af}{H:ah}{a:Act}{w:World}{cc:Nat->Nat->Prop}{e:TypeId}{es:List AV}{v:Value}{size:Nat}
def AI.low{ops:Array Oper}{a0:Act}{val:Nat->Value}{l:Array Bool}(h:AI ops n a0 val l a){k:Nat}(hk:ops.all (λo=>match o.dst with|some d=>decide (k<=d)|none=>true)=true):dV (λt=>decide (k<=t)) a0 a:=by
 intro t ht
 refine h.old t λi o ho hd=>?_
 have:=Array.all_eq_true'.1 hk o (Array.mem_of_getElem? ho);simp only[hd,decide_eq_true_eq]at this;simp only[decide_eq_false_iff_not]at ht;exact ht this
end
section
variable{P:Program}{GI:World->Prop}{w0:World}{n:Nat}{g:Gh}{S:af}{H:ah}{a:Act}{w:World}{cc:Nat->Nat->Prop}{e:TypeId}{size:Nat}{es:List AV}{mk:AV->AV}
end
section
variable{P:Program}{GI:World->Prop}{w0:World}{n:Nat}{g:Gh}{S:af}{H:ah}{a:Act}{w:World}{cc:Nat->Nat->Prop}{mk:AV->AV}
structure KM(cc:Nat->Nat->Prop)(o:Old)(b:Nat)(es:Array MapEntry)(gJ:Nat):Prop where
 c:o.c=cc
 ds:o.ds=[]
 bx:∀d,¬o.bx d
 keep:o.keep b=some (.map es gJ)
def Dd(old:Nat->Nat->Prop)(w:World)(mk:AV->AV)(en:Ending)(w':World):Prop:=
 Below w.heap.size w w'/\∃hi:Nat->Nat,(∀b,w'.heap.size<=b->hi b=0)/\∃(c:Value)(b gJ:Nat),en=.returned c/\RD (lL w.heap.size old hi) w' (mk (.val (.map (some b)))) c/\w.heap.size<=b/\hi b=0/\w'.heap[b]?=some (.map #[] gJ)
def AP {f:Nat} {fn:Func} {c:Code} {args:List AV} (hf:P.funcs[f]? = some fn) (hb:fn.body=some c) (hn:fn.ntmps=n) (hl:args.length≤n)
  (h:∀cc w,SW P GI n none c (λex o S H=>ex=.ret/\o.c=cc/\∃b gJ,KM cc o b #[] gJ/\cU P n fn.results.toList S H=some (mk (.val (.map (some b))))) (Old.plain cc w) (start args) (λ_=>none)):
  ∀(w:World)(old:Nat->Nat->Prop)(a_:Array Value),GI w->args.length=a_.size->(∀i (h:i<args.length)(h':i<a_.size),RV old (λ_=>none) w args[i] a_[i])->Calls P f a_ w (Dd old w mk):=by
 intro w old a_ lg hlen hr;refine(eA (ro:=none) (m:=0)).1 (callsIn_of_wp_marks hf hb trivial ?_);have R:Rel P w n bp _ (start args) (λ_=>none) { tmps:=a_++Array.replicate (fn.ntmps-a_.size) undef,defers:=[] } w:=Rel.begin hn hl hlen hr;refine wpIn_mono (h old w w _ _ w 0 lg rfl R) ?_;intro ex a' w' he
 cases ex with
 |ret=>
  obtain⟨g',S,H,R',_,hc,b,gJ,hK,hv⟩:=he;show LeavesInM (FR none) 0 P fn a'.tmps (Dd old w mk) a'.defers .returning w';rw[R'.defers,hK.ds];obtain⟨c,r1,r2,r3⟩:=pj R' hv;obtain⟨k1,k2,k3,_⟩:=R'.kept b _ hK.keep;refine⟨c,r1,?_,g'.hi,λb hb=>(R'.fresh b hb).1,c,b,gJ,rfl,?_,by rw[<-R'.base];exact k1,k3,k2⟩
  .have:=R'.below;rwa [R'.base]at this
  .have:g'.Pr=lL w.heap.size old g'.hi:=by
    funext b k
    simp only[Gh.Pr,lL,R'.base,hc]
   rw[this]at r2;exact r2
 |normal=>obtain⟨_,_,_,_,h,_⟩:=he;cases h
 |exit id=>obtain⟨_,_,_,_,h,_⟩:=he;cases h
 |panic chain=>obtain⟨_,_,_,_,_,_,_,_,_,_,_,h,_⟩:=he;cases h
 |goto l=>exact he.elim
 |outgrown=>exact he.elim
def Pk (R:Rel P w0 n bp g S H a w) (hp:g.old.c=cc∧g.old.ds=[]∧∀ d,¬ g.old.bx d) {t:Nat} (ht:t < n) (LU:∀ v e es,mk v ≠ .slice (.own e) es) {en:Ending} {w':World} (h:Dd (kh g false) w mk en w') :
  ∃b gJ c g',en=.returned c/\Rel P w0 n bp g' (au S t (mk (.val (.map (some b))))) H (a.put (some t) c) w'/\KM cc g'.old b #[] gJ:=by
 obtain⟨hb,hi,lq,c,b,gJ,rfl,hr,Yy,qW,Nh⟩:=h
 have hle:g.base<=w.heap.size:=by rw[R.base];exact R.below.size
 let g':Gh:={ g with hi:=λb=>if b<w.heap.size then g.hi b else hi b,owner:=λb=>if b<w.heap.size then g.owner b else none }
 have R':Rel P w0 n bp g' S H a w':=R.grow (g':=g') hb rfl rfl rfl (λb hb=>⟨if_pos hb,if_pos hb⟩)
  (λb gQ=>by
   have:=hb.size
   exact⟨(if_neg (by omega)).trans (lq b gQ),if_neg (by omega)⟩)
 have R2:=R'.put t (mk (.val (.map (some b)))) c ht (.data _ _ (hr.mono (aE.same fun b k _ hp=>by
   rcases hp with⟨h1,h2⟩|⟨h1,h2⟩
   .rcases h2 with h2|⟨h2,_⟩
    .rcases h2 with h2|h2
     .exact .inl h2
     .exact .inr ⟨h2.1,by show k<(if b<w.heap.size then g.hi b else hi b);rw[if_pos h1];exact h2.2⟩
    .cases h2
   .exact .inr ⟨by show g.base<=b;omega,by show k<(if b<w.heap.size then g.hi b else hi b);rw[if_neg (by omega)];exact h2⟩))) (by
  unfold dw;split
  .rename_i e' es' _ heq;exact absurd heq (LU _ _ _)
  .trivial)
 have fu:∀i,g.al i≠some b:=λi cy=>by
  obtain⟨_,_,_,_,_,k3,_⟩:=R.box i b cy;have:=(Array.getElem?_eq_some_iff.1 k3).1;omega
 have hf:rN g' b:=⟨by show g.base<=b;omega,(if_neg (by omega)).trans qW,if_neg (by omega),fu⟩
 have R3:=R2.Db hf Nh;exact⟨b,gJ,c,_,rfl,R3,hp.1,hp.2.1,hp.2.2,aN _ _ _⟩
def KM.fQ{b:Nat}{es es':Array MapEntry}{gJ Tr:Nat}(hK:KM cc g.old b es gJ)(R:Rel P w0 n bp g S H a w){w':World}(ht:dG (λx=>x=b) w w')(ho:w'.heap[b]?=some (.map es' Tr)):∃g',Rel P w0 n bp g' S H a w'/\KM cc g'.old b es' Tr:=by
 obtain⟨k1,k2,k3,k4,k5⟩:=R.kept b _ hK.keep
 have R1:Rel P w0 n bp { g with old:={ g.old with keep:=au g.old.keep b none } } S H a w:=by
  refine{ size:=R.size,defers:=R.defers,facts:=R.facts,slot:=R.slot,own:=λt ht hu=>(R.own t ht hu).keep rfl λb hb=>⟨rfl,rfl,hb⟩,box:=?_,jt:=R.jt,jq:=R.jq,inj:=R.inj,base:=R.base,below:=R.below,fresh:=R.fresh,still:=R.still,grown:=R.grown,kept:=?_ }
  .intro i c hi;obtain⟨cs,vs,ty,h1,h2,h3,h4,h5,h6,h7,h8,h9⟩:=R.box i c hi;exact⟨cs,vs,ty,h1,h2,h3,h4,h5,h6,h7,λj hj dJ=>(h8 j hj dJ).keep rfl λb hb=>⟨rfl,rfl,hb⟩,h9⟩
  .intro c ob h
   have hc:c≠b:=by rintro rfl;simp[au]at h
   exact R.kept c ob (by simpa[au,hc]using h)
 have R2:=R1.fQ ht (λc hc=>by subst hc;exact⟨k1,k3,k4,k5⟩) (λc hc=>by subst hc;exact aN _ _ _);have R3:=R2.Db (b:=b) ⟨k1,k3,k4,k5⟩ ho;exact⟨_,R3,hK.c,hK.ds,hK.bx,aN _ _ _⟩
end
section
variable{P:Program}{Q:Exit->Act->World->Prop}{ro:Option Nat}{m n:Nat}{ops:Array Oper}
def zK(ops:Array Oper)(n:Nat):Bool:=
 ops.all (λo=>o.guard.isNone&&cG o.op&&(match o.dst with|some t=>decide (t<n)|none=>true))&&
 (List.range ops.size).all (λi=>((ops[i]?).map λo=>(o.after.all λe=>!Region.binds .any e||decide (e.on<i))&&(List.range ops.size).all λj=>i==j||((ops[j]?).map λo'=>o.dst.isNone||o'.dst !=o.dst).getD true).getD true)
def yB {a0:Act} {val:Nat→Value} (gx:zK ops n=true) (W:Array Bool→World→Prop)
  (uy:∀(i:Nat)(o:Oper)(l:Array Bool)(a:Act)(w:World),ops[i]?=some o->l.size=ops.size->l.getD i false=false->AI ops n a0 val l a->W l w->(∀e∈o.after,Region.binds .any e=true->l.getD e.on false=true)->
   (∃t,o.dst=some t/\∃w',(execOp a.eval o).run P w=.ok (.value (val t)) w'/\W (l.setIfInBounds i true) w')\/(o.dst=none/\∃w',(execOp a.eval o).run P w=.ok .skip w'/\W (l.setIfInBounds i true) w'))
  (hQ:∀(a:Act)(w:World),AI ops n a0 val (Array.replicate ops.size true) a->W (Array.replicate ops.size true) w->Q .normal a w):
  ∀(fuel:Nat)(l:Array Bool)(a:Act)(w:World),l.size=ops.size->(l.toList.filter (! ·)).length<=fuel->AI ops n a0 val l a->W l w->wpAnyIn (FR ro) m P .any ops Q fuel l a w:=by
 simp only[zK,Bool.and_eq_true]at gx;obtain⟨hg,hs⟩:=gx
 have ja:∀(i:Nat)(o:Oper),ops[i]?=some o->∀e∈o.after,Region.binds .any e=true->e.on<i:=by
  intro i o ho e he hb;have:=List.all_eq_true.1 hs i (List.mem_range.2 (Array.getElem?_eq_some_iff.1 ho).1);simp only[ho,Option.map_some,Option.getD_some,Bool.and_eq_true]at this;have:=Array.all_eq_true'.1 this.1 e he;simpa[hb]using this
 have N5:∀(i j:Nat)(o o':Oper),ops[i]?=some o->ops[j]?=some o'->i≠j->∀t,o.dst=some t->o'.dst≠o.dst:=by
  intro i j o o' ho kZ pt t ht;have:=List.all_eq_true.1 hs i (List.mem_range.2 (Array.getElem?_eq_some_iff.1 ho).1);simp only[ho,Option.map_some,Option.getD_some,Bool.and_eq_true]at this;have:=List.all_eq_true.1 this.2 j (List.mem_range.2 (Array.getElem?_eq_some_iff.1 kZ).1);simpa[kZ,pt,ht]using this
 have fin:∀(l:Array Bool)(a:Act)(w:World),l.size=ops.size->AI ops n a0 val l a->W l w->Region.ready .any ops l=[]->Q .normal a w:=by
  intro l a w hl hI hW hr;have:=xB ja hl hr
  have hle:l=Array.replicate ops.size true:=by
   apply Array.ext
   .simpa using hl
   .intro i hi cy;have h1:=this i (by omega);simp only[Array.getD_eq_getD_getElem?,Array.getElem?_eq_getElem hi,Option.getD_some]at h1;simp[h1]
  rw[hle]at hW;refine hQ a w ⟨hI.size,hI.defers,hI.old,λi o t ho hd _=>hI.Ly i o t ho hd (this i (Array.getElem?_eq_some_iff.1 ho).1)⟩ hW
 intro fuel
 induction fuel with
 |zero=>
  intro l a w hl hc hI hW
  have hr:Region.ready .any ops l=[]:=by
   rw[List.eq_nil_iff_forall_not_mem];intro i hi;obtain⟨h1,o,ho,_⟩:=mem_ready.1 hi
   have cy:i<l.size:=by rw[hl];exact(Array.getElem?_eq_some_iff.1 ho).1
   have h2:l[i]=false:=by simpa[Array.getD_eq_getD_getElem?,cy]using h1
   have:l[i]∈l.toList.filter (! ·):=List.mem_filter.2 ⟨by simp,by simp[h2]⟩;have:=List.length_pos_of_mem this;omega
  exact⟨hr,fin l a w hl hI hW hr⟩
 |succ fuel ih=>
  intro l a w hl hc hI hW;refine⟨λhr=>fin l a w hl hI hW hr,λi hi=>?_⟩;obtain⟨h1,o,ho,eP⟩:=mem_ready.1 hi;have wc:=(Array.getElem?_eq_some_iff.1 ho).1
  have cy:i<l.size:=by omega
  have h2:l[i]=false:=by simpa[Array.getD_eq_getD_getElem?,cy]using h1
  have ly:=Array.all_eq_true'.1 hg o (Array.mem_of_getElem? ho);simp only[Bool.and_eq_true]at ly;obtain⟨⟨ly,bf⟩,oS⟩:=ly
  have aaD:l.getD i false=false:=by simp[Array.getD_eq_getD_getElem?,cy,h2]
  have Q4:=uy i o l a w ho hl aaD hI hW eP
  have na:((l.setIfInBounds i true).toList.filter (! ·)).length<=fuel:=by
   have:(l.setIfInBounds i true).toList=l.toList.set i true:=by simp
   rw[this]
   have hlen:∀(xs:List Bool)(k:Nat)(h:k<xs.length),xs[k]=false->((xs.set k true).filter (! ·)).length+1=(xs.filter (! ·)).length:=by
    intro xs
    induction xs with
    |nil=>intro k h;simp at h
    |cons x xs ih=>
     intro k h hk
     cases k with
     |zero=>
      simp only[List.getElem_cons_zero]at hk;subst hk;simp
     |succ k=>
      simp only[List.getElem_cons_succ]at hk;have:=ih k (by simpa using h) hk;simp only[List.set_cons_succ,List.filter_cons]
      split<;>(try simp only[List.length_cons])<;>omega
   have:=hlen l.toList i (by simpa using cy) (by simpa using h2);omega
  have next:∀t,o.dst=some t->∀w',W (l.setIfInBounds i true) w'->wpAnyIn (FR ro) m P .any ops Q fuel (l.setIfInBounds i true) (a.put o.dst (val t)) w':=by
   intro t hd w' Aq
   have Nz:t<n:=by simpa[hd]using oS
   refine ih _ _ w' (by simpa using hl) na ⟨by simp[Act.put,hd,hI.size],by rw[hd];exact hI.defers,λs hs=>?_,λj o' s kZ sX FU=>?_⟩ Aq
   .have bt:s≠t:=by rintro rfl;exact hs i o ho hd
    rw[hd,<-hI.old s hs];simp[Act.put,Array.getElem?_setIfInBounds_ne (Ne.symm bt)]
   .rw[hd]
    by_cases eL:j=i
    .subst eL;rw[ho]at kZ;cases kZ;rw[hd]at sX;cases sX;simp[Act.put,hI.size,Nz]
    .have bt:s≠t:=by
      rintro rfl;exact N5 i j o o' ho kZ (Ne.symm eL) _ hd (sX.trans hd.symm)
     have B6:l.getD j false=true:=by
      have:=FU;simp only[Array.getD_eq_getD_getElem?,Array.getElem?_setIfInBounds_ne (Ne.symm eL)]at this⊢;exact this
     rw[<-hI.Ly j o' s kZ sX B6];simp[Act.put,Array.getElem?_setIfInBounds_ne (Ne.symm bt)]
  have hw:Region.wanted o (yielded ops a.tmps)=true:=by
   have:o.guard=none:=by simpa using ly
   simp[Region.wanted,this]
  simp only[wpOpIn,ho,hw,if_true];refine⟨λ_ _=>trivial,?_⟩;rw[Oper.semAt_eq _ _ _ (λc hc=>by rw[hc]at bf;cases bf)]
  rcases Q4 with⟨t,hd,w',hr,Aq⟩|⟨hd,w',hr,Aq⟩
  .rw[hr];exact next t hd w' Aq
  .rw[hr];refine ih _ _ w' (by simpa using hl) na ⟨by rw[hd];exact hI.size,by rw[hd];exact hI.defers,λs hs=>by rw[hd];exact hI.old s hs,λj o' s kZ sX FU=>?_⟩ Aq
   have eL:j≠i:=by
    rintro rfl;rw[ho]at kZ;cases kZ;rw[hd]at sX;cases sX
   rw[hd];refine hI.Ly j o' s kZ sX ?_;have:=FU;simp only[Array.getD_eq_getD_getElem?,Array.getElem?_setIfInBounds_ne (Ne.symm eL)]at this⊢;exact this
def yU (hm:P.follows .mixedOrders=true) {id p:Nat} {a0:Act} {w0:World} {val:Nat→Value} (ph:yq ops p=true) (kR:(ops.extract 0 p).size=p) (gx:zK (ops.extract 0 p) n=true) (aL:a0.tmps.size=n) (W:Array Bool→World→Prop) (Xn:W (Array.replicate p false) { w0 with drawn:=w0.drawn+1 })
  (uy:∀(i:Nat)(o:Oper)(l:Array Bool)(a:Act)(w:World),(ops.extract 0 p)[i]?=some o->l.size=p->l.getD i false=false->AI (ops.extract 0 p) n a0 val l a->W l w->(∀e∈o.after,Region.binds .any e=true->l.getD e.on false=true)->
   (∃t,o.dst=some t/\∃w',(execOp a.eval o).run P w=.ok (.value (val t)) w'/\W (l.setIfInBounds i true) w')\/(o.dst=none/\∃w',(execOp a.eval o).run P w=.ok .skip w'/\W (l.setIfInBounds i true) w'))
  (hQ:∀(a:Act)(w:World),AI (ops.extract 0 p) n a0 val (Array.replicate p true) a->W (Array.replicate p true) w->wpOpsIn (FR ro) m P ops Q (List.range' p (ops.size-p)) a w):(Code.region id ops true).wpIn (FR ro) m P Q a0 w0:=by
 refine zD hm ph ?_;refine yB gx W (λi o l a w h1 h2=>uy i o l a w h1 (by rw[h2,kR])) (λa w hI hW=>?_) p (Array.replicate p false) a0 _ (by simp[kR]) ?_ ⟨aL,rfl,λ_ _=>rfl,λi o t ho hd h=>?_⟩ Xn
 .rw[kR]at hI hW;exact hQ a w hI hW
 .refine Nat.le_trans (List.length_filter_le _ _) (by simp)
 .simp[Array.getElem?_replicate]at h
  split at h<;>cases h
def ER {a:Act} {w:World} {o:Oper} {t:TypeId} {x y:Operand} {b off:Nat} {v:Value} {ty:TypeId} {i:TypeInfo} {arr:Array Value} (ho:o.op = .store t x y) (hx:a.eval x = .pointer (some ⟨b,off,none⟩)) (hi:P.info? t=some i) (hs:i.size=1) (hb:w.heap[b]? = some (.cells arr ty (0,0)))
  (EX:off<arr.size) (hv:(a.eval y)=v) (h1:v.oneCell'=true):(execOp a.eval o).run P w=.ok .skip (w.putObj b (.cells (arr.setIfInBounds off v) ty (0,0))):=by
 obtain⟨EU,hr,aL,hat⟩:=GV (P:=P) ho hx hi hs hb EX hv h1
 have:EU=arr.setIfInBounds off v:=by
  apply Array.ext
  .simp[aL]
  .intro k hk eG;have h:=hat k
   have pT:k<arr.size:=by omega
   rw[Array.getD_eq_getD_getElem?,Array.getElem?_eq_getElem hk,Option.getD_some,Array.getD_eq_getD_getElem?,Array.getElem?_eq_getElem pT,Option.getD_some]at h;rw[h,Array.getElem_setIfInBounds]
   by_cases e:k=off
   .subst e;simp
   .rw[if_neg e,if_neg (Ne.symm e)]
 rw[this]at hr;exact hr
end
end Go.AL
namespace Go.AL
section
variable{P:Program}{GI:World->Prop}{n:Nat}{ro:Option Nat}{old:Old}{S:af}{H:ah}{Q:gy}
def SW.last (hG:av GI) (hm:P.follows .mixedOrders=true) {x:Code} (hc:iW x=true) {ac:ae} (ja:cE P n x=ac) (bC:∀ d∈ac.names,¬ old.bx d) (K:af→ah→Prop) (h:bq P GI ac (az K) S H)
  (hy:∀S' H',K S' H'->Q .normal old S' H'):SW P GI n ro x Q old S H:=by
 subst ja;intro w0 g a w m db ho R;refine wpIn_mono (iq hG db hm x (az K) g S H a w hc bC ho R h) ?_;intro e a' w' hq
 cases e with
 |normal=>
  obtain⟨g',S',H',h1,h2,h3⟩:=hq;exact⟨g',S',H',h2,by rw[h1];exact hy S' H' h3⟩
 |exit id=>obtain⟨_,_,_,_,_,h⟩:=hq;exact h.elim
 |ret=>obtain⟨_,_,_,_,_,h⟩:=hq;exact h.elim
 |panic ch=>obtain⟨_,_,_,_,_,_,_,_,_,_,h⟩:=hq;exact h.elim
 |goto l=>exact hq.elim
 |outgrown=>exact hq.elim
end
end Go.AL
