/- A part of the proof. -/
import Derived.Test.YtifmgeicigngbaaGreatN1
import Derived.Test.YtifmgeicigngbaaGreatProg
set_option maxRecDepth 100000
set_option maxHeartbeats 8000000
set_option linter.all false
namespace Go.AL
open Go.RowKit
def FR(ro:Option Nat):Fence:={ Fence.wide with round:=ro }
def eA{ro:Option Nat}{m:Nat}{P:Program}{f:FuncId}{args:Array Value}{w:World}{R:Ending->World->Prop}:CallsIn (FR ro) m P f args w R↔Calls P f args w R:=
 callsIn_wide (n:=m)
def JL{ro:Option Nat}{m:Nat}{P:Program}{row:String}{args:Array Value}{w:World}{R:Value->World->Prop}(h:Rows P row args w R):RowsIn (FR ro) m P row args w R:=
 λc cs _=>let⟨v,w',r,s⟩:=h c cs;⟨v,w',r,stepsIn_wide.2 s⟩
def gz{m:Nat}{P:Program}{c:Code}{Q:Exit->Act->World->Prop}{a:Act}{w:World}:c.wpIn (FR none) m P Q a w↔c.wp P Q a w:=wpIn_wide (n:=m)
def cW:Op->Bool
 |.defer _=>false
 |_=>true
section
variable{P:Program}{Q:Exit->Act->World->Prop}{ro:Option Nat}{m:Nat}
def za{o:Oper}{a:Act}{w:World}{K:Act->World->Prop}(cT:cW o.op=true)(h:o.wp P a w K Q):o.wpIn (FR ro) m P a w K Q:=by
 refine⟨λ_ _=>trivial,?_⟩;unfold Oper.wp at h;rw[Oper.semAt_eq _ _ _ (λc hc=>by rw[hc]at cT;cases cT)]
 generalize(execOp a.eval o).run P w=r at*
 have hd:(FR ro).depth.isSome=true->1<=m:=λh=>by simp[FR,Fence.wide]at h
 cases r with
 |ok x w'=>
  cases x<;>simp only[Oper.upon,Oper.uponIn]at h⊢<;>first
   |exact h
   |exact⟨hd,eA.2 h⟩
   |exact⟨hd,JL h⟩
 |halt x w'=>cases x<;>simp only[Oper.upon,Oper.uponIn]at h⊢<;>exact h
def kv{ops:Array Oper}(cT:ops.all (λo=>cW o.op)=true)(hQ:¬LetsOut Q):∀(l:List Nat)(a:Act)(w:World),wpOps P ops Q l a w->wpOpsIn (FR ro) m P ops Q l a w
 |[],_,_,h=>h
 |i::l,a,w,h=>by
  simp only[wpOps,wpOpsIn]at h⊢
  cases ho:ops[i]? with
  |none=>simp only[ho]at h⊢;exact kv cT hQ l a w h
  |some o=>
   simp only[ho]at h⊢
   have hc:cW o.op=true:=by
    have:=Array.all_eq_true'.1 cT o (Array.mem_of_getElem? ho);exact this
   split
   .rename_i hw;simp only[hw,if_true]at h
    rcases h with h|⟨_,h⟩
    .exact za hc (Oper.wp_mono (λa w hh=>kv cT hQ l a w hh) h)
    .exact absurd h hQ
   .rename_i hw;simp only[hw,Bool.false_eq_true,if_false]at h;exact⟨λ_ _=>trivial,kv cT hQ l _ w h⟩
def MU{ops:Array Oper}(cT:ops.all (λo=>cW o.op)=true)(hQ:¬LetsOut Q){i:Nat}{K:Act->World->Prop}{a:Act}{w:World}(h:wpOp P ops Q i K a w):wpOpIn (FR ro) m P ops Q i K a w:=by
 unfold wpOp at h;unfold wpOpIn
 cases ho:ops[i]? with
 |none=>simp only[ho]at h⊢;exact h
 |some o=>
  simp only[ho]at h⊢
  have hc:cW o.op=true:=by
   have:=Array.all_eq_true'.1 cT o (Array.mem_of_getElem? ho);exact this
  split
  .rename_i hw;simp only[hw,if_true]at h
   rcases h with h|⟨_,h⟩
   .exact za hc h
   .exact absurd h hQ
  .rename_i hw;simp only[hw,Bool.false_eq_true,if_false]at h;exact⟨λ_ _=>trivial,h⟩
def pX{ops:Array Oper}{md:Region.Mode}(cT:ops.all (λo=>cW o.op)=true)(hQ:¬LetsOut Q):∀(fuel:Nat)(listed:Array Bool)(a:Act)(w:World),wpAny P md ops Q fuel listed a w->wpAnyIn (FR ro) m P md ops Q fuel listed a w
 |0,_,_,_,h=>h
 |fuel+1,listed,a,w,h=>⟨h.1,λi hi=>wpOpIn_mono (λa w hh=>pX cT hQ fuel _ a w hh) (MU cT hQ (h.2 i hi))⟩
def jV:Code->Bool
 |.region _ ops _=>ops.all λo=>cW o.op
 |.seq x y|.cond _ x y=>jV x&&jV y
 |.block _ c|.loop c=>jV c
 |_=>true
end
section
variable{P:Program}{GI:World->Prop}{w0:World}{n:Nat}{g:Gh}{S:af}{H:ah}{a:Act}{w:World}{ro:Option Nat}{m:Nat}
def jQ{old:Old}{Q:dQ->af->ah->Prop}:¬LetsOut (QQ P w0 n old Q):=λ⟨_,_,h⟩=>h
def py (hG:aw GI) (bP:GI w0) {old:Old} {ops:Array Oper} {Q:dQ→af→ah→Prop} (cT:ops.all (fun o=>cW o.op)=true) (bB:(aO P n false ops).all (·.ok n)=true) (bI:∀ o∈aO P n false ops,∀ d∈o.fX,¬ old.bx d) (ho:g.old=old) (R:Rel P w0 n bu g S H a w)
  (h:bg P GI (aO P n false ops) (Q .normal) (λv=>Q (.panic v) S H) S H):wpOpsIn (FR ro) m P ops (QQ P w0 n old Q) (List.range ops.size) a w:=by
 refine kv cT jQ _ _ _ (lI hG bP (S0:=S) (H0:=H) (List.range ops.size) ops.toList g S H a w ?_ (λo iq=>?_) (λo iq=>bI _ (List.mem_map_of_mem iq)) ho R h)
 .apply List.ext_getElem?;intro i;simp only[List.getElem?_map]
  by_cases hi:i<ops.size
  .simp[hi]
  .simp[hi]
 .simp only[aO,List.all_map,List.all_eq_true,Function.comp]at bB;exact bB o iq
def Di (hG:aw GI) (bP:GI w0) {old:Old} {id:Nat} {ops:Array Oper} {Q:dQ→af→ah→Prop} (cT:ops.all (fun o=>cW o.op)=true) (bB:(aO P n false ops).all (·.ok n)=true) (bI:∀ o∈aO P n false ops,∀ d∈o.fX,¬ old.bx d) (ho:g.old=old) (R:Rel P w0 n bu g S H a w)
  (h:bg P GI (aO P n false ops) (Q .normal) (λv=>Q (.panic v) S H) S H):(Code.region id ops false).wpIn (FR ro) m P (QQ P w0 n old Q) a w:=
 wpIn_region (py hG bP cT bB bI ho R h)
def jG (hG:aw GI) (bP:GI w0) (hm:P.follows .mixedOrders=true) {old:Old} {ops:Array Oper} {Q:dQ→af→ah→Prop} (cT:ops.all (fun o=>cW o.op)=true) (bB:E5 P n ops=true) (bI:∀ o∈aO P n true ops,∀ d∈o.fX,¬ old.bx d) (ho:g.old=old) (R:Rel P w0 n bu g S H a w)
  (h:dc P GI (aO P n true ops) (Q .normal) (dL (aO P n true ops) S) (cG (aO P n true ops) H)):wpAnyIn (FR ro) m P .any ops (QQ P w0 n old Q) ops.size (Array.replicate ops.size false) a { w with drawn:=w.drawn+1 }:=by
 simp only[E5,Bool.and_eq_true,decide_eq_true_eq]at bB;obtain⟨⟨⟨h1,h2⟩,h3⟩,h4⟩:=bB;refine pX cT jQ _ _ _ _ ?_;have R0:Rel P w0 n bu g S H a { w with drawn:=w.drawn+1 }:=R.kP ((Below.refl _ w).drew)
 obtain⟨g',e1,e2,R'⟩:=Rel.dL (aO P n true ops) R0 h3 (λd hd=>by
  simp only[cZ,List.mem_filterMap,Option.map_eq_some_iff]at hd;obtain⟨o,iq,⟨d',z⟩,k1,rfl⟩:=hd;rw[ho];refine bI o iq d' ?_;unfold aU at k1;split at k1
  .rename_i h1 h2;cases k1;simp[bl.fX,h1,h2,dS.fX]
  .cases k1)
 have hU:UU P n ops (Array.replicate ops.size false)=(λt=>bu t\/t∈cZ (aO P n true ops)):=by
  funext t
  simp only[UU,bu,false_or,eq_iff_iff,cZ,List.mem_filterMap,Option.map_eq_some_iff]
  constructor
  .rintro⟨j,o,z,k1,k2,k3⟩;rw[<-eL]at k1;exact⟨o,List.mem_of_getElem? k1,(t,z),k2,rfl⟩
  .rintro⟨o,ho,⟨d,z⟩,k1,rfl⟩;obtain⟨j,hj⟩:=List.getElem?_of_mem ho;refine⟨j,o,z,by rw[<-eL];exact hj,k1,?_⟩
   have:j<ops.size:=by
    have:=(List.getElem?_eq_some_iff.1 hj).1;simpa[aO]using this
   simp[this]
 refine yV hG bP h2 (λo iq=>?_) ops.size (Array.replicate ops.size false) g' _ _ a _ (by simp) (e2.trans ho) (by rw[hU];exact R') (λj o d z k1 k2 k3=>?_) ?_
 .simp only[aO,List.all_map,List.all_eq_true,Function.comp]at h1;exact h1 o (by simpa using iq)
 .rw[<-eL]at k1;exact vj _ S H h3 o (List.mem_of_getElem? k1) d z k2
 .have:=xh (QA:=Q .normal) ops.toList 0 (Array.replicate ops.size false) _ _ (by simp) (by simpa using h4) h;simpa using this
def Bi (hG:aw GI) (bP:GI w0) (hm:P.follows .mixedOrders=true) {old:Old} {id:Nat} {ops:Array Oper} {Q:dQ→af→ah→Prop} (cT:ops.all (fun o=>cW o.op)=true) (bB:E5 P n ops=true) (bI:∀ o∈aO P n true ops,∀ d∈o.fX,¬ old.bx d) (ho:g.old=old) (R:Rel P w0 n bu g S H a w)
  (h:dc P GI (aO P n true ops) (Q .normal) (dL (aO P n true ops) S) (cG (aO P n true ops) H)):(Code.region id ops true).wpIn (FR ro) m P (QQ P w0 n old Q) a w:=
 wpIn_region_any hm (jG hG bP hm cT bB bI ho R h)
abbrev fH:=dQ->Old->af->ah->Prop
def QS(P:Program)(w0:World)(n:Nat)(Q:fH):Exit->Act->World->Prop
 |.normal,a,w=>∃g S H,Rel P w0 n bu g S H a w/\Q .normal g.old S H
 |.exit id,a,w=>∃g S H,Rel P w0 n bu g S H a w/\Q (.exit id) g.old S H
 |.ret,a,w=>∃g S H,Rel P w0 n bu g S H a w/\Q .ret g.old S H
 |.panic chain,a,w=>∃(o:Old)(v:AV)(c:Value)(hi:Nat->Nat)(S:af)(H:ah),a.defers=o.ds/\chain=[{ v:=c,recovered:=false }]/\Below w0.heap.size w0 w/\(∀b,w.heap.size<=b->hi b=0)/\RD (ji w0.heap.size o.c hi) w v c/\Q (.panic v) o S H
 |_,_,_=>False
def SW(P:Program)(GI:World->Prop)(n:Nat)(ro:Option Nat)(c:Code)(Q:fH)(old:Old)(S:af)(H:ah):Prop:=
 ∀(w0:World)(g:Gh)(a:Act)(w:World)(m:Nat),GI w0->g.old=old->Rel P w0 n bu g S H a w->c.wpIn (FR ro) m P (QS P w0 n Q) a w
def thenS(K:Old->af->ah->Prop)(Q:fH):fH
 |.normal=>K
 |e=>Q e
def J_(id:Nat)(Q:fH):fH
 |.exit j=>if j=id then Q .normal else Q (.exit j)
 |e=>Q e
variable{old:Old}{Q Q':fH}
def QS.mono(h:∀e o S H,Q e o S H->Q' e o S H){e:Exit}{a:Act}{w:World}(hq:QS P w0 n Q e a w):QS P w0 n Q' e a w:=by
 cases e<;>simp only[QS]at hq⊢
 case normal=>obtain⟨g,S,H,h2,h3⟩:=hq;exact⟨g,S,H,h2,h _ _ _ _ h3⟩
 case exit=>obtain⟨g,S,H,h2,h3⟩:=hq;exact⟨g,S,H,h2,h _ _ _ _ h3⟩
 case ret=>obtain⟨g,S,H,h2,h3⟩:=hq;exact⟨g,S,H,h2,h _ _ _ _ h3⟩
 case panic=>obtain⟨o,v,c,hi,S,H,h1,h2,h3,h4,h5,h6⟩:=hq;exact⟨o,v,c,hi,S,H,h1,h2,h3,h4,h5,h _ _ _ _ h6⟩
def SW.mono{c:Code}(h:∀e o S H,Q e o S H->Q' e o S H)(hs:SW P GI n ro c Q old S H):SW P GI n ro c Q' old S H:=
 λw0 g a w m hG ho R=>wpIn_mono (hs w0 g a w m hG ho R) λ_ _ _ hq=>QS.mono h hq
def SW.seq{x y:Code}(hx:SW P GI n ro x (thenS (SW P GI n ro y Q) Q) old S H):SW P GI n ro (.seq x y) Q old S H:=by
 intro w0 g a w m hG ho R;refine wpIn_seq (wpIn_mono (hx w0 g a w m hG ho R) ?_);intro e a' w' he
 cases e with
 |normal=>
  obtain⟨g',S',H',h2,h3⟩:=he;exact h3 w0 g' a' w' m hG rfl h2
 |exit id=>exact he
 |ret=>exact he
 |panic ch=>exact he
 |goto l=>exact he.elim
 |outgrown=>exact he.elim
def SW.block{id:Nat}{c:Code}(hc:SW P GI n ro c (J_ id Q) old S H):SW P GI n ro (.block id c) Q old S H:=by
 intro w0 g a w m hG ho R;refine wpIn_block (wpIn_mono (hc w0 g a w m hG ho R) ?_);intro e a' w' he
 cases e with
 |normal=>exact he
 |exit j=>
  obtain⟨g',S',H',h2,h3⟩:=he;simp only[J_]at h3;simp only[Exit.inBlock];split
  .rename_i hj;rw[if_pos hj]at h3;exact⟨g',S',H',h2,h3⟩
  .rename_i hj;rw[if_neg hj]at h3;exact⟨g',S',H',h2,h3⟩
 |ret=>exact he
 |panic ch=>exact he
 |goto l=>exact he.elim
 |outgrown=>exact he.elim
def SW.cond{c:Operand}{c':cm}{x y:Code}(hc:du n c=some c')(b:Bool)(hb:ev S c'=.bool b)(h:SW P GI n ro (if b then x else y) Q old S H):SW P GI n ro (.cond c x y) Q old S H:=by
 intro w0 g a w m hG ho R;have hv:=R.ev hc (λ_ _=>id);rw[hb]at hv
 have:a.eval c=.bool b:=by
  generalize a.eval c=v at hv;cases hv;rename_i hv;cases hv;rfl
 exact wpIn_cond this (h w0 g a w m hG ho R)
def SW.exit{id:Nat}(h:Q (.exit id) old S H):SW P GI n ro (.exit id) Q old S H:=
 λ_ g _ _ _ _ ho R=>wpIn_exit ⟨g,S,H,R,by rw[ho];exact h⟩
def SW.ret(h:Q .ret old S H):SW P GI n ro .ret Q old S H:=
 λ_ g _ _ _ _ ho R=>wpIn_ret ⟨g,S,H,R,by rw[ho];exact h⟩
def SW.skip(h:Q .normal old S H):SW P GI n ro .skip Q old S H:=
 λ_ g _ _ _ _ ho R=>wpIn_skip ⟨g,S,H,R,by rw[ho];exact h⟩
def SW.loop{c:Code}(I:Old->af->ah->Prop)(μ:af->ah->Nat)(h0:I old S H)(hr:∀o S H,I o S H->SW P GI n ro c (thenS (λo' S' H'=>I o' S' H'/\μ S' H'<μ S H) Q) o S H):SW P GI n ro (.loop c) Q old S H:=by
 intro w0 g a w m hG ho R;subst ho
 have key:∀ (k:Nat) (g:Gh) (S:af) (H:ah) (a:Act) (w:World),Rel P w0 n bu g S H a w→I g.old S H→μ S H=k→∀ (b:Frame) (kk:List Item) (cs:List Frame),b.roundOf=ro→(FR ro).room (cs.length+1+m) →
   ∃e a' w',QS P w0 n Q e a' w'/\ArrivesIn (Machine.fenced P (FR ro)) P (lone (b.atR a (.code c::.inLoop c::kk)) cs w) b kk cs e a' w':=by
  intro k
  induction k using Nat.strongRecOn with
  |_ k ih=>
   intro g S H a w R hI hk b kk cs y4 jw;obtain⟨e,jX,mg,hq,iV⟩:=hr g.old S H hI w0 g a w m hG rfl R b (.inLoop c::kk) cs y4 trivial jw
   cases e with
   |normal=>
    obtain⟨g',S',H',h2,h3,h4⟩:=hq;obtain⟨Hg,FL,GH,zm,sF⟩:=ih _ (by rw[<-hk];exact h4) g' S' H' jX mg h2 h3 rfl b kk cs y4 jw;exact⟨Hg,FL,GH,zm,.of_steps (StepsIn.trans iV (.one (fenced_calm (F:=FR ro) (fr:=b.atR jX (.inLoop c::kk)) trivial jw rfl) stepR_inLoop)) sF⟩
   |exit id=>exact⟨.exit id,jX,mg,hq,.pass (x:=.inLoop c) rfl (λ_ _=>.inl (by simp)) iV⟩
   |goto l=>exact hq.elim
   |ret=>exact⟨.ret,jX,mg,hq,.pass (x:=.inLoop c) rfl (λ_ _=>.inl (by simp)) iV⟩
   |panic ch=>exact⟨.panic ch,jX,mg,hq,.pass (x:=.inLoop c) rfl (λ_ _=>.inl (by simp)) iV⟩
   |outgrown=>exact hq.elim
 intro b kk cs y4 hF jw;obtain⟨e,a',w',hq,iV⟩:=key _ g S H a w R h0 rfl b kk cs y4 jw;exact⟨e,a',w',hq,.of_steps (.one (fenced_calm (F:=FR ro) (fr:=b.atR a (.code (.loop c)::kk)) trivial jw rfl) stepR_loop) iV⟩
def fH.bD(old:Old)(Q:fH):dQ->af->ah->Prop
 |e,S,H=>Q e old S H
def tq{e:Exit}{a:Act}{w:World}(h:QQ P w0 n old (Q.bD old) e a w):QS P w0 n Q e a w:=by
 cases e<;>simp only[QQ,QS]at h⊢
 case normal=>obtain⟨g,S,H,h1,h2,h3⟩:=h;exact⟨g,S,H,h2,by rw[h1];exact h3⟩
 case exit=>obtain⟨g,S,H,h1,h2,h3⟩:=h;exact⟨g,S,H,h2,by rw[h1];exact h3⟩
 case ret=>obtain⟨g,S,H,h1,h2,h3⟩:=h;exact⟨g,S,H,h2,by rw[h1];exact h3⟩
 case panic=>obtain⟨h1,v,c,hi,S,H,h2,h3,h4,h5,h6⟩:=h;exact⟨old,v,c,hi,S,H,h1,h2,h3,h4,h5,h6⟩
def ia (hG:aw GI) (bP:GI w0) (hm:P.follows .mixedOrders=true) {old:Old} :
  ∀(c:Code)(Q:dQ->af->ah->Prop)(g:Gh)(S:af)(H:ah)(a:Act)(w:World),jV c=true->(∀d∈(de P n c).names,¬old.bx d)->g.old=old->Rel P w0 n bu g S H a w->bD P GI (de P n c) Q S H->c.wpIn (FR ro) m P (QQ P w0 n old Q) a w
 |.skip,Q,g,S,H,a,w,_,bI,ho,R,h=>wpIn_skip ⟨g,S,H,ho,R,h⟩
 |.region id ops draw,Q,g,S,H,a,w,cT,bI,ho,R,h=>by
  simp only[de]at h bI
  cases draw with
  |true=>
   simp only[if_true]at h bI;split at h
   case isFalse=>exact h.elim
   rename_i bB;rw[if_pos bB]at bI;exact Bi hG bP hm cT bB (λo iq d hd=>bI d (List.mem_flatMap.2 ⟨o,iq,hd⟩)) ho R h
  |false=>
   simp only[Bool.false_eq_true,if_false]at h bI;split at h
   case isFalse=>exact h.elim
   rename_i bB;rw[if_pos bB]at bI;exact Di hG bP cT bB (λo iq d hd=>bI d (List.mem_flatMap.2 ⟨o,iq,hd⟩)) ho R h
 |.seq x y,Q,g,S,H,a,w,cT,bI,ho,R,h=>by
  simp only[jV,Bool.and_eq_true]at cT;refine wpIn_seq (wpIn_mono (ia hG bP hm x _ g S H a w cT.1 (λd hd=>bI d (by simp[de,ae.names,hd])) ho R h) ?_);intro e a' w' he
  cases e with
  |normal=>
   obtain⟨g',S',H',h1,h2,h3⟩:=he;exact ia hG bP hm y Q g' S' H' a' w' cT.2 (λd hd=>bI d (by simp[de,ae.names,hd])) h1 h2 h3
  |exit id=>exact he
  |ret=>exact he
  |panic ch=>exact he
  |goto l=>exact he.elim
  |outgrown=>exact he.elim
 |.cond c x y,Q,g,S,H,a,w,cT,bI,ho,R,h=>by
  simp only[jV,Bool.and_eq_true]at cT;simp only[de]at h;split at h
  case h_2=>exact h.elim
  rename_i c' hc;simp only[de,hc,ae.names,List.mem_append]at bI;simp only[bD]at h;have hv:=R.ev hc (λ_ _=>id)
  have key:∀b,a.eval c=.bool b->(if b then x else y).wpIn (FR ro) m P (QQ P w0 n old Q) a w->(Code.cond c x y).wpIn (FR ro) m P (QQ P w0 n old Q) a w:=λb hb h=>wpIn_cond hb h
  split at h
  .rename_i hb;rw[hb]at hv
   have:a.eval c=.bool true:=by
    generalize a.eval c=v at hv;cases hv;rename_i hv;cases hv;rfl
   exact key true this (ia hG bP hm x Q g S H a w cT.1 (λd hd=>bI d (.inl hd)) ho R h)
  .rename_i hb;rw[hb]at hv
   have:a.eval c=.bool false:=by
    generalize a.eval c=v at hv;cases hv;rename_i hv;cases hv;rfl
   exact key false this (ia hG bP hm y Q g S H a w cT.2 (λd hd=>bI d (.inr hd)) ho R h)
  .rename_i hb;rw[hb]at hv
   have:∃b,a.eval c=.bool b:=by
    generalize a.eval c=v at hv;cases hv;rename_i hv;cases hv;exact⟨_,rfl⟩
   obtain⟨b,hb⟩:=this
   cases b with
   |true=>exact key true hb (ia hG bP hm x Q g S H a w cT.1 (λd hd=>bI d (.inl hd)) ho R h.1)
   |false=>exact key false hb (ia hG bP hm y Q g S H a w cT.2 (λd hd=>bI d (.inr hd)) ho R h.2)
  .exact h.elim
 |.block id c,Q,g,S,H,a,w,cT,bI,ho,R,h=>by
  refine wpIn_block (wpIn_mono (ia hG bP hm c _ g S H a w cT (λd hd=>bI d (by simpa[de,ae.names]using hd)) ho R h) ?_);intro e a' w' he
  cases e with
  |normal=>exact he
  |exit j=>
   obtain⟨g',S',H',h1,h2,h3⟩:=he;simp only[cg]at h3;simp only[Exit.inBlock];split
   .rename_i hj;rw[if_pos hj]at h3;exact⟨g',S',H',h1,h2,h3⟩
   .rename_i hj;rw[if_neg hj]at h3;exact⟨g',S',H',h1,h2,h3⟩
  |ret=>exact he
  |panic ch=>exact he
  |goto l=>exact he.elim
  |outgrown=>exact he.elim
 |.loop c,Q,g,S,H,a,w,cT,bI,ho,R,h=>by
  obtain⟨I,μ,h0,hr⟩:=h
  have key:∀ (k:Nat) (g:Gh) (S:af) (H:ah) (a:Act) (w:World),g.old=old→Rel P w0 n bu g S H a w→I S H→μ S H=k→∀ (b:Frame) (kk:List Item) (cs:List Frame),b.roundOf=ro→(FR ro).room (cs.length+1+m) →
    ∃e a' w',QQ P w0 n old Q e a' w'/\ArrivesIn (Machine.fenced P (FR ro)) P (lone (b.atR a (.code c::.inLoop c::kk)) cs w) b kk cs e a' w':=by
   intro k
   induction k using Nat.strongRecOn with
   |_ k ih=>
    intro g S H a w ho R hI hk b kk cs y4 jw;obtain⟨e,jX,mg,hq,iV⟩:=ia hG bP hm c _ g S H a w cT (λd hd=>bI d (by simpa[de,ae.names]using hd)) ho R (hr S H hI) b (.inLoop c::kk) cs y4 trivial jw
    cases e with
    |normal=>
     obtain⟨g',S',H',h1,h2,h3,h4⟩:=hq;obtain⟨Hg,FL,GH,zm,sF⟩:=ih _ (by rw[<-hk];exact h4) g' S' H' jX mg h1 h2 h3 rfl b kk cs y4 jw;exact⟨Hg,FL,GH,zm,.of_steps (StepsIn.trans iV (.one (fenced_calm (F:=FR ro) (fr:=b.atR jX (.inLoop c::kk)) trivial jw rfl) stepR_inLoop)) sF⟩
    |exit id=>exact⟨.exit id,jX,mg,hq,.pass (x:=.inLoop c) rfl (λ_ _=>.inl (by simp)) iV⟩
    |goto l=>exact hq.elim
    |ret=>exact⟨.ret,jX,mg,hq,.pass (x:=.inLoop c) rfl (λ_ _=>.inl (by simp)) iV⟩
    |panic ch=>exact⟨.panic ch,jX,mg,hq,.pass (x:=.inLoop c) rfl (λ_ _=>.inl (by simp)) iV⟩
    |outgrown=>exact hq.elim
  intro b kk cs y4 hF jw;obtain⟨e,a',w',hq,iV⟩:=key _ g S H a w ho R h0 rfl b kk cs y4 jw;exact⟨e,a',w',hq,.of_steps (.one (fenced_calm (F:=FR ro) (fr:=b.atR a (.code (.loop c)::kk)) trivial jw rfl) stepR_loop) iV⟩
 |.exit id,Q,g,S,H,a,w,_,bI,ho,R,h=>wpIn_exit ⟨g,S,H,ho,R,h⟩
 |.ret,Q,g,S,H,a,w,_,bI,ho,R,h=>wpIn_ret ⟨g,S,H,ho,R,h⟩
 |.rangeFunc ..,_,_,_,_,_,_,_,_,_,_,h=>h.elim
 |.scope _,_,_,_,_,_,_,_,_,_,_,h=>h.elim
 |.label _,_,_,_,_,_,_,_,_,_,_,h=>h.elim
 |.goto _,_,_,_,_,_,_,_,_,_,_,h=>h.elim
 |.refuse _,_,_,_,_,_,_,_,_,_,_,h=>h.elim
def SW.pt (hG:aw GI) (hm:P.follows .mixedOrders=true) {c:Code} (hc:jV c=true) (bI:∀ d∈(de P n c).names,¬ old.bx d) {ac:ae} (jN:de P n c=ac)
  (h:bD P GI ac (Q.bD old) S H):SW P GI n ro c Q old S H:=by
 subst jN;intro w0 g a w m bP ho R
 exact wpIn_mono (ia hG bP hm c _ g S H a w hc bI ho R h) λ_ _ _ hq=>tq hq
end
def ss(g:Gh)(b:Nat):Prop:=g.base<=b/\g.hi b=0/\g.owner b=none/\∀i,g.al i≠some b
structure ft(M:Nat->Prop)(w w':World):Prop where
 os:w'.os=w.os
 tape:w'.tape=w.tape
 output:w'.output=w.output
 size:w.heap.size<=w'.heap.size
 block:∀b,b<w.heap.size->¬M b->w'.heap[b]?=w.heap[b]?
def ft.refl(M:Nat->Prop)(w:World):ft M w w:=⟨rfl,rfl,rfl,Nat.le_refl _,λ_ _ _=>rfl⟩
def ft.trans{M M' Vm:Nat->Prop}{w w' fD:World}(h:ft M w w')(h':ft M' w' fD)(h1:∀b,M b->Vm b)(h2:∀b,M' b->b<w.heap.size->Vm b):ft Vm w fD:=
 ⟨h'.os.trans h.os,h'.tape.trans h.tape,h'.output.trans h.output,Nat.le_trans h.size h'.size,λb hb hm=>
  (h'.block b (Nat.lt_of_lt_of_le hb h.size) λhh=>hm (h2 b hh hb)).trans (h.block b hb λhh=>hm (h1 b hh))⟩
def ft.lz{M:Nat->Prop}{w w':World}(h:Below w.heap.size w w'):ft M w w':=⟨h.os,h.tape,h.output,h.size,λb hb _=>h.block b hb⟩
def ft.below{M:Nat->Prop}{w w':World}(h:ft M w w'){k:Nat}(hk:k<=w.heap.size)(hM:∀b,M b->k<=b):Below k w w':=
 ⟨h.os,h.tape,h.output,h.size,λb hb=>h.block b (Nat.lt_of_lt_of_le hb hk) λhm=>by have:=hM b hm;omega⟩
section
variable{P:Program}{w0:World}{n:Nat}{g:Gh}{S:af}{H:ah}{a:Act}{w w':World}
def Rel.eP(R:Rel P w0 n bu g S H a w){M:Nat->Prop}(ht:ft M w w')(hM:∀b,M b->ss g b)(hk:∀b,M b->g.old.keep b=none):Rel P w0 n bu g S H a w':=by
 have fT:aL g.Pr g.Pr w w':=aL.iO λb k av hp=>ht.block b av λhm=>by
  obtain⟨h1,h2,_⟩:=hM b hm;rcases hp with hp|hp
  .omega
  .rw[h2]at hp;omega
 refine R.ext rfl rfl rfl fT ?_ ?_ ?_ ?_ ?_ ht.size
 .intro i b hi;obtain⟨_,_,_,_,_,h3,_⟩:=R.box i b hi;exact⟨ht.block b (Array.getElem?_eq_some_iff.1 h3).1 λhm=>(hM b hm).2.2.2 i hi,rfl,rfl⟩
 .intro b loc ho
  have av:b<w.heap.size:=by
   rcases Nat.lt_or_ge b w.heap.size with h|h
   .exact h
   .rw[(R.fresh b h).2]at ho;cases ho
  exact⟨ht.block b av λhm=>(by rw[(hM b hm).2.2.1]at ho;cases ho),rfl,ho⟩
 .exact R.below.trans (ht.below (by rw[R.base];exact R.below.size) λb hm=>(hM b hm).1)
 .exact λb hb=>R.fresh b (Nat.le_trans ht.size hb)
 .intro b o Yv ho;exact⟨by rw[ht.block b (Array.getElem?_eq_some_iff.1 ho).1 (λhm=>by rw[hk b hm]at Yv;cases Yv)];exact ho,rfl,rfl⟩
open Classical in
noncomputable def Gh.kJ(g:Gh)(G:Nat->Prop)(ck:Nat->Nat):Gh:={ g with hi:=λb=>if G b then ck b else g.hi b }
def Rel.kJ(R:Rel P w0 n bu g S H a w){G:Nat->Prop}(ck:Nat->Nat)(hG:∀b,G b->ss g b/\b<w.heap.size/\g.old.keep b=none):Rel P w0 n bu (g.kJ G ck) S H a w:=by
 have hn:∀b,¬G b->(g.kJ G ck).hi b=g.hi b:=λb hb=>by simp[Gh.kJ,hb]
 have oJ:∀b k,g.Pr b k->(g.kJ G ck).Pr b k:=by
  intro b k hp
  by_cases hb:G b
  .obtain⟨⟨h1,h2,_⟩,_⟩:=hG b hb;rcases hp with hp|hp
   .omega
   .rw[h2]at hp;omega
  .rcases hp with hp|hp
   .exact .inl hp
   .exact .inr ⟨hp.1,by rw[hn b hb];exact hp.2⟩
 refine R.ext (g':=g.kJ G ck) rfl rfl rfl (aL.same λb k _ hp=>oJ b k hp) ?_ ?_ R.below ?_ ?_ (Nat.le_refl _)
 .intro i b hi;exact⟨rfl,hn b λhb=>(hG b hb).1.2.2.2 i hi,rfl⟩
 .intro b loc ho;exact⟨rfl,hn b (λhb=>by rw[(hG b hb).1.2.2.1]at ho;cases ho),ho⟩
 .intro b hb;exact⟨by rw[hn b (λh=>by have:=(hG b h).2.1;omega)];exact(R.fresh b hb).1,(R.fresh b hb).2⟩
 .intro b o hk ho;exact⟨ho,hn b (λh=>by rw[(hG b h).2.2]at hk;cases hk),rfl⟩
def Rel.qh(R:Rel P w0 n bu g S H a w){l:Nat}{o:Obj}(hl:g.old.keep l=some o)(o':Obj):Rel P w0 n bu { g with old:={ g.old with keep:=aq g.old.keep l (some o') } } S H a (w.putObj l o'):=by
 obtain⟨k1,k2,k3,k4,k5⟩:=R.kept l o hl;have av:l<w.heap.size:=(Array.getElem?_eq_some_iff.1 k2).1
 have lY:∀b,b≠l->(w.putObj l o').heap[b]?=w.heap[b]?:=λb hb=>World.putObj_heap_other hb
 have bQ:∀b k,g.Pr b k->b≠l:=by
  rintro b k hp rfl;rcases hp with hp|hp
  .omega
  .rw[k3]at hp;omega
 have hK:aL g.Pr g.Pr w (w.putObj l o'):=aL.iO λb k _ hp=>lY b (bQ b k hp)
 have j7:(w.putObj l o').heap.size=w.heap.size:=by simp[World.putObj]
 refine{ size:=R.size,defers:=R.defers,facts:=λp hp=>(R.facts p hp).mono hK λ_ _ h=>h,slot:=λt ht hu=>(R.slot t ht hu).mono hK λ_ _ h=>h,own:=λt ht hu=>(R.own t ht hu).keep rfl λb' fg=>⟨lY b' (by rintro rfl;rw[k4]at fg;cases fg),rfl,fg⟩,box:=?_,iB:=R.iB,ij:=R.ij,inj:=R.inj,base:=R.base,below:=?_,fresh:=?_,still:=R.still.trans hK,grown:=by rw[j7];exact R.grown,kept:=?_ }
 .intro i b hi;obtain⟨cs,vs,ty,h1,h2,h3,h4,h5,h6,h7,h8,h9⟩:=R.box i b hi
  have fW:b≠l:=by rintro rfl;exact k5 i hi
  refine⟨cs,vs,ty,h1,h2,by rw[lY b fW];exact h3,h4,h5,h6,λj hj c_=>(h7 j hj c_).mono hK,λj hj c_=>(h8 j hj c_).keep rfl λb' fg=>⟨lY b' (by rintro rfl;rw[k4]at fg;cases fg),rfl,fg⟩,h9⟩
 .refine R.below.trans ⟨rfl,rfl,rfl,by rw[j7];exact Nat.le_refl _,λk hk=>lY k (by omega)⟩
 .intro b hb;rw[j7]at hb;exact R.fresh b hb
 .intro b ob h
  by_cases fW:b=l
  .subst fW
   have:ob=o':=by simpa[aq]using h.symm
   subst this;exact⟨k1,World.putObj_heap_same av,k3,k4,k5⟩
  .have h:g.old.keep b=some ob:=by simpa[aq,fW]using h
   obtain⟨q1,q2,q3,q4,q5⟩:=R.kept b ob h;exact⟨q1,by rw[lY b fW];exact q2,q3,q4,q5⟩
def Rel.EF (R:Rel P w0 n bu g S H a w) (o2:Old) {a2:Act} {S2:af} (hc:o2.c=g.old.c) (aI:a2.tmps.size=n) (cD:a2.defers=o2.ds)
  (hf:∀p∈o2.facts,RV g.Pr g.al w p.1 p.2) (eZ:aL o2.sp g.Pr o2.sw w) (jF:o2.sw.heap.size<=w.heap.size) (hk:∀b o,o2.keep b=some o->ss g b/\w.heap[b]?=some o)
  (hS:∀t,t<n->(S2 t).aA=S2 t/\RV g.Pr g.al w (S2 t) (a2.tmps.getD t undef)):Rel P w0 n bu { g with old:=o2 } S2 H a2 w:=by
 have oJ:({ g with old:=o2 }:Gh).Pr=g.Pr:=by
  funext b k
  simp only[Gh.Pr,hc]
 refine{ size:=aI,defers:=cD,facts:=by rw[oJ];exact hf,slot:=λt ht _=>by rw[oJ];exact(hS t ht).2,own:=λt ht _=>?_,box:=?_,iB:=R.iB,ij:=R.ij,inj:=R.inj,base:=R.base,below:=R.below,fresh:=R.fresh,still:=by rw[oJ];exact eZ,grown:=jF,kept:=?_ }
 .rw[<-(hS t ht).1];exact dD.aA
 .intro i b hi;obtain⟨cs,vs,ty,h1,h2,h3,h4,h5,h6,h7,h8,h9⟩:=R.box i b hi;exact⟨cs,vs,ty,h1,h2,h3,h4,h5,h6,by rw[oJ];exact h7,λj hj c_=>(h8 j hj c_).keep rfl λb hb=>⟨rfl,rfl,hb⟩,h9⟩
 .intro b o h;obtain⟨⟨q1,q3,q4,q5⟩,q2⟩:=hk b o h;exact⟨q1,q2,q3,q4,q5⟩
def HY(L:Nat->Bool):AV->Bool
 |.box i _=>L i
 |.func ..|.fN _=>true
 |_=>false
def lG(L:Nat->Bool)(v:AV):AV:=match v with
 |.box i o=>if L i then .bh else .box i o
 |.func fn f c=>if f.any (HY L)||c.any (HY L)then .bh else .func fn f c
 |.fN _=>.bh
 |v=>v.aA
def RV.lG{Pr:Nat->Nat->Prop}{al:Nat->Option Nat}{w:World}{v:AV}{c:Value}{L:Nat->Bool}(h:RV Pr al w v c):RV Pr al w (Go.AL.lG L v) c:=by
 have hd:=h.aA
 cases v<;>simp only[Go.AL.lG]<;>(try exact hd)
 .split
  .exact .bh _
  .exact h
 .split
  .exact .bh _
  .exact h
 .exact .bh _
def Mw(L:Nat->Bool)(v:AV):(lG L v).aA=lG L v:=by
 cases v<;>simp only[lG]<;>try rfl
 .rename_i o es;cases o<;>rfl
 .split<;>rfl
 .split<;>rfl
def Ma(L:Nat->Bool)(v:AV):flat (lG L v)=true:=by
 cases v<;>simp only[lG]<;>try rfl
 .rename_i o es;cases o<;>rfl
 .split<;>rfl
 .split
  .rfl
  .rename_i fn f c h;simp only[Bool.not_eq_true,Bool.or_eq_false_iff,List.any_eq_false]at h;simp only[flat,Bool.and_eq_true,List.all_eq_true];refine⟨λv hv=>?_,λv hv=>?_⟩
   .have:=h.1 v hv
    cases v<;>first|rfl|(cases this;done)
   .have:=h.2 v hv
    cases v<;>first|rfl|(cases this;done)
def Is(L:Nat->Bool)(v:AV)(d:Nat)(hd:L d=true):aT d (lG L v)=lG L v:=by
 have key:∀v,HY L v=false->¬iQ d v=true:=by
  intro v hv hs
  cases v<;>simp only[iQ]at hs<;>(try cases hs)<;>(try cases hv)
  simp only[beq_iff_eq]at hs;subst hs;simp only[HY,hd]at hv;cases hv
 cases v<;>simp only[lG]<;>try rfl
 .rename_i o es;cases o<;>rfl
 .split
  .rfl
  .rename_i i o h;simp only[aT];rw[if_neg];rintro rfl;exact h hd
 .split
  .rfl
  .rename_i fn f c h;simp only[Bool.not_eq_true,Bool.or_eq_false_iff,List.any_eq_false]at h;simp only[aT];rw[if_neg];simp only[Bool.or_eq_true,List.any_eq_true,not_or,not_exists,not_and];exact⟨λv hv=>key v (h.1 v hv),λv hv=>key v (h.2 v hv)⟩
end
structure Cons(P:Program)(GI:World->Prop)(l:Nat)(xs:List AV) where
 J:Nat->(Nat->Prop)->(Nat->Nat->Prop)->World->Prop
 X:(Nat->Prop)->(Nat->Nat->Prop)->World->Prop
 gi:∀{k M Pr w},J k M Pr w->GI w
 apart:∀{k M Pr w},J k M Pr w->∀b j,M b->¬Pr b j
 eP:∀{k M M' Pr w w'},J k M Pr w->ft M w w'->(∀b,M' b->b<w'.heap.size/\(M b\/w.heap.size<=b))->J k M' Pr w'
 Tg:∀{M M' Pr w w'},X M Pr w->ft M w w'->(∀b,M' b->b<w'.heap.size/\(M b\/w.heap.size<=b))->X M' Pr w'
 round:∀{k:Nat}(hk:k<xs.length){M Pr w}(G:Nat->Prop)(ck:Nat->Nat)(c:Value),J k M Pr w->(∀b,G b->M b)->RD (λb j=>Pr b j\/(G b/\j<ck b)) w xs[k] c->
  ∃f tmps assign body,(Instr.yield l #[c]).run P w=.ok (.round l f tmps assign body) w/\
   ∀m,RoundIn (FR none) m P l f tmps assign body w λe w'=>(∀b,M b->¬G b->w'.heap[b]?=w.heap[b]?)/\∃dB,aL Pr dB w w'/\
    ((e=.returned (.bool true)/\J (k+1) (λb=>M b/\¬G b) dB w')\/(e=.returned (.bool false)/\X (λb=>M b/\¬G b) dB w'))
def bU:Nat->Option Nat:=λ_=>none
def nK(P:Program)(GI:World->Prop)(f:Nat)(caps:List AV)(xs:List AV):Prop:=
 ∀(l:Nat)(C:Cons P GI l xs)(w:World)(Pr:Nat->Nat->Prop)(bp:Array Value),C.J 0 (λ_=>False) Pr w->caps.length=bp.size->
  (∀i (h:i<caps.length)(h':i<bp.size),RV Pr bU w caps[i] bp[i])->
  Calls P f (#[.func (.yield l) #[] #[]]++bp) w λe w'=>∃v M dB,e=.returned v/\(C.J xs.length M dB w'\/C.X M dB w')
def Ej:AV->Bool
 |.box ..|.func ..|.fN _=>false
 |_=>true
def JC:AV->Bool
 |.box ..|.fN _=>false
 |.func _ f c=>f.all Ej&&c.all Ej
 |_=>true
def RV.J5{Pr:Nat->Nat->Prop}{al:Nat->Option Nat}{w:World}{v:AV}{c:Value}(h:RV Pr al w v c)(hv:Ej v=true):RV Pr Go.AL.bU w v c:=by
 cases h with
 |data v c h=>exact .data _ _ h
 |box=>cases hv
 |func=>cases hv
 |fN=>cases hv
 |bh c=>exact .bh c
def RV.bU{Pr:Nat->Nat->Prop}{al:Nat->Option Nat}{w:World}{v:AV}{c:Value}(h:RV Pr al w v c)(hv:JC v=true):RV Pr Go.AL.bU w v c:=by
 cases h with
 |data v c h=>exact .data _ _ h
 |box=>cases hv
 |func fn f c vs us h1 h2 r1 r2=>
  simp only[JC,Bool.and_eq_true,List.all_eq_true]at hv;exact .func _ _ _ _ _ h1 h2 (λi hi ck=>(r1 i hi ck).J5 (hv.1 _ (List.getElem_mem hi))) (λi hi ck=>(r2 i hi ck).J5 (hv.2 _ (List.getElem_mem hi)))
 |fN=>cases hv
 |bh c=>exact .bh c
def Old.mark(o:Old)(D:Nat):Old:={ o with ds:={ target:=.collected D,args:=#[] }::o.ds,keep:=aq o.keep D (some (.deferred (some []))) }
def E1:dQ->Option Code
 |.exit id=>some (.exit id)
 |.ret=>some .ret
 |_=>none
def lK(I:ah->Prop)(Ix:dQ->ah->Prop):dQ->af->ah->Prop
 |.normal,_,H=>I H
 |.panic _,_,_=>False
 |e,_,H=>Ix e H
def aB(K:af->ah->Prop):dQ->af->ah->Prop
 |.normal,S,H=>K S H
 |_,_,_=>False
section
variable{P:Program}{GI:World->Prop}{n:Nat}{S:af}{H:ah}
open Classical in
def SW.range (hG:aw GI) (hm:P.follows .mixedOrders=true) {old:Old} {Q:fH} {E3:Operand} {y:cm} {p:Tmp} {assign body:Code} {f:Nat} {caps xs:List AV}
  (hg:du n E3=some y) (hS:ev S y=.func (.func f) [] caps) (hf:dz P f=true) (nM:caps.all JC=true) (my:nK P GI f caps xs) (hp:p<n) (iC:∀x∈xs,x.aA=x)
  (L:Nat->Bool) {aa ab:ae} (haa:de P n assign=aa) (H_:de P n body=ab) (hLa:∀d∈aa.names,L d=true) (hLb:∀d∈ab.names,L d=true) (hLo:∀d,L d=true->¬old.bx d)
  (yx:jV assign=true) (lF:jV body=true) (I:Nat->ah->Prop) (Ix:dQ->ah->Prop) (h0:I 0 H)
  (qn:∀k (hk:k<xs.length) H',I k H'->bD P GI aa (aB (bD P GI ab (lK (I (k+1)) Ix))) (aq (λt=>lG L (S t)) p xs[k]) H')
  (Ud:∀D H',old.keep D=none->I xs.length H'->Q .normal (old.mark D) (λt=>lG L (S t)) H')
  (T5:∀D e H',old.keep D=none->(E1 e).isSome=true->Ix e H'->Q e (old.mark D) (λt=>lG L (S t)) H'):
  SW P GI n none (.rangeFunc E3 #[p] assign body) Q old S H:=by
 subst haa H_;intro w0 g a w m bP ho R;subst ho;refine wpIn_rangeFunc ?_;intro fn YV
 obtain⟨rec,vV⟩:∃rec:LoopState->Option Code->Loop,rec=λst pe=>{ state:=st,pending:=pe,fn,tmps:=a.tmps,params:=#[p],assign,body,defers:=w.heap.size }:=⟨_,rfl⟩
 obtain⟨W1,QF⟩:∃W1,(w.alloc (.deferred (some []))).alloc (.loop (rec .ready none))=W1:=⟨_,rfl⟩
 obtain⟨D,hD⟩:∃D,w.heap.size=D:=⟨_,rfl⟩
 have hL1:W1.heap[D+1]?=some (.loop (rec .ready none)):=by
  rw[<-QF,<-hD];have:=World.alloc_heap_new (w.alloc (.deferred (some []))) (.loop (rec .ready none));rwa [World.size_alloc]at this
 have hK1:W1.heap[D]?=some (.deferred (some [])):=by
  rw[<-QF,<-hD];exact(Below.heap_alloc _ _ _ (by simp)).trans (World.alloc_heap_new w _)
 have l_:Below w.heap.size w W1:=by
  rw[<-QF];exact(((Below.refl _ w).alloc (Nat.le_refl _) _).alloc (by simp) _)
 have R1:Rel P w0 n bu g S H a W1:=R.kP l_
 have hle:g.base<=D:=by rw[<-hD,R.base];exact R.below.size
 have oT:∀b,D<=b->ss g b:=λb hb=>⟨by omega,(R.fresh b (by omega)).1,(R.fresh b (by omega)).2,λi hi=>by
  obtain⟨_,_,_,_,_,h3,_⟩:=R.box i b hi;have:=(Array.getElem?_eq_some_iff.1 h3).1
  omega⟩
 have yR:∀b,D<=b->g.old.keep b=none:=λb hb=>by
  cases hk:g.old.keep b with
  |none=>rfl
  |some o=>have:=(Array.getElem?_eq_some_iff.1 (R.kept b o hk).2.1).1;omega
 have rK:=R.ev hg (λ_ _=>id);rw[hS]at rK
 obtain⟨us,pZ,jr,Vg⟩:∃us:Array Value,a.eval E3=.func (.func f) #[] us/\caps.length=us.size/\∀i (h:i<caps.length)(h':i<us.size),RV g.Pr bU W1 caps[i] us[i]:=by
  generalize hq:a.eval E3=q at rK
  cases rK with
  |data _ _ h=>cases h
  |func _ _ _ vs us h1 h2 r1 r2=>
   have:vs=#[]:=Array.eq_empty_of_size_eq_zero (by simpa using h1.symm);subst this;refine⟨us,rfl,h2,λi h h'=>?_⟩;have:=(r2 i h h').bU (by simp only[List.all_eq_true]at nM;exact nM _ (List.getElem_mem h))
   exact this.mono (aL.fI (λb av=>l_.block b av) λ_ _ _ h=>h) λ_ _ h=>h
 let Se:af:=λt=>lG L (S t)
 let al:Act:={ tmps:=a.tmps,defers:=[] }
 let fs:List (AV×Value):=(List.range n).map λt=>(Se t,a.tmps.getD t undef)
 let kp:Nat->Option Obj:=aq (aq g.old.keep D (some (.deferred (some [])))) (D+1) (some (.loop (rec .ready none)))
 have bB:∀q∈fs++g.old.facts,flat q.1=true/\∀d,¬(L d=false)->aT d q.1=q.1:=by
  intro q hq;rcases List.mem_append.1 hq with h|h
  .obtain⟨t,_,rfl⟩:=List.mem_map.1 h;exact⟨Ma L _,λd hd=>Is L _ d (by simpa using hd)⟩
  .exact⟨(g.old.ok q h).1,λd hd=>(g.old.ok q h).2 d (hLo d (by simpa using hd))⟩
 let mk:(Nat->Option Obj)->(Nat->Nat->Prop)->World->Old:=λkeep sp sw=>
  { c:=g.old.c,facts:=fs++g.old.facts,bx:=λd=>L d=false,ds:=[],keep:=keep,sp:=sp,sw:=sw,ok:=bB }
 let Cl:Old:=mk kp g.old.sp g.old.sw
 let kx:Code->Nat->Option Obj:=λc=>aq kp (D+1) (some (.loop (rec .done (some c))))
 have Uk:∀t,(Se t).aA=Se t:=λt=>Mw L _
 have aI:a.tmps.size=n:=R.size
 have Ka:∀{g':Gh}{W:World}{H':ah}{n' S' a'},Rel P w0 n' bu g' S' H' a' W->g'.old.facts=fs++g.old.facts->∀t,t<n->(Se t).aA=Se t/\RV g'.Pr g'.al W (Se t) (a.tmps.getD t undef):=by
  intro g' W H' n' S' a' R' hfa t ht;exact⟨Uk t,R'.facts (Se t,a.tmps.getD t undef) (by rw[hfa];exact List.mem_append_left _ (List.mem_map.2 ⟨t,List.mem_range.2 ht,rfl⟩))⟩
 have aal:∀b,D<=b->b≠D->b≠D+1->kp b=none:=λb hb h1 h2=>by simp[kp,aq,h1,h2,yR b hb]
 have Mp:kp (D+1)=some (.loop (rec .ready none)):=aJ _ _ _
 let J:Nat->(Nat->Prop)->(Nat->Nat->Prop)->World->Prop:=λk M Pr W=>∃g' H',Rel P w0 n bu g' Se H' al W/\g'.old=Cl/\g'.Pr=Pr/\I k H'/\∀b,M b->ss g' b/\b<W.heap.size/\kp b=none
 let X:(Nat->Prop)->(Nat->Nat->Prop)->World->Prop:=λM Pr W=>∃e jc g' H',Rel P w0 n bu g' Se H' al W/\g'.old=mk (kx jc) g.old.sp g.old.sw/\E1 e=some jc/\g'.Pr=Pr/\Ix e H'/\∀b,M b->ss g' b/\b<W.heap.size/\kp b=none
 have Be:∀{g':Gh}{H':ah}{W:World},Rel P w0 n bu g' Se H' al W->GI W:=λR'=>by
  have hb:=R'.below;rw[R'.base]at hb;exact hG w0 _ bP hb
 have OG:∀{g':Gh}{H':ah}{W:World}(k':Nat->Option Obj),Rel P w0 n bu g' Se H' al W->g'.old.keep=k'->(∀b,kp b=none↔k' b=none)->∀b,W.heap.size<=b->ss g' b/\kp b=none:=by
  intro g' H' W k' R' hk zc b hb;refine⟨⟨?_,(R'.fresh b hb).1,(R'.fresh b hb).2,λi hi=>?_⟩,?_⟩
  .have:=R'.below.size;rw[R'.base];omega
  .obtain⟨_,_,_,_,_,h3,_⟩:=R'.box i b hi;have:=(Array.getElem?_eq_some_iff.1 h3).1;omega
  .rw[zc]
   cases hq:k' b with
   |none=>rfl
   |some o=>have:=(Array.getElem?_eq_some_iff.1 (R'.kept b o (by rw[hk];exact hq)).2.1).1;omega
 have Ar:∀c b,kp b=none↔kx c b=none:=λc b=>by
  by_cases hb:b=D+1
  .subst hb;simp[Mp,kx,aq]
  .simp[kx,aq,hb]
 let C:Cons P GI (D+1) xs:={
  J:=J
  X:=X
  gi:=λ⟨g',H',R',_⟩=>Be R'
  apart:=by
   rintro k M Pr W ⟨g',H',R',e1,rfl,e3,e4⟩ b j hb hp;obtain⟨⟨h1,h2,_⟩,_⟩:=e4 b hb;rcases hp with hp|hp
   .omega
   .rw[h2]at hp;omega
  eP:=by
   rintro k M M' Pr W W' ⟨g',H',R',e1,e2,e3,e4⟩ ht Sn;have R2:=R'.eP ht (λb hb=>(e4 b hb).1) (λb hb=>by rw[e1];exact(e4 b hb).2.2);refine⟨g',H',R2,e1,e2,e3,λb hb=>?_⟩;obtain⟨q1,q2⟩:=Sn b hb;rcases q2 with q2|q2
   .exact⟨(e4 b q2).1,q1,(e4 b q2).2.2⟩
   .obtain⟨z1,z2⟩:=OG kp R' (by rw[e1]) (λ_=>Iff.rfl) b q2;exact⟨z1,q1,z2⟩
  Tg:=by
   rintro M M' Pr W W' ⟨e,jc,g',H',R',e1,ej,e2,e3,e4⟩ ht Sn;have R2:=R'.eP ht (λb hb=>(e4 b hb).1) (λb hb=>by rw[e1];exact(Ar jc b).1 (e4 b hb).2.2);refine⟨e,jc,g',H',R2,e1,ej,e2,e3,λb hb=>?_⟩;obtain⟨q1,q2⟩:=Sn b hb;rcases q2 with q2|q2
   .exact⟨(e4 b q2).1,q1,(e4 b q2).2.2⟩
   .obtain⟨z1,z2⟩:=OG (kx jc) R' (by rw[e1]) (Ar jc) b q2;exact⟨z1,q1,z2⟩
  round:=by
   rintro k hk M Pr W G ck c ⟨g',H',R',e1,rfl,e3,e4⟩ Me hx
   have hkg:∀b,M b->g'.old.keep b=none:=λb hb=>by rw[e1];exact(e4 b hb).2.2
   have Rc:=R'.kJ (G:=G) ck (λb hb=>⟨(e4 b (Me b hb)).1,(e4 b (Me b hb)).2.1,hkg b (Me b hb)⟩)
   obtain⟨gc,DB⟩:∃gc,g'.kJ G ck=gc:=⟨_,rfl⟩
   rw[DB]at Rc
   have S_:gc.old=Cl:=by rw[<-DB];exact e1
   have hKc:aL g'.Pr gc.Pr W W:=aL.same λb j _ Fs=>by
    rw[<-DB]
    by_cases hb:G b
    .obtain⟨⟨h1,h2,_⟩,_⟩:=e4 b (Me b hb);rcases Fs with hp|hp
     .omega
     .rw[h2]at hp;omega
    .rcases Fs with hp|hp
     .exact .inl hp
     .exact .inr ⟨hp.1,by simpa[Gh.kJ,hb]using hp.2⟩
   have EJ:RD gc.Pr W xs[k] c:=hx.mono (aL.same λb j av Fs=>by
    rcases Fs with Fs|⟨h1,h2⟩
    .by_cases hex:∃u,W.cell? ⟨b,j,none⟩=some u
     .obtain⟨u,hu⟩:=hex;exact(hKc.cell b j Fs u hu).1
     .rw[<-DB]
      by_cases hb:G b
      .obtain⟨⟨h1,h2,_⟩,_⟩:=e4 b (Me b hb);rcases Fs with hp|hp
       .omega
       .rw[h2]at hp;omega
      .rcases Fs with hp|hp
       .exact .inl hp
       .exact .inr ⟨hp.1,by simpa[Gh.kJ,hb]using hp.2⟩
    .rw[<-DB]
     exact .inr ⟨(e4 b (Me b h1)).1.1,by simpa[Gh.kJ,h1]using h2⟩)
   let kr:Nat->Option Obj:=λb=>if M b/\¬G b then W.heap[b]? else kp b
   have Wu:¬M (D+1):=λhh=>by have:=(e4 _ hh).2.2;rw[Mp]at this;cases this
   have Z3:kr (D+1)=some (.loop (rec .ready none)):=by simp[kr,Wu,Mp]
   have Rr:=Rc.EF (mk kr gc.Pr W) (a2:={ tmps:=a.tmps.setIfInBounds p c,defers:=[] }) (S2:=aq Se p xs[k]) (by rw[S_]) (by simpa using aI) rfl
    (λq hq=>Rc.facts q (by rw[S_];exact hq)) (aL.same λ_ _ _ h=>h) (Nat.le_refl _)
    (λb ob hb=>by
     simp only[mk,kr]at hb;split at hb
     .rename_i wF;obtain⟨h1,h2,h3,h4⟩:=(e4 b wF.1).1;exact⟨⟨by rw[<-DB];exact h1,by rw[<-DB];simpa[Gh.kJ,wF.2]using h2,by rw[<-DB];exact h3,by rw[<-DB];exact h4⟩,hb⟩
     .obtain⟨h1,h2,h3,h4,h5⟩:=Rc.kept b ob (by rw[S_];exact hb)
      exact⟨⟨h1,h3,h4,h5⟩,h2⟩)
    (λt ht=>by
     by_cases JV:t=p
     .subst JV;rw[aJ];refine⟨iC _ (List.getElem_mem hk),.data _ _ ?_⟩
      have:(a.tmps.setIfInBounds t c).getD t undef=c:=by simp[aI,ht]
      rw[this];exact EJ
     .rw[aG _ _ JV]
      have:(a.tmps.setIfInBounds p c).getD t undef=a.tmps.getD t undef:=by
       simp[Array.getElem?_setIfInBounds_ne (Ne.symm JV)]
      rw[this]
      exact⟨Uk t,(Rc.slot t ht id)⟩)
   have r_:W.heap[D+1]?=some (.loop (rec .ready none)):=(R'.kept (D+1) _ (by rw[e1];exact Mp)).2.1;have hy:=run_yield (P:=P) (args:=#[c]) r_ (by rw[vV];rfl);rw[vV]at hy
   have hy':(Instr.yield (D+1) #[c]).run P W=.ok (.round (D+1) fn (a.tmps.setIfInBounds p c) assign body) W:=by rw[hy];simp
   refine⟨fn,_,assign,body,hy',λm'=>roundIn_of_wpIn (F:=FR none) trivial ?_⟩;show assign.wpIn (FR (some (D+1))) m' P _ { tmps:=a.tmps.setIfInBounds p c,defers:=[] } W;refine wpIn_mono (ia hG bP hm (old:=mk kr gc.Pr W) assign _ _ _ H' _ W yx (λd hd (hh:L d=false)=>by have:=hLa d hd;rw[this]at hh;cases hh) rfl Rr (qn k hk H' e3)) ?_;intro e a1 w1 hq
   cases e with
   |normal=>
    obtain⟨g1,S1,H1,lH,L1,hb⟩:=hq;have NW:w1.heap[D+1]?=some (.loop (rec .ready none)):=(L1.kept (D+1) _ (by rw[lH];exact Z3)).2.1;have hbr:=run_beginRound (P:=P) NW (by rw[vV]);refine⟨_,hbr,?_⟩;have R2:=L1.qh (l:=D+1) (o:=.loop (rec .ready none)) (by rw[lH];exact Z3) (.loop { rec .ready none with state:=.busy })
    let kb:Nat->Option Obj:=aq kr (D+1) (some (.loop { rec .ready none with state:=.busy }))
    have oV:({ g1.old with keep:=aq g1.old.keep (D+1) (some (.loop { rec .ready none with state:=.busy })) }:Old)=mk kb gc.Pr W:=by rw[lH]
    refine wpIn_mono (ia hG bP hm (old:=mk kb gc.Pr W) body _ _ _ _ _ _ lF (λd hd (hh:L d=false)=>by have:=hLb d hd;rw[this]at hh;cases hh) oV R2 hb) ?_;have Ww:kb (D+1)=some (.loop { rec .ready none with state:=.busy }):=aJ _ _ _
    have fin:∀ (g3:Gh) (S3:af) (H3:ah) (a3:Act) (w3:World) (jump:Option Code),g3.old=mk kb gc.Pr W→Rel P w0 n bu g3 S3 H3 a3 w3 →
      ∃w4,(Instr.endRound (D+1) jump).run P w3=.ok (.bool jump.isNone) w4/\(∀b,M b->¬G b->w4.heap[b]?=W.heap[b]?)/\∃g4,aL g'.Pr g4.Pr W w4/\
       Rel P w0 n bu g4 Se H3 al w4/\g4.old=mk (aq kp (D+1) (some (.loop (rec (if jump.isNone then .ready else .done) jump)))) g.old.sp g.old.sw/\∀b,M b/\¬G b->ss g4 b/\b<w4.heap.size/\kp b=none:=by
     intro g3 S3 H3 a3 w3 jump pH R3;have hl3:w3.heap[D+1]?=some (.loop { rec .ready none with state:=.busy }):=(R3.kept (D+1) _ (by rw[pH];exact Ww)).2.1;have GW:=run_endRound (P:=P) jump hl3
     obtain⟨w4,ib⟩:∃w4,w3.putObj (D+1) (.loop { ({ rec .ready none with state:=.busy }:Loop)with state:=if jump.isNone then .ready else .done,pending:=jump })=w4:=⟨_,rfl⟩
     rw[ib]at GW;have R4:=R3.qh (l:=D+1) (o:=.loop { rec .ready none with state:=.busy }) (by rw[pH];exact Ww) (.loop { ({ rec .ready none with state:=.busy }:Loop)with state:=if jump.isNone then .ready else .done,pending:=jump });rw[ib]at R4
     have Bz:({ ({ rec .ready none with state:=.busy }:Loop)with state:=if jump.isNone then .ready else .done,pending:=jump })=rec (if jump.isNone then .ready else .done) jump:=by rw[vV]
     rw[Bz]at R4
     have Vt:({ g3.old with keep:=aq g3.old.keep (D+1) (some (.loop (rec (if jump.isNone then .ready else .done) jump))) }:Old)=mk (aq kr (D+1) (some (.loop (rec (if jump.isNone then .ready else .done) jump)))) gc.Pr W:=by
      rw[pH];simp only[mk,Old.mk.injEq,true_and,and_true]
      funext b
      by_cases ja:b=D+1
      .subst ja;simp[aq]
      .simp[aq,kb,ja]
     obtain⟨g4,hg4⟩:∃g4,({ g3 with old:={ g3.old with keep:=aq g3.old.keep (D+1) (some (.loop (rec (if jump.isNone then .ready else .done) jump))) } }:Gh)=g4:=⟨_,rfl⟩
     rw[hg4]at R4
     have xE:g4.old=mk (aq kr (D+1) (some (.loop (rec (if jump.isNone then .ready else .done) jump)))) gc.Pr W:=by rw[<-hg4];exact Vt
     have XH:aL g'.Pr g4.Pr W w4:=hKc.trans (by have:=R4.still;rw[xE]at this;exact this)
     have XC:∀b,M b->b≠D+1:=by rintro b hb rfl;exact Wu hb
     have TZ:∀b,M b->¬G b->∃ob,W.heap[b]?=some ob/\g4.old.keep b=some ob:=by
      intro b hb pS;have av:=(e4 b hb).2.1;refine⟨W.heap[b],by simp[av],?_⟩;rw[xE];simp[mk,aq,XC b hb,kr,hb,pS,av]
     have R5:=R4.EF (mk (aq kp (D+1) (some (.loop (rec (if jump.isNone then .ready else .done) jump)))) g.old.sp g.old.sw) (a2:=al) (S2:=Se) (by rw[xE]) aI rfl
      (λq hq=>R4.facts q (by rw[xE];exact hq)) (by
       have h1:=R'.still;rw[e1]at h1
       exact h1.trans XH) (by
       have h1:=R'.grown;rw[e1]at h1;have h2:=R4.grown;rw[xE]at h2
       exact Nat.le_trans h1 h2)
      (λb ob hb=>by
       have hq:g4.old.keep b=some ob:=by
        rw[xE];simp only[mk]at hb⊢
        by_cases ja:b=D+1
        .subst ja;simpa[aq]using hb
        .simp only[aG _ _ ja]at hb⊢;simp only[kr];rw[if_neg];exact hb;rintro⟨hMb,_⟩;rw[(e4 b hMb).2.2]at hb;cases hb
       obtain⟨h1,h2,h3,h4,h5⟩:=R4.kept b ob hq
       exact⟨⟨h1,h3,h4,h5⟩,h2⟩)
      (λt ht=>Ka R4 (by rw[xE]) t ht)
     refine⟨w4,GW,λb hb pS=>?_,{ g4 with old:=mk (aq kp (D+1) (some (.loop (rec (if jump.isNone then .ready else .done) jump)))) g.old.sp g.old.sw },?_,R5,rfl,λb hb=>?_⟩
     .obtain⟨ob,h1,h2⟩:=TZ b hb pS;rw[h1];exact(R4.kept b ob h2).2.1
     .have:(({ g4 with old:=mk (aq kp (D+1) (some (.loop (rec (if jump.isNone then .ready else .done) jump)))) g.old.sp g.old.sw }:Gh)).Pr=g4.Pr:=by
       funext b j;simp only[Gh.Pr,xE,mk]
      rw[this];exact XH
     .obtain⟨ob,h1,h2⟩:=TZ b hb.1 hb.2;obtain⟨q1,q2,q3,q4,q5⟩:=R4.kept b ob h2;exact⟨⟨q1,q3,q4,q5⟩,(Array.getElem?_eq_some_iff.1 q2).1,(e4 b hb.1).2.2⟩
    intro e2 a3 w3 LU
    cases e2 with
    |normal=>
     obtain⟨g3,S3,H3,pH,R3,O5⟩:=LU;obtain⟨w4,GW,q1,g4,q3,R4,q4,q5⟩:=fin g3 S3 H3 a3 w3 none pH R3;refine⟨_,w4,GW,q1,g4.Pr,q3,.inl ⟨rfl,g4,H3,R4,?_,rfl,O5,q5⟩⟩;rw[q4];simp only[Cl,mk,Old.mk.injEq,true_and,and_true,Option.isNone_none,if_true]
     funext b
     by_cases ja:b=D+1
     .subst ja;simp[aq,Mp]
     .simp[aq,ja]
    |ret=>
     obtain⟨g3,S3,H3,pH,R3,O5⟩:=LU;obtain⟨w4,GW,q1,g4,q3,R4,q4,q5⟩:=fin g3 S3 H3 a3 w3 (some .ret) pH R3;exact⟨_,w4,GW,q1,g4.Pr,q3,.inr ⟨rfl,.ret,.ret,g4,H3,R4,q4,rfl,rfl,O5,q5⟩⟩
    |exit id=>
     obtain⟨g3,S3,H3,pH,R3,O5⟩:=LU;obtain⟨w4,GW,q1,g4,q3,R4,q4,q5⟩:=fin g3 S3 H3 a3 w3 (some (.exit id)) pH R3;exact⟨_,w4,GW,q1,g4.Pr,q3,.inr ⟨rfl,.exit id,.exit id,g4,H3,R4,q4,rfl,rfl,O5,q5⟩⟩
    |panic ch=>obtain⟨_,_,_,_,_,_,_,_,_,_,hh⟩:=LU;exact hh.elim
    |goto l=>exact LU.elim
    |outgrown=>exact LU.elim
   |exit id=>obtain⟨_,_,_,_,_,hh⟩:=hq;exact hh.elim
   |ret=>obtain⟨_,_,_,_,_,hh⟩:=hq;exact hh.elim
   |panic ch=>obtain⟨_,_,_,_,_,_,_,_,_,_,hh⟩:=hq;exact hh.elim
   |goto l=>exact hq.elim
   |outgrown=>exact hq.elim }
 have RA:∀ (g':Gh) (H':ah) (w2:World) (st:LoopState) (pe:Option Code),st ≠ .busy→Rel P w0 n bu g' Se H' al w2→g'.old=mk (aq kp (D+1) (some (.loop (rec st pe)))) g.old.sp g.old.sw →
   ∃w4 g4,(Instr.endLoop (D+1)).run P w2=.ok pe w4/\Rel P w0 n bu g4 Se H' { a with defers:=[{ target:=.collected D,args:=#[] }]++a.defers } w4/\g4.old=g.old.mark D:=by
  intro g' H' w2 st pe eZ R' e1
  have nv:g'.old.keep (D+1)=some (.loop (rec st pe)):=by rw[e1];exact aJ _ _ _
  have oY:=(R'.kept (D+1) _ nv).2.1;have sj:=run_endLoop (P:=P) oY (by rw[vV];exact eZ);have R2:=R'.qh nv (.loop { rec st pe with state:=.exhausted })
  obtain⟨W4,hW4⟩:∃W4,w2.putObj (D+1) (.loop { rec st pe with state:=.exhausted })=W4:=⟨_,rfl⟩
  rw[hW4]at sj R2
  have hpe:(rec st pe).pending=pe:=by rw[vV]
  rw[hpe]at sj
  have hold:∀b ob,(g.old.mark D).keep b=some ob->({ g' with old:={ g'.old with keep:=aq g'.old.keep (D+1) (some (.loop { rec st pe with state:=.exhausted })) } }:Gh).old.keep b=some ob:=by
   intro b ob hb;simp only[Old.mark]at hb
   by_cases U3:b=D
   .subst U3;rw[aJ]at hb;cases hb;show aq g'.old.keep (b+1) _ b=_;rw[aG _ _ (by omega),e1];show aq kp (b+1) _ b=_;rw[aG _ _ (by omega)];show aq (aq g.old.keep b _) (b+1) _ b=_;rw[aG _ _ (by omega),aJ]
   .rw[aG _ _ U3]at hb
    have av:b<D:=by
     rcases Nat.lt_or_ge b D with h|h
     .exact h
     .rw[yR b h]at hb;cases hb
    show aq g'.old.keep (D+1) _ b=_;rw[aG _ _ (by omega),e1];show aq kp (D+1) _ b=_;rw[aG _ _ (by omega)];show aq (aq g.old.keep D _) (D+1) _ b=_;rw[aG _ _ (by omega),aG _ _ U3];exact hb
  have R3:=R2.EF (g.old.mark D) (a2:={ a with defers:=[{ target:=.collected D,args:=#[] }]++a.defers }) (S2:=Se) (by show g.old.c=g'.old.c;rw[e1]) aI (by show[_]++a.defers=_::_;rw[R.defers];rfl) (λq hq=>R2.facts q ?_) ?_ ?_ (λb ob hb=>?_) (λt ht=>Ka R2 (by show g'.old.facts=_;rw[e1]) t ht)
  .refine⟨_,_,sj,R3,?_⟩
   rfl
  .show q∈g'.old.facts;rw[e1];exact List.mem_append_right _ hq
  .have h:=R2.still
   have:({ g' with old:={ g'.old with keep:=aq g'.old.keep (D+1) (some (.loop { rec st pe with state:=.exhausted })) } }:Gh).old.sp=g.old.sp:=by show g'.old.sp=_;rw[e1]
   rw[this]at h
   have:({ g' with old:={ g'.old with keep:=aq g'.old.keep (D+1) (some (.loop { rec st pe with state:=.exhausted })) } }:Gh).old.sw=g.old.sw:=by show g'.old.sw=_;rw[e1]
   rw[this]at h;exact h
  .have h:=R2.grown
   have:({ g' with old:={ g'.old with keep:=aq g'.old.keep (D+1) (some (.loop { rec st pe with state:=.exhausted })) } }:Gh).old.sw=g.old.sw:=by show g'.old.sw=_;rw[e1]
   rw[this]at h;exact h
  .obtain⟨h1,h2,h3,h4,h5⟩:=R2.kept b ob (hold b ob hb);exact⟨⟨h1,h3,h4,h5⟩,h2⟩
 refine⟨D+1,[{ target:=.collected D,args:=#[] }],W1,{ target:=.fn (.func f) us,args:=#[.func (.yield (D+1)) #[] #[]] },W1,f,#[.func (.yield (D+1)) #[] #[]]++us,W1,?_,?_,λ_ _=>trivial,?_,λh=>by simp[FR,Fence.wide]at h,?_⟩
 .rw[<-QF,vV,<-hD];exact run_enterLoop_outer _ _ _ _ _
 .simp only[resolve,pZ];simp[go_sem]
 .simp[invoke,go_sem,fC hf]
 .refine eA.2 ((my (D+1) C W1 g.Pr us ?_ jr Vg).mono ?_)
  .refine⟨{ g with old:=Cl },H,R1.EF Cl rfl aI rfl (λq hq=>?_) R1.still R1.grown (λb ob hb=>?_) (λt ht=>⟨Uk t,(R1.slot t ht id).lG⟩),rfl,rfl,h0,λb hb=>hb.elim⟩
   .rcases List.mem_append.1 hq with h|h
    .obtain⟨t,ht,rfl⟩:=List.mem_map.1 h;exact(R1.slot t (List.mem_range.1 ht) id).lG
    .exact R1.facts q h
   .simp only[Cl,mk,kp]at hb
    by_cases h1:b=D+1
    .subst h1;rw[aJ]at hb;cases hb;exact⟨oT _ (by omega),hL1⟩
    .rw[aG _ _ h1]at hb
     by_cases h2:b=D
     .subst h2;rw[aJ]at hb;cases hb;exact⟨oT _ (by omega),hK1⟩
     .rw[aG _ _ h2]at hb;obtain⟨q1,q2,q3,q4,q5⟩:=R1.kept b ob hb;exact⟨⟨q1,q3,q4,q5⟩,q2⟩
  .rintro e w2 ⟨v,M,dB,rfl,hJ|hX⟩
   .obtain⟨g',H',R',e1,_,hI,_⟩:=hJ
    have Az:aq kp (D+1) (some (.loop (rec .ready none)))=kp:=by
     funext b
     by_cases hb:b=D+1
     .subst hb;rw[aJ,Mp]
     .rw[aG _ _ hb]
    obtain⟨w4,g4,h1,R4,h2⟩:=RA g' H' w2 .ready none (by simp) R' (by rw[Az];exact e1);exact⟨none,w4,h1,g4,Se,H',R4,by rw[h2];exact Ud D H' (yR D (Nat.le_refl _)) hI⟩
   .obtain⟨e,jc,g',H',R',e1,ej,_,hI,_⟩:=hX;obtain⟨w4,g4,h1,R4,h2⟩:=RA g' H' w2 .done (some jc) (by simp) R' e1;refine⟨some jc,w4,h1,?_⟩;have hq:=T5 D e H' (yR D (Nat.le_refl _)) (by rw[ej];rfl) hI
    cases e<;>simp only[E1]at ej<;>cases ej
    .exact wpIn_exit ⟨g4,Se,H',R4,by rw[h2];exact hq⟩
    .exact wpIn_ret ⟨g4,Se,H',R4,by rw[h2];exact hq⟩
end
def ea(o:Old):Prop:=∃Ds:List Nat,Ds.Nodup/\o.ds=Ds.map (λD=>{ target:=.collected D,args:=#[] })/\∀D∈Ds,o.keep D=some (.deferred (some []))
def ea.plain{o:Old}(h:o.ds=[]):ea o:=⟨[],.nil,by simpa using h,by simp⟩
def ea.mark{o:Old}{D:Nat}(h:ea o)(hD:o.keep D=none):ea (o.mark D):=by
 obtain⟨Ds,h1,h2,h3⟩:=h
 have hn:D∉Ds:=λhm=>by rw[h3 D hm]at hD;cases hD
 refine⟨D::Ds,List.nodup_cons.2 ⟨hn,h1⟩,by simp[Old.mark,h2],λE hE=>?_⟩;rcases List.mem_cons.1 hE with rfl|hE
 .exact aJ _ _ _
 .show aq o.keep D _ E=_;rw[aG _ _ (λe:E=D=>hn (by rw[<-e];exact hE))];exact h3 E hE
section
variable{P:Program}{GI:World->Prop}{w0:World}{n:Nat}{g:Gh}{S:af}{H:ah}{a:Act}{w:World}
def tG {F:Fence} {m:Nat} {fn:Func} {tmps:Array Value} {R:Ending→World→Prop}:∀ (Ds:List Nat) {g:Gh} {w:World},Rel P w0 n bu g S H a w→Ds.Nodup→(∀ D∈Ds,g.old.keep D=some (.deferred (some []))) →
  (∀g' w',Rel P w0 n bu g' S H a w'->g'.old.c=g.old.c->∃v,(results fn tmps).run P w'=.ok v w'/\R (.returned v) w')->
  LeavesInM F m P fn tmps R (Ds.map λD=>{ target:=.collected D,args:=#[] }) .returning w
 |[],g,w,R',_,_,zl=>zl g w R' rfl
 |D::Ds,g,w,R',cT,hk,zl=>by
  obtain⟨h1,h2⟩:=List.nodup_cons.1 cT;have hD:=hk D List.mem_cons_self;have R2:=R'.qh hD (.deferred none);refine⟨by simp,.inl ⟨D,_,rfl,run_takeDeferred (R'.kept D _ hD).2.1,?_⟩⟩;refine tG Ds R2 h2 (λE hE=>?_) (λg' w' R3 hc=>zl g' w' R3 hc);show aq g.old.keep D _ E=_;rw[aG _ _ (λe:E=D=>h1 (by rw[<-e];exact hE))];exact hk E (List.mem_cons_of_mem _ hE)
def Rel.begin {fn:Func} {args:List AV} {old:Nat→Nat→Prop} {bp:Array Value} (hn:fn.ntmps=n) (hl:args.length≤n) (hlen:args.length=bp.size)
  (hr:∀i (h:i<args.length)(h':i<bp.size),RV old (λ_=>none) w args[i] bp[i]):
  Rel P w n bu { base:=w.heap.size,old:=Old.plain old w,al:=λ_=>none,hi:=λ_=>0,owner:=λ_=>none } (start args) (λ_=>none) { tmps:=bp++Array.replicate (fn.ntmps-bp.size) undef,defers:=[] } w:=by
 have aI:(bp++Array.replicate (fn.ntmps-bp.size) undef).size=n:=by simp;omega
 refine{ size:=aI,defers:=rfl,facts:=λ_ h=>(by cases h),slot:=?_,own:=?_,box:=?_,iB:=?_,ij:=?_,inj:=?_,base:=rfl,below:=Below.refl _ _,fresh:=λb _=>⟨rfl,rfl⟩,still:=⟨λ_ _ h=>h.elim,λ_ h=>h.elim⟩,grown:=Nat.le_refl _,kept:=λ_ _ h=>(by cases h) }
 .intro t ht _
  by_cases Ik:t<args.length
  .have h1:start args t=args[t].aA:=by simp[start,Ik]
   have h2:(bp++Array.replicate (fn.ntmps-bp.size) undef).getD t undef=bp[t]'(by omega):=by
    have:t<bp.size:=by omega
    simp[Array.getElem?_append,this]
   rw[h1,h2];refine((hr t Ik (by omega)).mono (aL.same λb k av hp=>.inl ⟨av,hp⟩) (λ_ _ h=>h)).aA
  .have h1:start args t=bG:=by simp[start,Ik,bG,AV.aA]
   have h2:(bp++Array.replicate (fn.ntmps-bp.size) undef).getD t undef=undef:=by
    have:¬t<bp.size:=by omega
    simp only[Array.getD_eq_getD_getElem?,Array.getElem?_append,this,if_false]
    by_cases hh:t-bp.size<fn.ntmps-bp.size
    .simp[hh]
    .simp[hh]
   rw[h1,h2];exact .data _ _ (sI _ _)
 .intro t ht _;exact gw _ _ _
 .intro i b h;cases h
 .intro i cs h;cases h
 .intro i h;rfl
 .intro i j b h;cases h
def pv(P:Program)(n:Nat)(rs:List ResultVar)(out:iS)(c:Nat->Nat->Prop):fH
 |.normal,o,S,H|.ret,o,S,H=>ea o/\o.c=c/\∃v,cn P n rs S H=some v/\out=.ret v
 |.panic v,o,_,_=>o.ds=[]/\o.c=c/\out=.panic v
 |_,_,_,_=>False
def AC.iL {f:Nat} {fn:Func} {c:Code} {args:List AV} {out:iS} (hf:P.funcs[f]? = some fn) (hb:fn.body=some c) (hn:fn.ntmps=n) (hl:args.length≤n)
  (h:∀cc w,SW P GI n none c (pv P n fn.results.toList out cc) (Old.plain cc w) (start args) (λ_=>none)):AC P GI f args out:=by
 intro w old bp jI hlen hr;refine(eA (ro:=none) (m:=0)).1 (callsIn_of_wp_marks hf hb trivial ?_);have R:Rel P w n bu _ (start args) (λ_=>none) { tmps:=bp++Array.replicate (fn.ntmps-bp.size) undef,defers:=[] } w:=Rel.begin hn hl hlen hr;refine wpIn_mono (h old w w _ _ w 0 jI rfl R) ?_;intro e a' w' he
 have fin:(∃ g' S H,Rel P w n bu g' S H a' w'∧ea g'.old∧g'.old.c=old∧∃ v,cn P n fn.results.toList S H=some v∧out = .ret v) →
   LeavesInM (FR none) 0 P fn a'.tmps (Ends P old w out) a'.defers .returning w':=by
  rintro⟨g',S,H,R',⟨Ds,h1,h2,h3⟩,hc,v,hv,rfl⟩;rw[R'.defers,h2]
  refine tG Ds R' h1 h3 λg2 w2 R2 iI=>?_
  obtain⟨c,r1,r2,r3⟩:=pz R2 hv;refine⟨c,r1,?_,g2.hi,λb hb=>(R2.fresh b hb).1,c,rfl,?_,?_⟩
  .have:=R2.below;rwa [R2.base]at this
  .have:g2.Pr=ji w.heap.size old g2.hi:=by
    funext b k
    simp only[Gh.Pr,ji,R2.base,iI,hc]
   rw[this]at r2;exact .data _ _ r2
  .rwa [R2.base]at r3
 cases e with
 |normal=>exact fin he
 |ret=>exact fin he
 |exit id=>obtain⟨_,_,_,_,h⟩:=he;exact h.elim
 |panic chain=>
  obtain⟨o,v,c,hi,S,H,h1,h2,h3,h4,h5,h6,rfl,rfl⟩:=he;subst h2;show LeavesInM (FR none) 0 P fn a'.tmps _ a'.defers _ w';rw[h1,h6];exact⟨h3,hi,h4,c,rfl,h5⟩
 |goto l=>exact he.elim
 |outgrown=>exact he.elim
def Ss(n:Nat)(rs:List ResultVar)(out:iS):dQ->af->ah->Prop
 |.normal,S,H|.ret,S,H=>∃t fn fi ca,rs=[.tmp t]/\t<n/\S t=.func fn fi ca/\out=.ret (fz H (S t))
 |_,_,_=>False
open Classical in
def AC.wH (hG:aw GI) (hm:P.follows .mixedOrders=true) {f:Nat} {fn:Func} {c:Code} {args:List AV} {out:iS} (hf:P.funcs[f]? = some fn) (hb:fn.body=some c) (hn:fn.ntmps=n) (hl:args.length≤n) {ac:ae} (hc:de P n c=ac)
  (h:bD P GI ac (Ss n fn.results.toList out) (start args) (λ_=>none)):AC P GI f args out:=by
 intro w old bp jI hlen hr;refine calls_of_wp hf hb ?_;subst hc;have R:Rel P w n bu _ (start args) (λ_=>none) { tmps:=bp++Array.replicate (fn.ntmps-bp.size) undef,defers:=[] } w:=Rel.begin hn hl hlen hr;refine wp_mono (kX hG jI hm c _ _ _ _ _ w (λ_ _ h=>h) rfl R h) ?_;intro e a' w' he
 have fin:(∃ g' S H,g'.old=Old.plain old w∧Rel P w n bu g' S H a' w'∧∃ t f' fi ca,fn.results.toList=[.tmp t]∧t < n∧S t = .func f' fi ca∧out = .ret (fz H (S t))) →
   a'.defers=[]/\∃v,(results fn a'.tmps).run P w'=.ok v w'/\Ends P old w out (.returned v) w':=by
  rintro⟨g',S,H,e1,R',t,f',fi,ca,hrs,ht,hS,rfl⟩
  have W8:fn.results=#[.tmp t]:=by
   rw[<-Array.toArray_toList (xs:=fn.results),hrs]
  have hv:=R'.fz (R'.slot t ht id) true (λ_=>rfl)
  have Ki:∀b,(∃i,g'.al i=some b)->g'.base<=b/\g'.hi b=0/\∃vs ty,w'.heap[b]?=some (.cells vs ty (0,0)):=by
   rintro b ⟨i,hi⟩;obtain⟨cs,vs,ty,h1,h2,h3,h4,_⟩:=R'.box i b hi;exact⟨h2,h4,vs,ty,h3⟩
  let ck:Nat->Nat:=λb=>if∃i,g'.al i=some b then(match w'.heap[b]? with|some (.cells vs _ _)=>vs.size|_=>0)else g'.hi b
  have oJ:∀b k,g'.Pr b k->ji w.heap.size old ck b k:=by
   intro b k hp
   rcases hp with⟨q1,q2⟩|⟨q1,q2⟩
   .exact .inl ⟨by rw[<-R'.base];exact q1,by rw[e1]at q2;exact q2⟩
   .refine .inr ⟨by rw[<-R'.base];exact q1,?_⟩;show k<(if∃i,g'.al i=some b then _ else g'.hi b);rw[if_neg]
    .exact q2
    .intro hex;rw[(Ki b hex).2.1]at q2;omega
  refine⟨by rw[R'.defers,e1];rfl,a'.tmps.getD t undef,by simp[results,W8],?_,ck,λb hb=>?_,_,rfl,?_,?_⟩
  .have:=R'.below;rwa [R'.base]at this
  .show(if∃i,g'.al i=some b then _ else g'.hi b)=0;rw[if_neg]
   .exact(R'.fresh b hb).1
   .intro hex;obtain⟨_,_,vs,ty,h3⟩:=Ki b hex;have:=(Array.getElem?_eq_some_iff.1 h3).1;omega
  .refine hv.mono ?_ (λ_ _ h=>h);refine{ cell:=λb k hp u hu=>⟨?_,hu⟩,map:=λb hp es cc Ic=>⟨?_,Ic⟩ }
   .rcases hp with hp|⟨_,hex⟩
    .exact oJ b k hp
    .obtain⟨h1,h2,vs,ty,h3⟩:=Ki b hex;refine .inr ⟨by rw[<-R'.base];exact h1,?_⟩;show k<(if∃i,g'.al i=some b then _ else g'.hi b);rw[if_pos hex,h3];simp[World.cell?,h3]at hu;exact(Array.getElem?_eq_some_iff.1 hu).1
   .rcases hp with hp|⟨_,hex⟩
    .exact oJ b 0 hp
    .obtain⟨h1,h2,vs,ty,h3⟩:=Ki b hex;rw[h3]at Ic;cases Ic
  .rw[hS];simp only[fz]
   trivial
 cases e with
 |normal=>exact fin he
 |ret=>exact fin he
 |exit id=>obtain⟨_,_,_,_,_,h⟩:=he;exact h.elim
 |panic chain=>obtain⟨_,_,_,_,_,_,_,_,_,_,h⟩:=he;exact h.elim
 |goto l=>exact he.elim
 |outgrown=>exact he.elim
end
def oc{α:Type}{p A b s:α->Prop}{o:α}(h:A o)(k:s o)(hp:p o:=by kernel_rfl)(hb:b o:=by simp[bR,aq]):∃o,p o/\A o/\b o/\s o:=⟨o,hp,h,hb,k⟩
inductive TT(α:Type) where
 |lf (v:α)
 |nd (a b c d:TT α)
namespace TT
variable{α:Type}
noncomputable def G(z:α)(k:Nat):TT α->Nat->α:=
 Nat.rec (motive:=λ_=>TT α->Nat->α) (λt _=>match t with|.lf v=>v|.nd ..=>z)
  (λ_ ih t i=>match t with
   |.lf v=>v
   |.nd a b c d=>bif Nat.beq (i % 4) 0 then ih a (i/4)else bif Nat.beq (i % 4) 1 then ih b (i/4)else bif Nat.beq (i % 4) 2 then ih c (i/4)else ih d (i/4)) k
noncomputable def P(k:Nat):TT α->Nat->α->TT α:=
 Nat.rec (motive:=λ_=>TT α->Nat->α->TT α) (λ_ _ v=>.lf v)
  (λ_ ih t i v=>match t with
   |.lf x=>bif Nat.beq (i % 4) 0 then .nd (ih (.lf x) (i/4) v) (.lf x) (.lf x) (.lf x)else bif Nat.beq (i % 4) 1 then .nd (.lf x) (ih (.lf x) (i/4) v) (.lf x) (.lf x)else bif Nat.beq (i % 4) 2 then .nd (.lf x) (.lf x) (ih (.lf x) (i/4) v) (.lf x)else .nd (.lf x) (.lf x) (.lf x) (ih (.lf x) (i/4) v)
   |.nd a b c d=>bif Nat.beq (i % 4) 0 then .nd (ih a (i/4) v) b c d else bif Nat.beq (i % 4) 1 then .nd a (ih b (i/4) v) c d else bif Nat.beq (i % 4) 2 then .nd a b (ih c (i/4) v) d else .nd a b c (ih d (i/4) v)) k
noncomputable def M(f:α->α)(k:Nat):TT α->TT α:=
 Nat.rec (motive:=λ_=>TT α->TT α) (λt=>match t with|.lf v=>.lf (f v)|t=>t)
  (λ_ ih t=>match t with
   |.lf v=>.lf (f v)
   |.nd a b c d=>.nd (ih a) (ih b) (ih c) (ih d)) k
end TT
abbrev TS:=TT AV
abbrev TH:=TT (Option (List AV))
noncomputable def gT(s:TS):af:=λt=>bif Nat.ble 256 t then bG else s.G bG 4 t
noncomputable def gU(h:TH):ah:=λt=>bif Nat.ble 256 t then none else h.G none 4 t
noncomputable def zK{α:Type}(s:TT α)(i:Nat)(v:α):Option (TT α):=bif Nat.ble 256 i then none else some (s.P 4 i v)
noncomputable def Kd(d:Nat)(s:TS):TS:=s.M (aT d) 4
noncomputable def RU(s:TS):Option Nat->AV->Option TS
 |some d,v=>zK s d v
 |none,_=>some s
noncomputable def WQ(e:aD)(dst:Option Nat)(s:TS)(h:TH):Option (TS×TH):=
 match(match e.dm with|some t=>zK s t (gT s t).aA|none=>some s)with
 |none=>none
 |some s1=>match RU s1 dst e.v with
  |none=>none
  |some s2=>match e.hw with
   |some (i,cs)=>match zK h i (some cs)with
    |some h'=>some (s2,h')
    |none=>none
   |none=>some (s2,h)
inductive J6 where
 |go (s:TS) (h:TH)|panic (v:AV)
noncomputable def J6.on(K:af->ah->Prop)(Qp:AV->Prop):J6->Prop
 |.go s h=>K (gT s) (gU h)
 |.panic v=>Qp v
noncomputable def RB(dst:Option Nat)(s:TS)(h:TH):iS->Option J6
 |.ret v=>(RU s dst v).map λs'=>.go s' h
 |.panic v=>some (.panic v)
section
variable{P:Program}{GI:World->Prop}{call:Aj}(jv:∀f args out,call f args=some out->AC P GI f args out)
include jv
end
end Go.AL
namespace Go.AL
open Go.RowKit
def Qu:dS->af->ah->Option aD
 |.mv take x=>λS H=>if take then some { v:=ev S x,dm:=a_ x }else some { v:=(ev S x).aA }
 |.pick c a b=>λS H=>match ev S c with
  |.bool t=>some { v:=(if t then ev S a else ev S b).aA }
  |_=>none
 |.build zero parts=>λS H=>(cL zero (parts.map λ(o,s,x)=>(o,s,ev S x))).map λcs=>{ v:=.agg cs }
 |.buildSlice _ e size parts=>λS H=>
  if aF size (parts.map (ev S))&&parts.length*size<=16777216 then some { v:=.slice (.own e) ((parts.map (ev S)).map AV.vw) }else none
 |.load hr agg size x=>λS H=>match ev S x with
  |.box i off=>if hr.okB i then match H i with
   |some cs=>(aZ agg size (cs.drop off)).map λv=>{ v:=v }
   |none=>none
   else none
  |.ref cs=>(aZ agg size cs).map λv=>{ v:=v }
  |_=>none
 |.loadT hr x=>λS H=>match ev S x with
  |.box i off=>if hr.okB i then match H i with
   |some cs=>match cs[off]? with
    |some v=>some { v:=v,hw:=some (i,cs.set off v.aA) }
    |none=>none
   |none=>none
   else none
  |_=>none
 |.store hr size x y=>λS H=>match ev S x with
  |.box i off=>if hr.okB i then match H i with
   |some cs=>if (ev S y).cells.length=size∧off+size≤cs.length∧(ev S y).storable=true then
     some { v:=bG,dm:=a_ y,hw:=some (i,aR cs off (ev S y).bm) }else none
   |none=>none
   else none
  |_=>none
 |.bin op x y=>λS H=>(ee op (ev S x) (ev S y)).map λv=>{ v:=v }
 |.zS neg x y=>λS H=>match ev S x,ev S y with
  |.bool a,.bool b=>some { v:=.bool (if neg then a !=b else a==b) }
  |_,_=>none
 |.eqs neg k x y=>λS H=>match ev S x,ev S y with
  |.agg xs,.agg ys=>match kC xs,kC ys with
   |some a,some b=>if a.length=k/\b.length=k then some { v:=.bool (if neg then a !=b else a==b) }else none
   |_,_=>none
  |_,_=>none
 |.mN ag len size x i=>λS H=>match ev S x,ev S i with
  |.agg cs,.int .i64 k=>if 0<=k/\k<len then(aZ ag size (cs.drop (k.toNat*size))).map λv=>{ v:=v }else none
  |_,_=>none
 |.mM xs=>λS H=>if(xs.map (ev S)).all tW then some { v:=.fN (xs.map (ev S)) }else none
 |.mL len x i=>λS H=>match ev S x,ev S i with
  |.fN fs,.int .i64 k=>if 0≤k∧k < len then match fs[k.toNat]? with
    |some v=>if tW v then some { v:=v }else none
    |none=>none
   else none
  |_,_=>none
 |.vy x=>λS H=>match ev S x with
  |.slice _ es=>(bytesOf es).map λl=>{ v:=.str l }
  |_=>none
 |.lookup k z x i=>λS H=>match ev S x,ev S i with
  |.map ks vs,.agg c=>match kC c with
   |some key=>if key.length=k then match mm key ks vs with
     |some (some v)=>some { v:=.eS [v.aA,.bool true] }
     |some none=>some { v:=.eS [z,.bool false] }
     |none=>none
    else none
   |none=>none
  |_,_=>none
 |.not x=>λS H=>match ev S x with
  |.bool b=>some { v:=.bool !b }
  |_=>none
 |.conv k x=>λS H=>match ev S x with
  |.int _ n=>some { v:=.int k (k.wrap n) }
  |_=>none
 |.iface t x=>λS H=>if(ev S x).storable then some { v:=.iface t (ev S x).vw }else none
 |.BQ fn first cap=>λS H=>some { v:=.func fn (first.map λx=>(ev S x).aA) (cap.map λx=>(ev S x).aA) }
 |.mO x lo hi=>λS H=>match ev S x with
  |.str l=>match bound (lo.map (ev S)) 0,bound (hi.map (ev S)) l.length with
   |some a,some b=>if 0<=a/\a<=b/\b<=l.length then some { v:=.str ((l.take b.toNat).drop a.toNat) }else none
   |_,_=>none
  |_=>none
 |.ot len x=>λS H=>match ev S x with
  |.ref cs=>if cs.length=len then some { v:=.slice .view cs }else none
  |_=>none
 |.lZ size x lo hi=>λS H=>match ev S x with
  |.slice _ es=>match bound (lo.map (ev S)) 0,bound (hi.map (ev S)) es.length with
   |some a,some b=>if 0<=a/\a<=b/\b<=es.length/\aF size es=true then some { v:=.slice .view ((es.take b.toNat).drop a.toNat) }else none
   |_,_=>none
  |_=>none
 |.fieldAddr off x=>λS H=>match ev S x with
  |.box i o=>some { v:=.box i (o+off) }
  |.ref cs=>some { v:=.ref (cs.drop off) }
  |_=>none
 |.indexAddr size x i=>λS H=>match ev S x,ev S i with
  |.slice _ es,.int .i64 k=>if 0≤k then match es[k.toNat]? with
    |some v=>if v.cells.length=size then some { v:=.ref v.cells }else none
    |none=>none
   else none
  |_,_=>none
 |.mK x i=>λS H=>match ev S x,ev S i with
  |.str l,.int .i64 k=>if 0≤k then match l[k.toNat]? with
    |some b=>some { v:=.int .u8 b.toNat }
    |none=>none
   else none
  |_,_=>none
 |.extract x i=>λS H=>match ev S x with
  |.eS vs=>(vs[i]?).map λv=>{ v:=v.aA }
  |_=>none
 |.uW x=>λS H=>match ev S x with
  |.str l=>some { v:=.int .i64 l.length }
  |_=>none
 |.pn x=>λS H=>match ev S x with
  |.slice _ es=>some { v:=.int .i64 es.length }
  |_=>none
 |.isNil neg x=>λS H=>match ev S x with
  |.slice _ es=>some { v:=if es.isEmpty then .kI else .bool neg }
  |_=>none
 |.empty _=>λS H=>some { v:=.slice .nil [] }
 |.append _ e size _ x y=>λS H=>match ev S x,ev S y with
  |.slice .nil [],.slice _ ys=>if aF size ys&&ys.length<1048576 then some { v:=.slice (if ys.isEmpty then .nil else .own e) ys }else none
  |.slice (.own e') xs,.slice _ ys=>if e'=e/\(aF size ys&&aF size xs&&(xs.length+ys.length<1048576))=true then some { v:=.slice (.own e) (xs++ys),dm:=a_ x }else none
  |_,_=>none
 |.max x y=>λS H=>match ev S x,ev S y with
  |.int .i64 a,.int .i64 b=>some { v:=.int .i64 (max a b) }
  |_,_=>none
 |.min x y=>λS H=>match ev S x,ev S y with
  |.int .i64 a,.int .i64 b=>some { v:=.int .i64 (min a b) }
  |_,_=>none
 |.assert t zero x=>λS H=>match ev S x with
  |.iface t' v=>some { v:=if t'=t then .eS [v,.bool true]else .eS [zero,.bool false] }
  |.nR=>some { v:=.eS [zero,.bool false] }
  |_=>none
 |_=>λS H=>none
noncomputable def lJ:dS->(P:Program)->(call:Aj)->(dst:Option Nat)->(s:TS)->(h:TH)->Option J6
 |.alloc _ zero=>λ_ _ dst s h=>match dst with
  |some d=>match zK (Kd d s) d (.box d 0),zK h d (some zero)with
   |some s',some h'=>some (.go s' h')
   |_,_=>none
  |none=>none
 |.box _ size x=>λ_ _ dst s h=>match dst with
  |some d=>if (ev (gT s) x).cells.length=size∧(ev (gT s) x).storable=true then
    match zK (Kd d s) d (.box d 0),zK h d (some ((ev (gT s) x).cells.map AV.aA))with
    |some s',some h'=>some (.go s' h')
    |_,_=>none
   else none
  |none=>none
 |.call f args=>λP call dst s h=>match OK P call f (args.map λy=>fz (gU h) (ev (gT s) y)) (args.any λy=>bR (ev (gT s) y))with
  |some out=>RB dst s h out
  |none=>none
 |.gR f args=>λP call dst s h=>match ev (gT s) f with
  |.func (.func k) first cap=>match OK P call k ((first++args.map (ev (gT s))++cap).map (fz (gU h))) ((first++args.map (ev (gT s))++cap).any bR)with
   |some out=>RB dst s h out
   |none=>none
  |_=>none
 |.panic x=>λ_ _ _ s _=>match ev (gT s) x with
  |.iface t v=>some (.panic (.iface t v))
  |_=>none
 |op=>λ_ _ dst s h=>match Qu op (gT s) (gU h)with
  |some e=>(WQ e dst s h).map λ(s',h')=>.go s' h'
  |none=>none
section
variable{P:Program}{GI:World->Prop}{n:Nat}{S:af}{H:ah}{a:Act}{w:World}{ro:Option Nat}{m:Nat}{Q:Exit->Act->World->Prop}
def Rel.Hf (c:Nat→Nat→Prop) (aI:a.tmps.size=n) (cD:a.defers=[]) (hS:∀ t,t < n→(S t).aA=S t∧RV c bU w (S t) (a.tmps.getD t undef)) :
  Rel P w n bu { base:=w.heap.size,old:=Old.plain c w,al:=bU,hi:=λ_=>0,owner:=λ_=>none } S (λ_=>none) a w:={
 size:=aI
 defers:=cD
 facts _ h:=by cases h
 slot t ht _:=(hS t ht).2.mono (aL.same λb k av hp=>.inl ⟨av,hp⟩) (λ_ _ h=>h)
 own t ht _:=by rw[<-(hS t ht).1];exact dD.aA
 box i b h:=by cases h
 iB i cs h:=by cases h
 ij i _:=rfl
 inj i j b h:=by cases h
 base:=rfl
 below:=Below.refl _ _
 fresh b _:=⟨rfl,rfl⟩
 still:=⟨λ_ _ h=>h.elim,λ_ h=>h.elim⟩
 grown:=Nat.le_refl _
 kept _ _ h:=by cases h }
def aK {ops:Array Oper} {i:Nat} {rest:List Nat} {o:Oper} (ho:ops[i]? = some o) (hg:o.guard=none) (cT:cW o.op=true) {v:Value} {w':World}
  (hr:(execOp a.eval o).run P w=.ok (.value v) w') (hk:wpOpsIn (FR ro) m P ops Q rest (a.put o.dst v) w'):wpOpsIn (FR ro) m P ops Q (i::rest) a w:=by
 simp only[wpOpsIn,ho]
 have:Region.wanted o (yielded ops a.tmps)=true:=by simp[Region.wanted,hg]
 rw[if_pos this];refine⟨λ_ _=>trivial,?_⟩;rw[Oper.semAt_eq _ _ _ (λc hc=>by rw[hc]at cT;cases cT),hr];exact hk
def dh {ops:Array Oper} {i:Nat} {rest:List Nat} {o:Oper} (ho:ops[i]? = some o) (hg:o.guard=none) (cT:cW o.op=true) {w':World}
  (hr:(execOp a.eval o).run P w=.ok .skip w') (hk:wpOpsIn (FR ro) m P ops Q rest (a.put o.dst undef) w'):wpOpsIn (FR ro) m P ops Q (i::rest) a w:=by
 simp only[wpOpsIn,ho]
 have:Region.wanted o (yielded ops a.tmps)=true:=by simp[Region.wanted,hg]
 rw[if_pos this];refine⟨λ_ _=>trivial,?_⟩;rw[Oper.semAt_eq _ _ _ (λc hc=>by rw[hc]at cT;cases cT),hr];exact hk
def ik {ops:Array Oper} {i:Nat} {rest:List Nat} {o:Oper} (ho:ops[i]? = some o) (hg:o.guard=none) (cT:cW o.op=true) {f:Nat} {args:Array Value} {w':World}
  (hr:(execOp a.eval o).run P w=.ok (.enter f args) w') {R:Ending->World->Prop} (hc:Calls P f args w' R) (hk:∀e fD,R e fD->∃v,e=.returned v/\wpOpsIn (FR ro) m P ops Q rest (a.put o.dst v) fD):wpOpsIn (FR ro) m P ops Q (i::rest) a w:=by
 simp only[wpOpsIn,ho]
 have:Region.wanted o (yielded ops a.tmps)=true:=by simp[Region.wanted,hg]
 rw[if_pos this];refine⟨λ_ _=>trivial,?_⟩;rw[Oper.semAt_eq _ _ _ (λc hc=>by rw[hc]at cT;cases cT),hr];refine⟨λh=>by simp[FR,Fence.wide]at h,eA.2 (hc.mono λe fD hh=>?_)⟩;obtain⟨v,rfl,h⟩:=hk e fD hh;exact h
def yc {ops:Array Oper} {i:Nat} {rest:List Nat} {o:Oper} (ho:ops[i]? = some o) (hg:o.guard=none) (cT:cW o.op=true) {l f:Nat} {tmps:Array Value} {yw bd:Code} {w':World}
  (hr:(execOp a.eval o).run P w=.ok (.round l f tmps yw bd) w') {R:Ending->World->Prop} (hc:∀m,RoundIn (FR none) m P l f tmps yw bd w' R) (hk:∀e fD,R e fD->∃v,e=.returned v/\wpOpsIn (FR none) m P ops Q rest (a.put o.dst v) fD):wpOpsIn (FR none) m P ops Q (i::rest) a w:=by
 simp only[wpOpsIn,ho]
 have:Region.wanted o (yielded ops a.tmps)=true:=by simp[Region.wanted,hg]
 rw[if_pos this];refine⟨λ_ _=>trivial,?_⟩;rw[Oper.semAt_eq _ _ _ (λc hc=>by rw[hc]at cT;cases cT),hr];refine⟨λh=>by simp[FR,Fence.wide]at h,(hc (m-1)).mono λe fD hh=>?_⟩;obtain⟨v,rfl,h⟩:=hk e fD hh;exact h
def zx(K:Act->World->Prop)(Q:Exit->Act->World->Prop):Exit->Act->World->Prop
 |.normal,a,w=>K a w
 |e,a,w=>Q e a w
def um{F:Fence}{o:Oper}{K K':Act->World->Prop}(h:o.wpIn F m P a w K' (zx K Q)):o.wpIn F m P a w K' Q:=by
 unfold Oper.wpIn at*
 refine⟨h.1,?_⟩;have h2:=h.2
 generalize(o.semAt F.round a.eval).run P w=r at*
 cases r with
 |ok x w'=>
  cases x<;>simp only[Oper.uponIn]at h2⊢<;>first
   |exact h2
   |exact⟨h2.1,CallsIn.mono h2.2 (λe fD he=>by cases e<;>exact he)⟩
   |exact⟨h2.1,RowsIn.mono h2.2 (λ_ _ he=>he)⟩
   |exact⟨h2.1,RoundIn.mono h2.2 (λe fD he=>by cases e<;>exact he)⟩
 |halt x w'=>cases x<;>simp only[Oper.uponIn]at h2⊢<;>exact h2
def jz(ops:Array Oper):Nat->Nat->Array Bool->Bool
 |0,_,listed=>Region.ready .any ops listed==[]
 |k+1,i,listed=>Region.ready .any ops listed==[i]&&jz ops k (i+1) (listed.setIfInBounds i true)
def yY(ops:Array Oper)(p:Nat):Nat->Array Bool->Array Bool->Bool
 |0,la,l=>(Region.ready .any (ops.extract 0 p) la==[])&&jz ops (ops.size-p) p l
 |k+1,la,l=>let r:=Region.ready .any ops l
  r !=[]&&r==Region.ready .any (ops.extract 0 p) la&&r.all (λi=>decide (i<p)&&yY ops p k (la.setIfInBounds i true) (l.setIfInBounds i true))
def cutAt(ops:Array Oper)(p:Nat):Bool:=
 decide (p<=ops.size)&&ops.all (λo=>o.guard.isNone)&&yY ops p p (Array.replicate p false) (Array.replicate ops.size false)
def tO{F:Fence}{ops:Array Oper}(hg:ops.all (λo=>o.guard.isNone)=true):∀(k i:Nat)(l:Array Bool)(a:Act)(w:World),jz ops k i l=true->wpOpsIn F m P ops Q (List.range' i k) a w->wpAnyIn F m P .any ops Q k l a w
 |0,i,l,a,w,h,hh=>⟨by simpa[jz]using h,hh⟩
 |k+1,i,l,a,w,h,hh=>by
  simp only[jz,Bool.and_eq_true,beq_iff_eq]at h;refine⟨λhr=>(by rw[hr]at h;cases h.1),λj hj=>?_⟩;rw[h.1,List.mem_singleton]at hj;subst hj;simp only[List.range'_succ]at hh;rw[wpOpsIn_cons]at hh;exact wpOpIn_mono (λa w hq=>tO hg k _ _ a w h.2 hq) hh
def qS {F:Fence} {ops:Array Oper} {p:Nat} (hp:p≤ops.size) (hg:ops.all (fun o=>o.guard.isNone)=true):∀ (k:Nat) (la l:Array Bool) (a:Act) (w:World),yY ops p k la l=true →
  wpAnyIn F m P .any (ops.extract 0 p) (zx (wpOpsIn F m P ops Q (List.range' p (ops.size-p))) Q) k la a w->wpAnyIn F m P .any ops Q (k+(ops.size-p)) l a w
 |0,la,l,a,w,h,hh=>by
  simp only[yY,Bool.and_eq_true]at h;rw[Nat.zero_add];exact tO hg _ _ _ a w h.2 hh.2
 |k+1,la,l,a,w,h,hh=>by
  simp only[yY,Bool.and_eq_true,bne_iff_ne,ne_eq,beq_iff_eq,List.all_eq_true,decide_eq_true_eq]at h;obtain⟨⟨h1,h2⟩,h3⟩:=h;rw[show k+1+(ops.size-p)=(k+(ops.size-p))+1 by omega];refine⟨λhr=>absurd hr h1,λi hi=>?_⟩
  have ck:i∈Region.ready .any (ops.extract 0 p) la:=by rw[<-h2];exact hi
  obtain⟨nY,hc⟩:=h3 i hi;have hs:=hh.2 i ck;unfold wpOpIn at hs⊢
  have j0:(ops.extract 0 p)[i]?=ops[i]?:=by
   rw[Array.getElem?_extract]
   have:i<min p ops.size-0:=by omega
   rw[if_pos this,Nat.zero_add]
  rw[j0]at hs
  cases ho:ops[i]? with
  |none=>rw[ho]at hs;exact qS hp hg k _ _ a w hc hs
  |some o=>
   rw[ho]at hs
   have iE:o.guard=none:=by
    have:=Array.all_eq_true'.1 hg o (Array.mem_of_getElem? ho);simpa using this
   have hw:∀y,Region.wanted o y=true:=λy=>by simp[Region.wanted,iE]
   simp only[hw,if_true]at hs⊢;exact Oper.wpIn_mono (λa w hq=>qS hp hg k _ _ a w hc hq) (um hs)
def Cr (hm:P.follows .mixedOrders=true) {F:Fence} {id:Nat} {ops:Array Oper} {p:Nat} (h:cutAt ops p=true)
  (hh:wpAnyIn F m P .any (ops.extract 0 p) (zx (wpOpsIn F m P ops Q (List.range' p (ops.size-p))) Q) p (Array.replicate p false) a { w with drawn:=w.drawn+1 }):(Code.region id ops true).wpIn F m P Q a w:=by
 simp only[cutAt,Bool.and_eq_true,decide_eq_true_eq]at h;refine wpIn_region_any hm ?_;have:=qS h.1.1 h.1.2 p _ _ a _ h.2 hh;rwa [show p+(ops.size-p)=ops.size by omega]at this
def eX{F:Fence}{md:Region.Mode}{ops:Array Oper}{Q':Exit->Act->World->Prop}(hQ:∀e a w,Q e a w->Q' e a w):∀(fuel:Nat)(l:Array Bool)(a:Act)(w:World),wpAnyIn F m P md ops Q fuel l a w->wpAnyIn F m P md ops Q' fuel l a w
 |0,_,_,_,h=>⟨h.1,hQ _ _ _ h.2⟩
 |k+1,l,a,w,h=>⟨fun hr=>hQ _ _ _ (h.1 hr),fun i hi=>by
   have hs:=h.2 i hi;unfold wpOpIn at hs⊢
   cases ho:ops[i]? with
   |none=>rw[ho]at hs;exact eX hQ k _ a w hs
   |some o=>
    rw[ho]at hs;simp only at hs⊢;split
    .rename_i hw;rw[if_pos hw]at hs;have hs:=Oper.wpIn_mono (λa w hq=>eX hQ k _ a w hq) hs
     unfold Oper.wpIn at*
     refine⟨hs.1,?_⟩;have h2:=hs.2
     generalize(o.semAt F.round a.eval).run P w=r at*
     cases r with
     |ok x w'=>
      have oq:LetsOut Q->LetsOut Q':=λ⟨a,w,h⟩=>⟨a,w,hQ _ _ _ h⟩
      cases x<;>simp only[Oper.uponIn]at h2⊢<;>first
       |exact h2
       |exact⟨h2.1,CallsIn.mono h2.2 (λe fD he=>by cases e<;>first|exact he|exact hQ _ _ _ he|exact oq he)⟩
       |exact⟨h2.1,RowsIn.mono h2.2 (λ_ _ he=>he)⟩
       |exact⟨h2.1,RoundIn.mono h2.2 (λe fD he=>by cases e<;>first|exact he|exact hQ _ _ _ he|exact oq he)⟩
     |halt x w'=>cases x<;>simp only[Oper.uponIn]at h2⊢<;>first|exact h2|exact hQ _ _ _ h2
    .rename_i hw;rw[if_neg hw]at hs
     exact⟨hs.1,eX hQ k _ _ w hs.2⟩⟩
end
def iP(Pr:Nat->Nat->Prop)(w:World)(size:Nat)(es:List AV)(xs:List Value):Prop:=
 (∀x∈es,x.cells.length=size/\x.storable=true/\∀c∈x.cells,c.one=true)/\∀j (h:j<es.length) k (hk:k<(es[j]).cells.length),∃u,xs[j*size+k]?=some u/\RD Pr w ((es[j]).cells[k]) u
def iP.mono{Pr dB:Nat->Nat->Prop}{w w':World}{size:Nat}{es:List AV}{xs:List Value}(h:iP Pr w size es xs)(hk:aL Pr dB w w'):iP dB w' size es xs:=
 ⟨h.1,λj hj k zc=>let⟨u,h1,h2⟩:=h.2 j hj k zc;⟨u,h1,h2.mono hk⟩⟩
def RD.ofRow {Pr:Nat→Nat→Prop} {w:World} {base:Nat} {e:TypeId} {size:Nat} {v:Value} {es:List AV} {xs:List Value} (cE:w.ownsRow base e size v es.length xs) (hf:iP Pr w size es xs)
  (hpr:∀b,v.ownBlock=some b->∀k,k<es.length*size->Pr b k):RD Pr w (.slice .view es) v:=by
 rcases cE.2 with⟨rfl,hn⟩|⟨g,cap,cur,rfl,mz,hg,BE,vA,lS,oI⟩
 .have:es=[]:=List.eq_nil_of_length_eq_zero hn;subst this;exact .gy _
 .refine .slice _ es g 0 cap size (λk=>xs.getD k undef) BE (λh=>by cases h) (λi h=>(hf.1 _ (List.getElem_mem h)).1) (λi h j hj=>(hf.1 _ (List.getElem_mem h)).2.2 _ (List.getElem_mem hj)) (λk hk=>⟨?_,?_⟩) (λi h j hj=>?_)
  .rw[Nat.zero_add];exact hpr g rfl k hk
  .have av:k<xs.length:=by rw[cE.1];exact hk
   have:=cE.cells (g:=g) rfl k _ (List.getElem?_eq_getElem av);rw[Addr.add_lit]at this;simp only[List.getD_eq_getElem?_getD,List.getElem?_eq_getElem av,Option.getD_some];exact this
  .obtain⟨u,h1,h2⟩:=hf.2 i h j hj;simpa[h1]using h2
def RD.SX{Pr:Nat->Nat->Prop}{w:World}{o:Ow}{es:List AV}{c:Value}(h:RD Pr w (.slice o es) c)(e:TypeId):RD Pr w (.slice (.own e) es) c:=by
 cases h with
 |gy=>exact .gy _
 |iF _ a=>exact .iF _ a
 |slice _ _ b off cap size cs dX hn aI h1 hc hr=>exact .slice _ es b off cap size cs dX (λh=>by cases h) aI h1 hc hr
def kz(e:TypeId)(v:Value)(es:List AV):AV:=match v.ownBlock with
 |some _=>.slice (.own e) es
 |none=>.slice .nil []
def RD.vB{Pr dB:Nat->Nat->Prop}{w:World}{o:Ow}{c:Value}(h:RD Pr w (.slice o []) c):RD dB w (.slice .view []) c:=by
 cases h with
 |gy=>exact .gy _
 |iF _ a=>exact .iF _ a
 |slice _ _ b off cap size cs dX hn aI h1 hc hr=>exact .slice _ [] b off cap size cs dX (λh=>by cases h) (λi h=>by simp at h) (λi h=>by simp at h) (λk h=>by simp at h) (λi h=>by simp at h)
def iP.Nn {Pr:Nat→Nat→Prop} {w:World} {base:Nat} {e:TypeId} {size:Nat} {o:Ow} {c:Value} {es:List AV} {xs:List Value} (hr:RD Pr w (.slice o es) c) (cE:w.ownsRow base e size c es.length xs)
  (iM:∀x∈es,x.cells.length=size/\x.storable=true/\∀c∈x.cells,c.one=true) (Dl:∀x∈es,∀c∈x.cells,iG c=true):iP (λ_ _=>False) w size es xs:=by
 refine⟨iM,λj hj k hk=>?_⟩
 rcases hr.ku size (by simp only[aF,List.all_eq_true,Bool.and_eq_true,beq_iff_eq];exact λx hx=>⟨(iM x hx).2.1,(iM x hx).1⟩)with⟨rfl,_⟩|⟨b2,off,cap,news,jA,hl,hn,lC,Bz⟩
 .simp at hj
 .obtain⟨u,u1,u2⟩:=Bz j hj k hk;refine⟨u,?_,u2.iG (Dl _ (List.getElem_mem hj) _ (List.getElem_mem hk))⟩
  have av:j*size+k<xs.length:=by
   rw[cE.1,<-hl];exact(List.getElem?_eq_some_iff.1 u1).1
  rcases cE.2 with⟨pf,h0⟩|⟨gg,tQ,cur,F4,_⟩
  .rw[List.eq_nil_of_length_eq_zero h0]at hj;simp at hj
  .have e1:=cE.cells (g:=gg) (by rw[F4];rfl) _ _ (List.getElem?_eq_getElem av);have e2:=hn _ _ u1;rw[F4]at jA;cases jA;rw[Addr.add_lit,Nat.zero_add]at e1;rw[Nat.zero_add]at e2;rw[e2]at e1;rw[List.getElem?_eq_getElem av,Option.some.inj e1]
section
variable{P:Program}{n:Nat}{S:af}{a:Act}{w:World}
def jR(pr:Nat->Nat->Prop)(w:World)(bN:Nat)(v:Value):Old:=
 { c:=pr,facts:=[],bx:=λ_=>False,ds:=[],keep:=λb=>if bN<b/\v.ownBlock≠some b then w.heap[b]? else none,sp:=λ_ _=>False,sw:=w,ok:=λ_ h=>by cases h }
def Rel.stack (pr:Nat→Nat→Prop) {bN nm:Nat} {v:Value} {e ty:TypeId} {i:TypeInfo} {es:List AV} {xs:List Value} (aI:a.tmps.size=n) (cD:a.defers=[])
  (hN:w.heap[bN]?=some (.cells #[v] ty (0,0))) (hi:P.info? e=some i) (cE:w.ownsRow (bN+1) e i.size v es.length xs) (hf:iP (λb k=>b<bN/\pr b k) w i.size es xs)
  (hS:∀t,t<n->(S t).aA=S t/\((S t=.box nm 0/\a.tmps.getD t undef=.pointer (some ⟨bN,0,none⟩))\/RV (λb k=>b<bN/\pr b k) bU w (S t) (a.tmps.getD t undef))):
  ∃g,g.old=jR pr w bN v/\g.base=bN/\g.al=(λj=>if j=nm then some bN else none)/\
   Rel P { w with heap:=w.heap.extract 0 bN } n bu g S (λj=>if j=nm then some [kz e v es]else none) a w:=by
 have av:=(Array.getElem?_eq_some_iff.1 hN).1
 let g:Gh:={ base:=bN,old:=jR pr w bN v,al:=λj=>if j=nm then some bN else none,hi:=λb=>if v.ownBlock=some b then es.length*i.size else 0,owner:=λb=>if v.ownBlock=some b then some (.cell nm 0)else none }
 have oJ:∀b k,b<bN/\pr b k->g.Pr b k:=λb k h=>.inl h
 have nw:∀b,v.ownBlock=some b->bN<b/\b<w.heap.size:=λb hb=>cE.lt b hb
 have zf:v.ownBlock≠some bN:=λh=>by have:=nw _ h;omega
 have lC:v.oneCell'=true:=by
  rcases cE.2 with⟨rfl,_⟩|⟨_,_,_,rfl,_⟩<;>rfl
 have df:RD g.Pr w (kz e v es) v:=by
  unfold kz
  rcases cE.2 with⟨rfl,hn⟩|⟨gg,cap,cur,rfl,mz,hg,BE,vA,lS,oI⟩
  .exact .gy _
  .simp only[Value.ownBlock]
   have h1:RD g.Pr w (.slice .view es) (.slice (some ⟨gg,0,none⟩) es.length cap):=RD.ofRow cE (hf.mono (aL.same λb k _ h=>oJ b k h)) (λb hb k hk=>by
    refine .inr ⟨by have:=(nw b hb).1;show bN<=b;omega,?_⟩;show k<(if _=some b then es.length*i.size else 0)
    rw[if_pos hb];exact hk)
   exact h1.SX e
 refine⟨g,rfl,rfl,rfl,{ size:=aI,defers:=cD,facts:=λ_ h=>(by cases h),slot:=?_,own:=?_,box:=?_,iB:=?_,ij:=λi h=>h.elim,inj:=?_,base:=?_,below:=?_,fresh:=?_,still:=⟨λ_ _ h=>h.elim,λ_ h=>h.elim⟩,grown:=Nat.le_refl _,kept:=?_ }⟩
 .intro t ht _;rcases(hS t ht).2 with⟨h1,h2⟩|h
  .rw[h1,h2];exact .box _ _ _ (by simp[g])
  .exact h.mono (aL.same λb k _ h=>oJ b k h) (λ_ _ h=>by cases h)
 .intro t ht _;rw[<-(hS t ht).1];exact dD.aA
 .intro j b hj
  by_cases uL:j=nm
  .subst uL
   have hb:b=bN:=by simpa[g]using hj.symm
   subst hb;refine⟨[kz e v es],#[v],ty,by simp,Nat.le_refl _,hN,by simp[g,zf],by simp[g,zf],rfl,λk hk eK=>?_,λk hk eK=>?_,λk hk=>?_⟩
   .have:k=0:=by simpa using hk
    subst this;exact df
   .have:k=0:=by simpa using hk
    subst this;simp only[List.getElem_cons_zero,List.getElem_toArray];unfold kz
    cases zz:v.ownBlock with
    |none=>trivial
    |some b'=>
     refine⟨i,xs,b',hi,?_,zz,by simp[g,zz],by simp[g,zz]⟩;refine⟨cE.1,?_⟩
     rcases cE.2 with h|⟨gg,cap,cur,rfl,mz,rest⟩
     .exact .inl h
     .exact .inr ⟨gg,cap,cur,rfl,Nat.le_trans (Nat.le_succ _) mz,rest⟩
   .have:k=0:=by simpa using hk
    subst this;simp only[List.getElem_cons_zero];unfold kz
    cases v.ownBlock<;>rfl
  .simp[g,uL]at hj
 .intro j cs hj _
  by_cases uL:j=nm
  .subst uL;simp[g]
  .simp[uL]at hj
 .intro j k b hj hk
  by_cases uL:j=nm<;>by_cases Lz:k=nm
  .rw[uL,Lz]
  .simp[g,Lz]at hk
  .simp[g,uL]at hj
  .simp[g,uL]at hj
 .show bN=(w.heap.extract 0 bN).size;simp;omega
 .refine⟨rfl,rfl,rfl,by simp;omega,λk hk=>?_⟩;have eK:k<bN:=hk;show w.heap[k]?=(w.heap.extract 0 bN)[k]?;rw[Array.getElem?_extract,if_pos (by omega),Nat.zero_add]
 .intro b hb
  have:v.ownBlock≠some b:=λh=>by have:=nw b h;omega
  simp[g,this]
 .intro b o h;simp only[g,jR]at h;split at h
  case isFalse=>cases h
  rename_i hc;refine⟨by show bN<=b;omega,h,by simp[g,hc.2],by simp[g,hc.2],λj hj=>?_⟩
  by_cases uL:j=nm
  .simp[g,uL]at hj;omega
  .simp[g,uL]at hj
def Rel.Cw {w0 w':World} {g':Gh} {S':af} {H':ah} {a':Act} (pr:Nat→Nat→Prop) {bN nm:Nat} {v:Value} {e:TypeId} {i:TypeInfo} {es':List AV} (hi:P.info? e=some i)
  (R:Rel P w0 n bu g' S' H' a' w') (hold:g'.old=jR pr w bN v) (gx:g'.base=bN) (oP:∀b,b<bN->w0.heap[b]?=w.heap[b]?) (gE:g'.al nm=some bN) (hH:H' nm=some [.slice (.own e) es'])
  (iM:∀x∈es',x.cells.length=i.size/\x.storable=true/\∀c∈x.cells,c.one=true) (Dl:∀x∈es',∀c∈x.cells,iG c=true):
  ∃v' sU j5,w'.heap[bN]?=some (.cells #[v'] sU (0,0))/\w'.ownsRow (bN+1) e i.size v' es'.length j5/\iP (λ_ _=>False) w' i.size es' j5/\
   (∀b,b<w.heap.size->b≠bN->v.ownBlock≠some b->w'.heap[b]?=w.heap[b]?)/\∀b,v'.ownBlock=some b->v.ownBlock=some b\/w.heap.size<=b:=by
 obtain⟨cs,vs,ty,h1,h2,h3,h4,h5,h6,h7,h8,h9⟩:=R.box nm bN gE;rw[hH]at h1;cases h1;have uo:vs.size=1:=h6.symm
 obtain⟨v',nL⟩:∃v',vs=#[v']:=⟨vs[0],by
  apply Array.ext
  .simpa using uo
  .intro j hj c_
   have:j=0:=by omega
   subst this;rfl⟩
 subst nL;have hr:=h7 0 (by simp) (by simp);have ho:=h8 0 (by simp) (by simp);simp only[List.getElem_cons_zero,List.getElem_toArray]at hr ho;obtain⟨i',xs,b,k1,k2,k3,k4,k5⟩:=ho;rw[hi]at k1;cases k1
 have bQ:b≠bN:=by
  rintro rfl;rw[h5]at k4;cases k4
 refine⟨v',ty,xs,h3,?_,⟨iM,λj hj k hk=>?_⟩,λb' fg MQ QD=>?_,λb' fg=>?_⟩
 .refine⟨k2.1,?_⟩
  rcases k2.2 with h|⟨gg,cap,cur,rfl,mz,rest⟩
  .exact .inl h
  .have:gg=b:=by simpa[Value.ownBlock]using k3
   subst this;exact .inr ⟨gg,cap,cur,rfl,by rw[gx]at mz;omega,rest⟩
 .rcases hr.ku i.size (by simp only[aF,List.all_eq_true,Bool.and_eq_true,beq_iff_eq];exact λx hx=>⟨(iM x hx).2.1,(iM x hx).1⟩)with⟨rfl,_⟩|⟨b2,off,cap,news,jA,hl,hn,lC,Bz⟩
  .simp at hj
  .obtain⟨u,u1,u2⟩:=Bz j hj k hk;refine⟨u,?_,u2.iG (Dl _ (List.getElem_mem hj) _ (List.getElem_mem hk))⟩
   have av:j*i.size+k<xs.length:=by
    rw[k2.1,<-hl];exact(List.getElem?_eq_some_iff.1 u1).1
   have e1:=k2.cells k3 _ _ (List.getElem?_eq_getElem av);have e2:=hn _ _ u1
   rcases k2.2 with⟨pf,_⟩|⟨gg,tQ,cur,F4,_⟩
   .rw[pf]at k3;cases k3
   .rw[F4]at jA k3
    have pS:gg=b:=by simpa[Value.ownBlock]using k3
    subst pS;cases jA;rw[Addr.add_lit,Nat.zero_add]at e1;rw[Nat.zero_add]at e2;rw[e2]at e1;rw[List.getElem?_eq_getElem av,Option.some.inj e1]
 .rcases Nat.lt_or_ge b' bN with av|oG
  .have:=R.below.block b' (by rw[gx];exact av);rw[this];exact oP b' av
  .have tZ:g'.old.keep b'=w.heap[b']? := by
    rw[hold];simp only[jR];rw[if_pos ⟨by omega,QD⟩]
   have:w.heap[b']?=some (w.heap[b']):=by simp[fg]
   rw[this]at tZ;rw[(R.kept b' _ tZ).2.1,this]
 .rw[k3]at fg;cases fg;rcases Nat.lt_or_ge b w.heap.size with av|oG
  .by_cases QD:v.ownBlock=some b
   .exact .inl QD
   .exfalso
    have ja:bN<=b:=by
     have:=(k2.lt b k3).1;rw[gx]at this;exact this
    have tZ:g'.old.keep b=w.heap[b]?:=by
     rw[hold];simp only[jR];rw[if_pos ⟨by omega,QD⟩]
    have:w.heap[b]?=some (w.heap[b]):=by simp[av]
    rw[this]at tZ;have:=(R.kept b _ tZ).2.2.2.1;rw[k4]at this;cases this
  .exact .inr oG
end
section
variable{P:Program}{GI:World->Prop}{n:Nat}{S:af}{H:ah}{a:Act}{w:World}{ro:Option Nat}{m:Nat}{Q Q':Exit->Act->World->Prop}{F:Fence}
def lW{o:Oper}{K K':Act->World->Prop}(hK:∀a w,K a w->K' a w)(hQ:∀e a w,e≠.normal->Q e a w->Q' e a w)(hs:o.wpIn F m P a w K Q):o.wpIn F m P a w K' Q':=by
 have hs:=Oper.wpIn_mono hK hs
 unfold Oper.wpIn at*
 refine⟨hs.1,?_⟩;have h2:=hs.2
 generalize(o.semAt F.round a.eval).run P w=r at*
 have oq:LetsOut Q->LetsOut Q':=λ⟨a,w,h⟩=>⟨a,w,hQ _ _ _ (by simp) h⟩
 cases r with
 |ok x w'=>
  cases x<;>simp only[Oper.uponIn]at h2⊢<;>first
   |exact h2
   |exact⟨h2.1,CallsIn.mono h2.2 (λe fD he=>by cases e<;>first|exact he|exact hQ _ _ _ (by simp) he|exact oq he)⟩
   |exact⟨h2.1,RowsIn.mono h2.2 (λ_ _ he=>he)⟩
   |exact⟨h2.1,RoundIn.mono h2.2 (λe fD he=>by cases e<;>first|exact he|exact hQ _ _ _ (by simp) he|exact oq he)⟩
 |halt x w'=>cases x<;>simp only[Oper.uponIn]at h2⊢<;>first|exact h2|exact hQ _ _ _ (by simp) h2
def eY{ops:Array Oper}(hQ:∀e a w,Q e a w->Q' e a w):∀(l:List Nat)(a:Act)(w:World),wpOpsIn F m P ops Q l a w->wpOpsIn F m P ops Q' l a w
 |[],a,w,h=>hQ _ _ _ h
 |i::l,a,w,h=>by
  simp only[wpOpsIn]at h⊢
  cases ho:ops[i]? with
  |none=>simp only[ho]at h⊢;exact eY hQ l a w h
  |some o=>
   simp only[ho]at h⊢;split
   .rename_i hw;rw[if_pos hw]at h;exact lW (λa w hh=>eY hQ l a w hh) (λe a w _ hh=>hQ e a w hh) h
   .rename_i hw;rw[if_neg hw]at h;exact⟨h.1,eY hQ l _ w h.2⟩
def eF(W:Nat->Bool)(a a':Act):Prop:=∀t,W t=false->a'.tmps.getD t undef=a.tmps.getD t undef
def eF.refl(W:Nat->Bool)(a:Act):eF W a a:=λ_ _=>rfl
def eF.trans{W:Nat->Bool}{a a' Tp:Act}(h:eF W a a')(h':eF W a' Tp):eF W a Tp:=λt ht=>(h' t ht).trans (h t ht)
def eF.put{W:Nat->Bool}{a:Act}{d:Option Nat}(hd:∀t,d=some t->W t=true)(v:Value):eF W a (a.put d v):=by
 intro t ht
 cases d with
 |none=>rfl
 |some k=>
  have:t≠k:=by rintro rfl;rw[hd t rfl]at ht;cases ht
  simp[Act.put,Array.getElem?_setIfInBounds_ne (Ne.symm this)]
def pC{W:Nat->Bool}{o:Oper}{K:Act->World->Prop}(hd:∀t,o.dst=some t->W t=true)(h:o.wpIn F m P a w K Q):o.wpIn F m P a w (λa' w'=>K a' w'/\eF W a a') Q:=by
 unfold Oper.wpIn at*
 refine⟨h.1,?_⟩;have h2:=h.2
 generalize(o.semAt F.round a.eval).run P w=r at*
 cases r with
 |ok x w'=>
  cases x<;>simp only[Oper.uponIn]at h2⊢<;>first
   |exact⟨h2,eF.put hd _⟩
   |exact⟨h2,(eF.put (a:={ a with defers:=_ }) hd _:eF W { a with defers:=_ } _)⟩
   |exact⟨h2.1,CallsIn.mono h2.2 (λe fD he=>by cases e<;>first|exact⟨he,eF.put hd _⟩|exact he)⟩
   |exact⟨h2.1,RowsIn.mono h2.2 (λ_ _ he=>⟨he,eF.put hd _⟩)⟩
   |exact⟨h2.1,RoundIn.mono h2.2 (λe fD he=>by cases e<;>first|exact⟨he,eF.put hd _⟩|exact he)⟩
 |halt x w'=>cases x<;>simp only[Oper.uponIn]at h2⊢<;>exact h2
def fP(ops:Array Oper)(W:Nat->Bool):Bool:=ops.all λo=>match o.dst with|some t=>W t|none=>true
def fP.spec{ops:Array Oper}{W:Nat->Bool}(h:fP ops W=true){i:Nat}{o:Oper}(ho:ops[i]?=some o):∀t,o.dst=some t->W t=true:=by
 intro t ht;have:=Array.all_eq_true'.1 h o (Array.mem_of_getElem? ho);simpa[ht]using this
def ux(W:Nat->Bool)(a:Act)(Q:Exit->Act->World->Prop):Exit->Act->World->Prop
 |.normal,a',w'=>Q .normal a' w'/\eF W a a'
 |e,a',w'=>Q e a' w'
def ux.next{W:Nat->Bool}{Sc jX:Act}(h:eF W Sc jX):∀e a w,ux W jX Q e a w->ux W Sc Q e a w:=by
 intro e a w hh
 cases e<;>first|exact hh|exact⟨hh.1,h.trans hh.2⟩
def fw{ops:Array Oper}{W:Nat->Bool}(hW:fP ops W=true):∀(l:List Nat)(a:Act)(w:World),wpOpsIn F m P ops Q l a w->wpOpsIn F m P ops (ux W a Q) l a w
 |[],a,w,h=>⟨h,eF.refl _ _⟩
 |i::l,a,w,h=>by
  simp only[wpOpsIn]at h⊢
  cases ho:ops[i]? with
  |none=>simp only[ho]at h⊢;exact fw hW l a w h
  |some o=>
   simp only[ho]at h⊢;split
   .rename_i hw;rw[if_pos hw]at h;refine lW (λa' w' hh=>eY (ux.next hh.2) l a' w' (fw hW l a' w' hh.1)) (λe a w bQ hh=>?_) (pC (fP.spec hW ho) h)
    cases e<;>first|exact hh|exact absurd rfl bQ
   .rename_i hw;rw[if_neg hw]at h;exact⟨h.1,eY (ux.next (eF.put (fP.spec hW ho) _)) l _ w (fw hW l _ w h.2)⟩
def fR{ops:Array Oper}{md:Region.Mode}{W:Nat->Bool}(hW:fP ops W=true):∀(fuel:Nat)(l:Array Bool)(a:Act)(w:World),wpAnyIn F m P md ops Q fuel l a w->wpAnyIn F m P md ops (ux W a Q) fuel l a w
 |0,l,a,w,h=>⟨h.1,h.2,eF.refl _ _⟩
 |k+1,l,a,w,h=>⟨fun hr=>⟨h.1 hr,eF.refl _ _⟩,fun i hi=>by
   have hs:=h.2 i hi;unfold wpOpIn at hs⊢
   cases ho:ops[i]? with
   |none=>rw[ho]at hs;exact fR hW k _ a w hs
   |some o=>
    rw[ho]at hs;simp only at hs⊢;split
    .rename_i hw;rw[if_pos hw]at hs;refine lW (λa' w' hh=>eX (ux.next hh.2) k _ a' w' (fR hW k _ a' w' hh.1)) (λe a w bQ hh=>?_) (pC (fP.spec hW ho) hs)
     cases e<;>first|exact hh|exact absurd rfl bQ
    .rename_i hw;rw[if_neg hw]at hs
     exact⟨hs.1,eX (ux.next (eF.put (fP.spec hW ho) _)) k _ _ w (fR hW k _ _ w hs.2)⟩⟩
def dK (hG:aw GI) (hm:P.follows .mixedOrders=true) {id:Nat} {ops:Array Oper} {draw:Bool} (hc:jV (.region id ops draw)=true) {ac:ae} (jN:de P n (.region id ops draw)=ac) {W:Nat→Bool} (hW:fP ops W=true) (jI:GI w) (pr:Nat→Nat→Prop) (S:af)
  (aI:a.tmps.size=n) (cD:a.defers=[]) (hS:∀t,t<n->(S t).aA=S t/\RV pr bU w (S t) (a.tmps.getD t undef)) {K:af->ah->Prop} (h:bD P GI ac (aB K) S (λ_=>none))
  (hk:∀g S' H' a' w',g.old=Old.plain pr w->Rel P w n bu g S' H' a' w'->K S' H'->eF W a a'->Q .normal a' w'):(Code.region id ops draw).wpIn (FR ro) m P Q a w:=by
 subst jN;have R:=Rel.Hf (P:=P) pr aI cD hS
 have fin:∀e a' w',ux W a (QQ P w n (Old.plain pr w) (aB K)) e a' w'->Q e a' w':=by
  intro e a' w' hq
  cases e with
  |normal=>
   obtain⟨⟨g',S',H',h1,h2,h3⟩,h4⟩:=hq;exact hk g' S' H' a' w' h1 h2 h3 h4
  |exit id=>obtain⟨_,_,_,_,_,h⟩:=hq;exact h.elim
  |ret=>obtain⟨_,_,_,_,_,h⟩:=hq;exact h.elim
  |panic ch=>obtain⟨_,_,_,_,_,_,_,_,_,_,h⟩:=hq;exact h.elim
  |goto l=>exact hq.elim
  |outgrown=>exact hq.elim
 simp only[de]at h
 cases draw with
 |true=>
  simp only[if_true]at h;split at h
  case isFalse=>exact h.elim
  rename_i bB;exact wpIn_region_any hm (eX fin _ _ _ _ (fR hW _ _ _ _ (jG hG jI hm (old:=Old.plain pr w) hc bB (λ_ _ _ _ h=>h) rfl R h)))
 |false=>
  simp only[Bool.false_eq_true,if_false]at h;split at h
  case isFalse=>exact h.elim
  rename_i bB;exact wpIn_region (eY fin _ _ _ (fw hW _ _ _ (py hG jI (old:=Old.plain pr w) hc bB (λ_ _ _ _ h=>h) rfl R h)))
def LH (hG:aw GI) (hm:P.follows .mixedOrders=true) {id:Nat} {ops:Array Oper} {p:Nat} (rm:cutAt ops p=true) (cT:(ops.extract 0 p).all (fun o=>cW o.op)=true) (bB:E5 P n (ops.extract 0 p)=true)
  {l:List bl} (hl:aO P n true (ops.extract 0 p)=l) (jP:(ops.extract 0 p).size=p) {W:Nat->Bool} (hW:fP (ops.extract 0 p) W=true) (jI:GI w) (pr:Nat->Nat->Prop) (S:af)
  (aI:a.tmps.size=n) (cD:a.defers=[]) (hS:∀t,t<n->(S t).aA=S t/\RV pr bU w (S t) (a.tmps.getD t undef)) {K:af->ah->Prop}
  (h:dc P GI l K (dL l S) (cG l (λ_=>none)))
  (hk:∀g S' H' a' w',g.old=Old.plain pr w->Rel P w n bu g S' H' a' w'->K S' H'->eF W a a'->wpOpsIn (FR ro) m P ops Q (List.range' p (ops.size-p)) a' w'):
  (Code.region id ops true).wpIn (FR ro) m P Q a w:=by
 refine Cr hm rm ?_;have key:=jG (ro:=ro) (m:=m) (a:=a) (w:=w) hG jI hm (old:=Old.plain pr w) (ops:=ops.extract 0 p) (Q:=aB K) cT bB (λ_ _ _ _ h=>h) rfl (Rel.Hf pr aI cD hS) (by subst hl;exact h);rw[jP]at key;refine eX ?_ _ _ _ _ (fR hW _ _ _ _ key);intro e a' w' hq
 cases e with
 |normal=>
  obtain⟨⟨g',S',H',h1,h2,h3⟩,h4⟩:=hq;exact hk g' S' H' a' w' h1 h2 h3 h4
 |exit id=>obtain⟨_,_,_,_,_,h⟩:=hq;exact h.elim
 |ret=>obtain⟨_,_,_,_,_,h⟩:=hq;exact h.elim
 |panic ch=>obtain⟨_,_,_,_,_,_,_,_,_,_,h⟩:=hq;exact h.elim
 |goto l=>exact hq.elim
 |outgrown=>exact hq.elim
def BU (hm:P.follows .mixedOrders=true) {id:Nat} {ops:Array Oper} {draw:Bool} (hc:jV (.region id ops draw)=true) {ac:ae} (jN:de P n (.region id ops draw)=ac) (C0:ac.names=[]) {W:Nat→Bool} (hW:fP ops W=true) (pr:Nat→Nat→Prop) (S:af)
  {bN nm tp:Nat} {v:Value} {e ty:TypeId} {i:TypeInfo} {es es':List AV} {xs:List Value} (JV:tp<n) (Tx:W tp=false) (Mx:a.tmps.getD tp undef=.pointer (some ⟨bN,0,none⟩)) (aI:a.tmps.size=n) (cD:a.defers=[])
  (hN:w.heap[bN]?=some (.cells #[v] ty (0,0))) (hi:P.info? e=some i) (cE:w.ownsRow (bN+1) e i.size v es.length xs) (hf:iP (λb k=>b<bN/\pr b k) w i.size es xs)
  (hS:∀t,t<n->(S t).aA=S t/\((S t=.box nm 0/\a.tmps.getD t undef=.pointer (some ⟨bN,0,none⟩))\/RV (λb k=>b<bN/\pr b k) bU w (S t) (a.tmps.getD t undef)))
  (h:bD P (λ_=>True) ac (aB λS' H'=>S' tp=.box nm 0/\H' nm=some [.slice (.own e) es']) S (λj=>if j=nm then some [kz e v es]else none))
  (iM:∀x∈es',x.cells.length=i.size/\x.storable=true/\∀c∈x.cells,c.one=true) (Dl:∀x∈es',∀c∈x.cells,iG c=true)
  (hk:∀a' w' v' sU j5,a'.tmps.size=n->a'.defers=[]->eF W a a'->w'.heap[bN]?=some (.cells #[v'] sU (0,0))->w'.ownsRow (bN+1) e i.size v' es'.length j5->iP (λ_ _=>False) w' i.size es' j5->
   ft (λb=>b=bN\/v.ownBlock=some b) w w'->(∀b,v'.ownBlock=some b->v.ownBlock=some b\/w.heap.size<=b)->Q .normal a' w'):(Code.region id ops draw).wpIn (FR ro) m P Q a w:=by
 subst jN;obtain⟨g,wm,n9,Ps,R⟩:=Rel.stack (P:=P) (nm:=nm) (S:=S) (a:=a) pr aI cD hN hi cE hf hS;have av:=(Array.getElem?_eq_some_iff.1 hN).1
 have fin:∀e1 a' w',ux W a (QQ P { w with heap:=w.heap.extract 0 bN } n (jR pr w bN v) (aB λS' H'=>S' tp=.box nm 0/\H' nm=some [.slice (.own e) es'])) e1 a' w'->Q e1 a' w':=by
  intro e1 a' w' hq
  cases e1 with
  |normal=>
   obtain⟨⟨g',S',H',h1,h2,h3⟩,h4⟩:=hq
   have pS:g'.base=bN:=by rw[h2.base];simp;omega
   have gE:g'.al nm=some bN:=by
    have hs:=h2.slot tp JV (λhh=>hh);rw[h3.1,h4 tp Tx,Mx]at hs
    cases hs with
    |data _ _ h=>cases h
    |box _ _ b h=>exact h
   obtain⟨v',sU,j5,k1,k2,k3,k4,k5⟩:=Rel.Cw (w:=w) pr hi h2 h1 pS (λb hb=>by
    show(w.heap.extract 0 bN)[b]?=w.heap[b]?
    rw[Array.getElem?_extract,if_pos (by omega),Nat.zero_add]) gE h3.2 iM Dl
   have jF:=h2.grown;rw[h1]at jF;refine hk a' w' v' sU j5 h2.size (by rw[h2.defers,h1];rfl) h4 k1 k2 k3 ⟨h2.below.os,h2.below.tape,h2.below.output,jF,λb hb hM=>?_⟩ k5;exact k4 b hb (λh=>hM (.inl h)) (λh=>hM (.inr h))
  |exit id=>obtain⟨_,_,_,_,_,h⟩:=hq;exact h.elim
  |ret=>obtain⟨_,_,_,_,_,h⟩:=hq;exact h.elim
  |panic ch=>obtain⟨_,_,_,_,_,_,_,_,_,_,h⟩:=hq;exact h.elim
  |goto l=>exact hq.elim
  |outgrown=>exact hq.elim
 simp only[de]at h C0
 have hb:∀(b:Nat),(jR pr w bN v).bx b->False:=λ_ h=>h
 cases draw with
 |true=>
  simp only[if_true]at h;split at h
  case isFalse=>exact h.elim
  rename_i bB;exact wpIn_region_any hm (eX fin _ _ _ _ (fR hW _ _ _ _ (jG (GI:=λ_=>True) (λ_ _ _ _=>trivial) trivial hm hc bB (λ_ _ _ _ h=>h) wm R h)))
 |false=>
  simp only[Bool.false_eq_true,if_false]at h;split at h
  case isFalse=>exact h.elim
  rename_i bB;exact wpIn_region (eY fin _ _ _ (fw hW _ _ _ (py (GI:=λ_=>True) (λ_ _ _ _=>trivial) trivial hc bB (λ_ _ _ _ h=>h) wm R h)))
def Rel.rT {w0 w':World} {g:Gh} {S':af} {H':ah} {a':Act} (R:Rel P w0 n bu g S' H' a' w') {t:Nat} (ht:t < n) {e:TypeId} {i:TypeInfo} (hi:P.info? e=some i) {es:List AV} (hS:S' t = .slice (if es.isEmpty then .nil else .own e) es)
  (iM:∀x∈es,x.cells.length=i.size/\x.storable=true/\∀c∈x.cells,c.one=true) (Dl:∀x∈es,∀c∈x.cells,iG c=true):
  RD (λb j=>(g.base<=b/\b<w'.heap.size)/\j<g.hi b) w' (.slice .view es) (a'.tmps.getD t undef):=by
 have h1:=(R.slot t ht id)
 have h2:=(R.own t ht id)
 rw[hS]at h1 h2;have h1:=h1.dA rfl
 cases es with
 |nil=>exact h1.vB
 |cons x es=>
  simp only[List.isEmpty_cons,Bool.false_eq_true,if_false]at h1 h2;obtain⟨i',xs,b,k1,k2,k3,k4,k5⟩:=h2;rw[hi]at k1;cases k1;have hf:=iP.Nn h1 k2 iM Dl
  refine RD.ofRow k2 (hf.mono (aL.same λ_ _ _ h=>h.elim)) λb' fg k hk=>?_
  rw[k3]at fg;cases fg;exact⟨k2.lt b k3,by rw[k5];exact hk⟩
end
section
variable{P:Program}{GI:World->Prop}{n:Nat}{S:af}{H:ah}{a:Act}{w:World}{ro:Option Nat}{m:Nat}{Q Q':Exit->Act->World->Prop}{F:Fence}
def uV(ops:Array Oper)(j d:Nat)(T:List Nat):Nat->Array Bool->Bool
 |0,l=>l.getD j false
 |k+1,l=>(Region.ready .any ops l != [] || l.getD j false) && (Region.ready .any ops l).all fun i =>
   (!l.getD j false||(match(ops[i]?).bind (·.dst)with|some t=>t !=d&&!T.contains t|none=>true))&&uV ops j d T k (l.setIfInBounds i true)
def Uc(N:Act->Prop)(Q:Exit->Act->World->Prop):Exit->Act->World->Prop
 |.normal,a,w=>Q .normal a w/\N a
 |e,a,w=>Q e a w
def mJ {ops:Array Oper} {j d:Nat} {oj:Oper} {T:List Nat} (hj:ops[j]? = some oj) (FP:oj.guard=none) (cT:cW oj.op=true) (N:Act→Prop)
  (LG:∀a a':Act,a'.tmps.getD d undef=a.tmps.getD d undef->(∀t∈T,a'.tmps.getD t undef=a.tmps.getD t undef)->N a->N a') (dJ:∀(a:Act)(w:World),a.tmps.size=n->match(execOp a.eval oj).run P w with|.ok (.value v) _=>N (a.put oj.dst v)|.ok _ _=>False|.halt _ _=>True) (hW:fP ops (λt=>decide (t<n))=true):
  ∀(fuel:Nat)(l:Array Bool)(a:Act)(w:World),uV ops j d T fuel l=true->(l.getD j false=true->N a)->l.size=ops.size->a.tmps.size=n->
   wpAnyIn (FR ro) m P .any ops Q fuel l a w->wpAnyIn (FR ro) m P .any ops (Uc N Q) fuel l a w
 |0,l,a,w,h,hN,hl,aI,hh=>⟨hh.1,hh.2,hN (by simpa[uV]using h)⟩
 |k+1,l,a,w,h,hN,hl,aI,hh=>by
  simp only[uV,Bool.and_eq_true,List.all_eq_true,Bool.or_eq_true,bne_iff_ne,ne_eq]at h;refine⟨λhr=>⟨hh.1 hr,hN (h.1.resolve_left (λbQ=>bQ hr))⟩,λi hi=>?_⟩;obtain⟨h2,h3⟩:=h.2 i hi;have hs:=hh.2 i hi;unfold wpOpIn at hs⊢
  cases ho:ops[i]? with
  |none=>exact absurd (mem_ready.1 hi).2 (by rw[ho];rintro⟨o,h,_⟩;cases h)
  |some o=>
   rw[ho]at hs h2;simp only[Option.bind_some]at h2 hs⊢
   have My:i<l.size:=by rw[hl];exact(Array.getElem?_eq_some_iff.1 ho).1
   have yH:(l.setIfInBounds i true).size=ops.size:=by simpa using hl
   have next:∀(a':Act),a'.tmps.size=n->eF (λt=>o.dst==some t) a a'->i≠j->((l.setIfInBounds i true).getD j false=true->N a'):=by
    intro a' _ aY bQ Bf
    have vS:l.getD j false=true:=by
     rw[Array.getD_eq_getD_getElem?,Array.getElem?_setIfInBounds_ne bQ]at Bf;rwa [Array.getD_eq_getD_getElem?]
    rcases h2 with h2|h2
    .rw[vS]at h2;cases h2
    .have Ab:(o.dst==some d)=false∧∀ t∈T,(o.dst==some t)=false:=by
      cases hod:o.dst with
      |none=>simp
      |some t=>
       rw[hod]at h2;simp only[Bool.and_eq_true,bne_iff_ne,ne_eq,Bool.not_eq_true',List.contains_eq_mem,decide_eq_false_iff_not]at h2;refine⟨by simpa using h2.1,λt' A9=>?_⟩;simp only[beq_eq_false_iff_ne,ne_eq,Option.some.injEq];rintro rfl;exact h2.2 A9
     exact LG a a' (aY d Ab.1) (λt ht=>aY t (Ab.2 t ht)) (hN vS)
   have j7:∀(d':Option Nat)(v:Value)(a:Act),(a.put d' v).tmps.size=a.tmps.size:=by
    intro d' v a;cases d'<;>simp[Act.put]
   split
   .rename_i hw;rw[if_pos hw]at hs
    by_cases nc:i=j
    .subst nc;rw[hj]at ho;cases ho;unfold Oper.wpIn at hs⊢;refine⟨λ_ _=>trivial,?_⟩;have h4:=hs.2;rw[Oper.semAt_eq _ _ _ (λc hc=>by rw[hc]at cT;cases cT)]at h4⊢;have h5:=dJ a w aI;generalize(execOp a.eval oj).run P w=r at h4 h5⊢
     cases r with
     |ok x w'=>
      cases x<;>simp only at h5
      case value v=>
       simp only[Oper.uponIn]at h4⊢;exact mJ hj FP cT N LG dJ hW k _ _ w' h3 (λ_=>h5) yH (by rw[j7];exact aI) h4
     |halt x w'=>cases x<;>simp only[Oper.uponIn]at h4⊢<;>exact h4
    .have rP:=pC (W:=λt=>o.dst==some t) (λt ht=>by simp[ht]) hs
     have OQ:o.wpIn (FR ro) m P a w (λa' w'=>(wpAnyIn (FR ro) m P .any ops Q k (l.setIfInBounds i true) a' w'/\eF (λt=>o.dst==some t) a a')/\a'.tmps.size=n) Q:=by
      unfold Oper.wpIn at rP⊢;refine⟨rP.1,?_⟩;have h4:=rP.2
      generalize(o.semAt (FR ro).round a.eval).run P w=r at*
      cases r with
      |ok x w'=>
       cases x<;>simp only[Oper.uponIn]at h4⊢<;>first
        |exact⟨h4,by rw[j7];exact aI⟩
        |exact⟨h4.1,CallsIn.mono h4.2 (λe fD he=>by cases e<;>first|exact⟨he,by rw[j7];exact aI⟩|exact he)⟩
        |exact⟨h4.1,RowsIn.mono h4.2 (λ_ _ he=>⟨he,by rw[j7];exact aI⟩)⟩
        |exact⟨h4.1,RoundIn.mono h4.2 (λe fD he=>by cases e<;>first|exact⟨he,by rw[j7];exact aI⟩|exact he)⟩
      |halt x w'=>cases x<;>simp only[Oper.uponIn]at h4⊢<;>exact h4
     refine lW (λa' w' hh=>?_) (λe a w bQ hh=>?_) OQ
     .exact mJ hj FP cT N LG dJ hW k _ a' w' h3 (next a' hh.2 hh.1.2 nc) yH hh.2 hh.1.1
     .cases e<;>first|exact hh|exact absurd rfl bQ
   .rename_i hw;rw[if_neg hw]at hs
    have nc:i≠j:=by
     rintro rfl;rw[hj]at ho;cases ho;simp[Region.wanted,FP]at hw
    refine⟨hs.1,mJ hj FP cT N LG dJ hW k _ _ w h3 (next _ (by rw[j7];exact aI) (eF.put (λt ht=>by simp[ht]) _) nc) yH (by rw[j7];exact aI) hs.2⟩
def Lc (hG:aw GI) (hm:P.follows .mixedOrders=true) {id:Nat} {ops:Array Oper} {p:Nat} (rm:cutAt ops p=true) (cT:(ops.extract 0 p).all (fun o=>cW o.op)=true) (bB:E5 P n (ops.extract 0 p)=true)
  {l:List bl} (hl:aO P n true (ops.extract 0 p)=l) (jP:(ops.extract 0 p).size=p) {W:Nat->Bool} (hW:fP (ops.extract 0 p) W=true) (jI:GI w) (pr:Nat->Nat->Prop) (S:af)
  {j d:Nat} {oj:Oper} {T:List Nat} (hj:(ops.extract 0 p)[j]?=some oj) (FP:oj.guard=none) (ZL:cW oj.op=true) (N:Act->Prop)
  (LG:∀a a':Act,a'.tmps.getD d undef=a.tmps.getD d undef->(∀t∈T,a'.tmps.getD t undef=a.tmps.getD t undef)->N a->N a') (dJ:∀(a:Act)(w:World),a.tmps.size=n->match(execOp a.eval oj).run P w with|.ok (.value v) _=>N (a.put oj.dst v)|.ok _ _=>False|.halt _ _=>True) (hWn:fP (ops.extract 0 p) (λt=>decide (t<n))=true)
  (dZ:uV (ops.extract 0 p) j d T p (Array.replicate p false)=true)
  (aI:a.tmps.size=n) (cD:a.defers=[]) (hS:∀t,t<n->(S t).aA=S t/\RV pr bU w (S t) (a.tmps.getD t undef)) {K:af->ah->Prop}
  (h:dc P GI l K (dL l S) (cG l (λ_=>none)))
  (hk:∀g S' H' a' w',g.old=Old.plain pr w->Rel P w n bu g S' H' a' w'->K S' H'->eF W a a'->N a'->wpOpsIn (FR ro) m P ops Q (List.range' p (ops.size-p)) a' w'):
  (Code.region id ops true).wpIn (FR ro) m P Q a w:=by
 refine Cr hm rm ?_;have key:=jG (ro:=ro) (m:=m) (a:=a) (w:=w) hG jI hm (old:=Old.plain pr w) (ops:=ops.extract 0 p) (Q:=aB K) cT bB (λ_ _ _ _ h=>h) rfl (Rel.Hf pr aI cD hS) (by subst hl;exact h);rw[jP]at key
 have YU:=mJ hj FP ZL N LG dJ hWn p _ a _ dZ (λhh=>by
  have:(Array.replicate p false).getD j false=false:=by
   rw[Array.getD_eq_getD_getElem?]
   by_cases Y_:j<p
   .simp[Y_]
   .simp[Y_]
  rw[this]at hh;cases hh) (by simpa using jP.symm) aI (fR hW _ _ _ _ key)
 refine eX ?_ _ _ _ _ YU;intro e a' w' hq
 cases e with
 |normal=>
  obtain⟨⟨⟨g',S',H',h1,h2,h3⟩,h4⟩,h5⟩:=hq;exact hk g' S' H' a' w' h1 h2 h3 h4 h5
 |exit id=>obtain⟨_,_,_,_,_,h⟩:=hq;exact h.elim
 |ret=>obtain⟨_,_,_,_,_,h⟩:=hq;exact h.elim
 |panic ch=>obtain⟨_,_,_,_,_,_,_,_,_,_,h⟩:=hq;exact h.elim
 |goto l=>exact hq.elim
 |outgrown=>exact hq.elim
end
section
variable{P:Program}{n:Nat}{a:Act}{w:World}{m:Nat}{Q:Exit->Act->World->Prop}
def gV {o:Oper} {t:TypeId} {x:Operand} {b off:Nat} {v:Value} {d:TypeDesc} (ho:o.op = .load t x) (hx:a.eval x = .pointer (some ⟨b,off,none⟩)) (hu:P.underlying t=some d) (hd:eB d=false) (hc:w.cell? ⟨b,off,none⟩=some v) :
  (execOp a.eval o).run P w=.ok (.value v) w:=by
 have jL:(isAgg t).run P w=.ok false w:=by
  unfold isAgg;rw[Sem.run_bind,run_underlying hu w]
  cases d<;>simp_all[eB]
 unfold execOp;simp[ho,hx,Instr.loadAt,Instr.sureAddr,loadVar,Sem.run_bind,jL,hc]
def gK {o:Oper} {t:TypeId} {x y:Operand} {b:Nat} {v u:Value} {ty:TypeId} {i:TypeInfo} (ho:o.op = .store t x y) (hx:a.eval x = .pointer (some ⟨b,0,none⟩)) (hi:P.info? t=some i) (hs:i.size=1) (hb:w.heap[b]? = some (.cells #[u] ty (0,0)))
  (hv:(a.eval y)=v) (h1:v.oneCell'=true):(execOp a.eval o).run P w=.ok .skip (w.setRow b #[v]):=by
 have jA:v.cells=#[v]:=by cases v<;>first|rfl|cases h1
 have dJ:=run_storeCells_at P b 0 ty [v] 0 #[u] w hb (by simp) (λx hx=>by simp at hx;subst hx;exact h1);unfold execOp;simp only[ho,hx,hv,Instr.storeAt,Instr.sureAddr,storeVar,sizeOf,typeInfo,Sem.run_bind,Sem.run_pure,Result.andThen_ok,run_program,hi,hs,jA,ne_eq,not_true_eq_false,if_false];simp only[Nat.add_zero,List.take_zero,List.nil_append,List.length_singleton,List.size_toArray,Nat.zero_add]at dJ
 have e:(w.setRow b ([v]++List.drop 1 #[u].toList).toArray)=w.setRow b #[v]:=by simp
 rw[e]at dJ;have aI:(#[v]:Array Value).size=1:=rfl;simp only[aI,not_true_eq_false,if_false];rw[show storeCells ⟨b,0,none⟩ (#[v]:Array Value).toList=storeCells ⟨b,0,none⟩ [v] 0 from rfl,dJ]
 rfl
def CD {o:Oper} {cl:Call} {t:TypeId} {x:Operand} {ad:Option Addr} {k cap:Nat} {el:TypeId} (ho:o.op = .call cl) (jr:cl.callee = .builtin .len) (ha:cl.args = #[x]) (ht:cl.argTypes = #[t]) (hu:P.underlying t=some (.slice el)) (hx:a.eval x = .slice ad k cap) :
  (execOp a.eval o).run P w=.ok (.value (.int .i64 k)) w:=by
 unfold execOp
 have hm:(Builtin.len_ #[t] o.type #[.slice ad k cap]).run P w=.ok (.int .i64 k) w:=by simp[Builtin.len_,run_underlying hu,goInt]
 simp[ho,jr,ha,ht,resolve,invoke,builtin,hx,hm]
def xV {o:Oper} {t:TypeId} {x y:Operand} {g k cap:Nat} {el:TypeId} {i:TypeInfo} (ho:o.op = .slice t x none (some y) none) (hu:P.underlying t=some (.slice el)) (hi:P.info? el=some i) (hx:a.eval x = .slice (some ⟨g,0,none⟩) (k+1) cap) (hy:a.eval y = .int .i64 k) (hk:k≤cap) :
  (execOp a.eval o).run P w=.ok (.value (.slice (some ⟨g,0,none⟩) k cap)) w:=by
 have hb:=run_sliceBound (P:=P) (w:=w) (x:=.int .i64 k) (i:=k) (y:=cap) (code:=.sliceAcap) rfl (by omega) (by omega)
 have Pd:(Instr.sliceBounds true (k+1) cap none (some (.int .i64 k)) none).run P w=.ok (0,k,cap) w:=by
  unfold Instr.sliceBounds;simp[Sem.run_bind,hb]
 unfold execOp;simp[ho,hx,hy,Instr.sliceAt,run_underlying hu,Instr.slice,Pd,sizeOf,typeInfo,hi,Addr.add_lit]
def KX {o:Oper} {t t':TypeId} {x y:Operand} {p q:Int} (ho:o.op = .binOp .sub t x y t') (hx:a.eval x = .int .i64 p) (hy:a.eval y = .int .i64 q) :
  (execOp a.eval o).run P w=.ok (.value (.int .i64 (IntKind.i64.wrap (p-q)))) w:=by
 have h0:(eqGuard .sub t x y (.int .i64 p) (.int .i64 q)).run P w=.ok () w:=gv _ _ _ _ _ _ rfl
 have h1:(binOp .sub t (.int .i64 p) (.int .i64 q)).run P w=.ok (.int .i64 (IntKind.i64.wrap (p-q))) w:=by
  simp[binOp,Op.intArith]
 simp[execOp,ho,hx,hy,h0,h1]
def NF {ops:Array Oper} {T el ti ti':TypeId} {p t1 t2 t3 t4 t5 bN:Nat} {o0 o1 o2 o3 o4 o5:Oper} {cl:Call} {i iT:TypeInfo} {v:Value} {ty:TypeId} {k:Nat} {xs last:List Value}
  (h0:ops[0]?=some o0) (h1:ops[1]?=some o1) (h2:ops[2]?=some o2) (h3:ops[3]?=some o3) (h4:ops[4]?=some o4) (h5:ops[5]?=some o5)
  (q0:o0.op=.load T (.tmp p)/\o0.dst=some t1/\o0.guard=none) (q1:o1.op=.load T (.tmp p)/\o1.dst=some t2/\o1.guard=none) (q2:o2.op=.call cl/\o2.dst=some t3/\o2.guard=none) (q3:o3.op=.binOp .sub ti (.tmp t3) (.const (.int .i64 1)) ti'/\o3.dst=some t4/\o3.guard=none)
  (q4:o4.op=.slice T (.tmp t1) none (some (.tmp t4)) none/\o4.dst=some t5/\o4.guard=none) (q5:o5.op=.store T (.tmp p) (.tmp t5)/\o5.dst=none/\o5.guard=none)
  (jr:cl.callee=.builtin .len) (yx:cl.args=#[.tmp t2]) (zL:cl.argTypes=#[T]) (hu:P.underlying T=some (.slice el)) (Sv:P.info? T=some iT) (UD:iT.size=1) (hi:P.info? el=some i)
  (hd:p≠t1/\p≠t2/\p≠t3/\p≠t4/\p≠t5/\t1≠t2/\t1≠t3/\t1≠t4/\t2≠t3/\t3≠t4/\t4≠t5) (aI:a.tmps.size=n) (hn:t1<n/\t2<n/\t3<n/\t4<n/\t5<n)
  (hp:a.tmps.getD p undef=.pointer (some ⟨bN,0,none⟩)) (hN:w.heap[bN]?=some (.cells #[v] ty (0,0))) (cE:w.ownsRow (bN+1) el i.size v (k+1) (xs++last)) (iC:xs.length=k*i.size) (hk:k<1000000)
  (hq:∀a' v',a'.tmps.size=n->a'.defers=a.defers->(∀t,t≠t1->t≠t2->t≠t3->t≠t4->t≠t5->a'.tmps.getD t undef=a.tmps.getD t undef)->v'.ownBlock=v.ownBlock->v.ownBlock.isSome=true->w.ownsRow (bN+1) el i.size v' k xs->Q .normal a' (w.setRow bN #[v'])):
  wpOpsIn (FR none) m P ops Q [0,1,2,3,4,5] a w:=by
 obtain⟨d1,d2,d3,d4,d5,d6,d7,d8,d9,d10,d11⟩:=hd;obtain⟨n1,n2,n3,n4,n5⟩:=hn
 have hc:w.cell? ⟨bN,0,none⟩=some v:=by simp[World.cell?,hN]
 obtain⟨g,cap,rfl⟩:∃g cap,v=.slice (some ⟨g,0,none⟩) (k+1) cap:=by
  rcases cE.2 with⟨_,h⟩|⟨g,cap,cur,h,_⟩
  .omega
  .exact⟨g,cap,h⟩
 have dX:k<=cap:=by
  rcases cE.2 with⟨h,_⟩|⟨g',tQ,cur,h,_,_,BE,_⟩
  .cases h
  .cases h;omega
 have J3:w.ownsRow (bN+1) el i.size (.slice (some ⟨g,0,none⟩) k cap) k xs:=by
  obtain⟨_,h2⟩:=cE
  rcases h2 with⟨h0,_⟩|⟨g',tQ,cur,hv,hg,hh,hn,dX,aI,oI⟩
  .cases h0
  .cases hv;refine⟨iC,.inr ⟨g,cap,cur,rfl,hg,hh,by omega,dX,aI,?_⟩⟩
   have h3:(cur.toList.take ((k+1)*i.size)).take (k*i.size)=(xs++last).take (k*i.size):=by rw[oI]
   rw[List.take_take,Nat.min_eq_left (Nat.mul_le_mul_right _ (by omega))]at h3;rw[h3,<-iC,List.take_left]
 have cz:∀(a:Act)(d t:Nat)(c:Value),t≠d->(a.put (some d) c).tmps.getD t undef=a.tmps.getD t undef:=λa d t c h=>by
  simp[Act.put,Array.getElem?_setIfInBounds_ne (Ne.symm h)]
 have eO:∀(a:Act)(d:Nat)(c:Value),a.tmps.size=n->d<n->(a.put (some d) c).tmps.getD d undef=c:=λa d c h hd=>by
  simp[Act.put,h,hd]
 have fJ:∀(a:Act)(d:Option Nat)(c:Value),(a.put d c).tmps.size=a.tmps.size:=λa d c=>by cases d<;>simp[Act.put]
 have vU:∀(a:Act)(d:Option Nat)(c:Value),(a.put d c).defers=a.defers:=λa d c=>by cases d<;>rfl
 refine aK h0 q0.2.2 (by rw[q0.1];rfl) (gV q0.1 hp hu rfl hc) ?_;rw[q0.2.1]
 obtain⟨a1,yE⟩:∃a1,a.put (some t1) (.slice (some ⟨g,0,none⟩) (k+1) cap)=a1:=⟨_,rfl⟩
 have z1:a1.tmps.size=n:=by rw[<-yE,fJ];exact aI
 have v1:a1.tmps.getD t1 undef=.slice (some ⟨g,0,none⟩) (k+1) cap:=by rw[<-yE];exact eO a t1 _ aI n1
 have p1:a1.tmps.getD p undef=.pointer (some ⟨bN,0,none⟩):=by rw[<-yE,cz _ _ _ _ d1];exact hp
 rw[yE];refine aK h1 q1.2.2 (by rw[q1.1];rfl) (gV q1.1 p1 hu rfl hc) ?_;rw[q1.2.1]
 obtain⟨a2,gu⟩:∃a2,a1.put (some t2) (.slice (some ⟨g,0,none⟩) (k+1) cap)=a2:=⟨_,rfl⟩
 have z2:a2.tmps.size=n:=by rw[<-gu,fJ];exact z1
 have v2:a2.tmps.getD t2 undef=.slice (some ⟨g,0,none⟩) (k+1) cap:=by rw[<-gu];exact eO a1 t2 _ z1 n2
 have v1:a2.tmps.getD t1 undef=.slice (some ⟨g,0,none⟩) (k+1) cap:=by rw[<-gu,cz _ _ _ _ d6];exact v1
 have p2:a2.tmps.getD p undef=.pointer (some ⟨bN,0,none⟩):=by rw[<-gu,cz _ _ _ _ d2];exact p1
 rw[gu];refine aK h2 q2.2.2 (by rw[q2.1];rfl) (CD q2.1 jr yx zL hu v2) ?_;rw[q2.2.1]
 obtain⟨a3,l8⟩:∃a3,a2.put (some t3) (.int .i64 ((k+1:Nat):Int))=a3:=⟨_,rfl⟩
 have z3:a3.tmps.size=n:=by rw[<-l8,fJ];exact z2
 have v3:a3.tmps.getD t3 undef=.int .i64 ((k+1:Nat):Int):=by rw[<-l8];exact eO a2 t3 _ z2 n3
 have v1:a3.tmps.getD t1 undef=.slice (some ⟨g,0,none⟩) (k+1) cap:=by rw[<-l8,cz _ _ _ _ d7];exact v1
 have p3:a3.tmps.getD p undef=.pointer (some ⟨bN,0,none⟩):=by rw[<-l8,cz _ _ _ _ d3];exact p2
 rw[l8];refine aK h3 q3.2.2 (by rw[q3.1];rfl) (KX q3.1 v3 rfl) ?_;rw[q3.2.1]
 have hw:IntKind.i64.wrap (((k+1:Nat):Int)-1)=(k:Int):=by
  have key:∀m:Int,m=(((k+1:Nat):Int)-1) % 18446744073709551616->(if decide (m>=9223372036854775808)=true then m-18446744073709551616 else m)=(k:Int):=by
   intro m hm;split
   .rename_i hd;have:=of_decide_eq_true hd;omega
   .omega
  exact key _ rfl
 rw[hw]
 obtain⟨a4,hZ⟩:∃a4,a3.put (some t4) (.int .i64 (k:Int))=a4:=⟨_,rfl⟩
 have z4:a4.tmps.size=n:=by rw[<-hZ,fJ];exact z3
 have v4:a4.tmps.getD t4 undef=.int .i64 (k:Int):=by rw[<-hZ];exact eO a3 t4 _ z3 n4
 have v1:a4.tmps.getD t1 undef=.slice (some ⟨g,0,none⟩) (k+1) cap:=by rw[<-hZ,cz _ _ _ _ d8];exact v1
 have p4:a4.tmps.getD p undef=.pointer (some ⟨bN,0,none⟩):=by rw[<-hZ,cz _ _ _ _ d4];exact p3
 rw[hZ];refine aK h4 q4.2.2 (by rw[q4.1];rfl) (xV q4.1 hu hi v1 v4 dX) ?_;rw[q4.2.1]
 obtain⟨a5,yI⟩:∃a5,a4.put (some t5) (.slice (some ⟨g,0,none⟩) k cap)=a5:=⟨_,rfl⟩
 have z5:a5.tmps.size=n:=by rw[<-yI,fJ];exact z4
 have v5:a5.tmps.getD t5 undef=.slice (some ⟨g,0,none⟩) k cap:=by rw[<-yI];exact eO a4 t5 _ z4 n5
 have p5:a5.tmps.getD p undef=.pointer (some ⟨bN,0,none⟩):=by rw[<-yI,cz _ _ _ _ d5];exact p4
 rw[yI];refine dh h5 q5.2.2 (by rw[q5.1];rfl) (gK q5.1 p5 Sv UD hN v5 rfl) ?_;rw[q5.2.1];refine hq a5 _ z5 ?_ (λt e1 e2 e3 e4 e5=>?_) rfl rfl J3
 .rw[<-yI,vU,<-hZ,vU,<-l8,vU,<-gu,vU,<-yE,vU]
 .rw[<-yI,cz _ _ _ _ e5,<-hZ,cz _ _ _ _ e4,<-l8,cz _ _ _ _ e3,<-gu,cz _ _ _ _ e2,<-yE,cz _ _ _ _ e1]
def fZ {F:Fence} {ops:Array Oper} {Q1:Exit→Act→World→Prop} {l2:List Nat} (hQ:∀ e a w,e ≠ .normal→Q1 e a w→Q e a w) (hn:∀ a w,Q1 .normal a w→wpOpsIn F m P ops Q l2 a w) :
  ∀(l1:List Nat)(a:Act)(w:World),wpOpsIn F m P ops Q1 l1 a w->wpOpsIn F m P ops Q (l1++l2) a w
 |[],a,w,h=>hn a w h
 |i::l,a,w,h=>by
  simp only[List.cons_append,wpOpsIn]at h⊢
  cases ho:ops[i]? with
  |none=>simp only[ho]at h⊢;exact fZ hQ hn l a w h
  |some o=>
   simp only[ho]at h⊢;split
   .rename_i hw;rw[if_pos hw]at h;exact lW (λa w hh=>fZ hQ hn l a w hh) hQ h
   .rename_i hw;rw[if_neg hw]at h;exact⟨h.1,fZ hQ hn l _ w h.2⟩
def mP {GI:World→Prop} {ro:Option Nat} (hG:aw GI) {ops:Array Oper} {p:Nat} {l2:List Nat} (hr:List.range ops.size=List.range p++l2) (cT:ops.all (fun o=>cW o.op)=true) (bB:((aO P n false ops).take p).all (·.ok n)=true)
  {l:List bl} (hl:(aO P n false ops).take p=l) (hpn:p<=ops.size) {W:Nat->Bool} (hW:fP ops W=true) (jI:GI w) (pr:Nat->Nat->Prop) (S:af)
  (aI:a.tmps.size=n) (cD:a.defers=[]) (hS:∀t,t<n->(S t).aA=S t/\RV pr bU w (S t) (a.tmps.getD t undef)) {K:af->ah->Prop} (h:bg P GI l K (λ_=>False) S (λ_=>none))
  (hk:∀g S' H' a' w',g.old=Old.plain pr w->Rel P w n bu g S' H' a' w'->K S' H'->eF W a a'->wpOpsIn (FR ro) m P ops Q l2 a' w') {id:Nat}:(Code.region id ops false).wpIn (FR ro) m P Q a w:=by
 refine wpIn_region ?_;rw[hr];subst hl;have R:=Rel.Hf (P:=P) pr aI cD hS
 have key:=lI hG jI (old:=Old.plain pr w) (ops:=ops) (Q:=aB K) (S0:=S) (H0:=fun _=>none) (List.range p) (ops.toList.take p) _ S _ a w (by
   apply List.ext_getElem?;intro i;simp only[List.getElem?_map,List.getElem?_take]
   by_cases hi:i<p
   .have:i<ops.size:=by omega
    simp[hi,this]
   .simp[hi]) (λo iq=>by
    simp only[aO,<-List.map_take,List.all_map,List.all_eq_true,Function.comp]at bB
    exact bB o iq) (λ_ _ _ _ h=>h) rfl R (by
    simp only[aO,<-List.map_take]at h
    exact h)
 refine fZ (Q1:=ux W a (QQ P w n (Old.plain pr w) (aB K))) (λe a w bQ hq=>?_) (λa' w' hq=>?_) _ _ _ (fw hW _ _ _ (kv cT jQ _ _ _ key))
 .cases e with
  |normal=>exact absurd rfl bQ
  |exit id=>obtain⟨_,_,_,_,_,h⟩:=hq;exact h.elim
  |ret=>obtain⟨_,_,_,_,_,h⟩:=hq;exact h.elim
  |panic ch=>obtain⟨_,_,_,_,_,_,_,_,_,_,h⟩:=hq;exact h.elim
  |goto l=>exact hq.elim
  |outgrown=>exact hq.elim
 .obtain⟨⟨g',S',H',h1,h2,h3⟩,h4⟩:=hq;exact hk g' S' H' a' w' h1 h2 h3 h4
end
section
variable{P:Program}{GI:World->Prop}{n:Nat}{old:Old}{S:af}{H:ah}{Q:fH}
def qZ (hG:aw GI) {w0:World} (bP:GI w0) {ro:Option Nat} {m:Nat} {ops:Array Oper} (cT:ops.all (fun o=>cW o.op)=true) {g:Gh} {a:Act} {w:World} (ho:g.old=old) (R:Rel P w0 n bu g S H a w) (l:List Nat) (os:List Oper) (hl:l.map (ops[·]?)=os.map some)
  (bB:∀o∈os,(bb P n false ops o).ok n=true) (bI:∀d,¬old.bx d) {K:af->ah->Prop} (h:bg P GI (os.map (bb P n false ops)) K (λ_=>False) S H):
  wpOpsIn (FR ro) m P ops (QQ P w0 n old (aB K)) l a w:=
 kv cT jQ _ _ _ (lI hG bP (old:=old) (ops:=ops) (Q:=aB K) (S0:=S) (H0:=H) l os g S H a w hl bB (λ_ _ _ _=>bI _) ho R h)
def SW.mid (hG:aw GI) {ro:Option Nat} {id p:Nat} {ops:Array Oper} {oh:Oper} {l2:List Nat} {jT jC:List Oper} (KF:ops.toList=jT++oh::jC) (hp:jT.length=p) (hr:List.range ops.size=List.range p++(p::l2)) (oY:l2.map (ops[·]?)=jC.map some)
  (cT:ops.all (λo=>cW o.op)=true) (V':oh.guard=none) (bI:∀d,¬old.bx d)
  {nN mF:List bl} (Fm:jT.map (bb P n false ops)=nN) (F7:jC.map (bb P n false ops)=mF) (iA:nN.all (·.ok n)=true) (Ay:mF.all (·.ok n)=true)
  {K1:af->ah->Prop} {K2 K3:Old->af->ah->Prop} (h1:bg P GI nN K1 (λ_=>False) S H)
  (hand:∀w0 g S1 H1 a w,g.old=old->Rel P w0 n bu g S1 H1 a w->K1 S1 H1->∃v w' g2 S2 H2,((execOp a.eval oh).run P w=.ok (.value v) w'\/((execOp a.eval oh).run P w=.ok .skip w'/\v=undef))/\Rel P w0 n bu g2 S2 H2 (a.put oh.dst v) w'/\K2 g2.old S2 H2)
  (h2:∀o S H,K2 o S H->(∀d,¬o.bx d)/\bg P GI mF (K3 o) (λ_=>False) S H) (hQ:∀o S H,K3 o S H->Q .normal o S H):SW P GI n ro (.region id ops false) Q old S H:=by
 intro w0 g a w m bP ho R;refine wpIn_region ?_;rw[hr]
 have NW:(List.range p).map (ops[·]?)=jT.map some:=by
  apply List.ext_getElem?;intro i;simp only[List.getElem?_map]
  by_cases hi:i<p
  .have h3:ops[i]? = jT[i]? := by
    rw[<-Array.getElem?_toList,KF,List.getElem?_append_left (by omega)]
   have h4:jT[i]?=some (jT[i]'(by omega)):=List.getElem?_eq_getElem (by omega);simp[hi,h3,h4]
  .have:jT[i]?=none:=List.getElem?_eq_none (by omega);simp[hi,this]
 have U5:ops[p]?=some oh:=by
  rw[<-Array.getElem?_toList,KF,List.getElem?_append_right (by omega)];simp[hp]
 refine fZ (Q1:=QQ P w0 n old (aB K1)) (fun e a w bQ hq => ?_) (fun a1 w1 hq => ?_) _ _ _ (qZ hG bP cT ho R (List.range p) jT NW (fun o iq=>by
   subst Fm;simp only[List.all_map,List.all_eq_true,Function.comp]at iA
   exact iA o iq) bI (by rw[Fm];exact h1))
 .cases e with
  |normal=>exact absurd rfl bQ
  |exit id=>obtain⟨_,_,_,_,_,h⟩:=hq;exact h.elim
  |ret=>obtain⟨_,_,_,_,_,h⟩:=hq;exact h.elim
  |panic ch=>obtain⟨_,_,_,_,_,_,_,_,_,_,h⟩:=hq;exact h.elim
  |goto l=>exact hq.elim
  |outgrown=>exact hq.elim
 .obtain⟨g1,S1,H1,lH,R1,Dt⟩:=hq;obtain⟨v,w2,g2,S2,H2,dJ,R2,lO⟩:=hand w0 g1 S1 H1 a1 w1 lH R1 Dt;obtain⟨iU,gu⟩:=h2 _ _ _ lO
  have Sb:cW oh.op=true:=by
   have:=Array.all_eq_true'.1 cT oh (Array.mem_of_getElem? U5);exact this
  have rest:wpOpsIn (FR ro) m P ops (QS P w0 n Q) l2 (a1.put oh.dst v) w2:=by
   have:=qZ (ro:=ro) (m:=m) hG bP cT (old:=g2.old) rfl R2 l2 jC oY (λo iq=>by
    subst F7;simp only[List.all_map,List.all_eq_true,Function.comp]at Ay
    exact Ay o iq) iU (by rw[F7];exact gu)
   refine eY (λe a w hq=>?_) _ _ _ this
   cases e with
   |normal=>
    obtain⟨g3,S3,H3,pH,R3,I0⟩:=hq;exact⟨g3,S3,H3,R3,by rw[pH];exact hQ _ _ _ I0⟩
   |exit id=>obtain⟨_,_,_,_,_,h⟩:=hq;exact h.elim
   |ret=>obtain⟨_,_,_,_,_,h⟩:=hq;exact h.elim
   |panic ch=>obtain⟨_,_,_,_,_,_,_,_,_,_,h⟩:=hq;exact h.elim
   |goto l=>exact hq.elim
   |outgrown=>exact hq.elim
  rcases dJ with dJ|⟨dJ,rfl⟩
  .exact aK U5 V' Sb dJ rest
  .exact dh U5 V' Sb dJ rest
variable{w0:World}{g:Gh}{a:Act}{w:World}
def Rel.AQ(R:Rel P w0 n bu g S H a w)(o:Obj):Rel P w0 n bu { g with old:={ g.old with keep:=aq g.old.keep w.heap.size (some o) } } S H a (w.alloc o):=by
 have hb:Below w.heap.size w (w.alloc o):=(Below.refl _ _).alloc (Nat.le_refl _) _;have R':=Rel.kP R hb
 have hle:g.base<=w.heap.size:=by rw[R.base];exact R.below.size
 refine{ size:=R'.size,defers:=R'.defers,facts:=R'.facts,slot:=R'.slot,own:=λt ht hu=>(R'.own t ht hu).keep rfl λb hb=>⟨rfl,rfl,hb⟩,box:=?_,iB:=R'.iB,ij:=R'.ij,inj:=R'.inj,base:=R'.base,below:=R'.below,fresh:=R'.fresh,still:=R'.still,grown:=R'.grown,kept:=?_ }
 .intro i b hi;obtain⟨cs,vs,ty,h1,h2,h3,h4,h5,h6,h7,h8,h9⟩:=R'.box i b hi;exact⟨cs,vs,ty,h1,h2,h3,h4,h5,h6,h7,λj hj c_=>(h8 j hj c_).keep rfl λb hb=>⟨rfl,rfl,hb⟩,h9⟩
 .intro b ob h
  by_cases fW:b=w.heap.size
  .subst fW
   have:ob=o:=by simpa[aq]using h.symm
   subst this;refine⟨hle,World.alloc_heap_new w _,(R.fresh _ (Nat.le_refl _)).1,(R.fresh _ (Nat.le_refl _)).2,λi hi=>?_⟩;obtain⟨_,_,_,_,_,h3,_⟩:=R.box i _ hi;have:=(Array.getElem?_eq_some_iff.1 h3).1;omega
  .have h:g.old.keep b=some ob:=by simpa[aq,fW]using h
   exact R'.kept b ob h
def pJ(b:Nat)(ks vs:List AV):AV->AV
 |.val (.map (some b'))=>if b'=b then .map ks vs else .val (.map (some b'))
 |v=>v
def Jd(b:Nat)(ks vs:List AV)(v:AV)(h:v.one=true):(pJ b ks vs v).one=true:=by
 unfold pJ;split
 .split<;>rfl
 .exact h
def Rel.MA (R:Rel P w0 n bu g S H a w) {b:Nat} {es:Array MapEntry} {clock:Nat} (hk:g.old.keep b=some (.map es clock)) (ks vs:List AV) (nv:ks.length=es.size) (Tm:vs.length=es.size)
  (UY:∀i (h:i<ks.length)(h':i<es.size),RD (λ_ _=>False) w ks[i] (es[i]).key) (uo:∀i (h:i<vs.length)(h':i<es.size),RD (λ_ _=>False) w vs[i] (es[i]).val)
  (hf:g.old.facts=[]):∃g',g'.old={ g.old with keep:=aq g.old.keep b none }/\Rel P w0 n bu g' (λt=>match S t with|.box i o=>.box i o|_=>.bh) (λi=>(H i).map λcs=>cs.map (pJ b ks vs)) a w:=by
 obtain⟨k1,k2,k3,k4,k5⟩:=R.kept b _ hk
 let g':Gh:={ g with old:={ g.old with keep:=aq g.old.keep b none },hi:=aq g.hi b 1 }
 have oJ:∀c k,g.Pr c k->g'.Pr c k:=by
  intro c k h;rcases h with h|h
  .exact .inl h
  .refine .inr ⟨h.1,?_⟩;show k<aq g.hi b 1 c
   by_cases hc:c=b
   .subst hc;rw[k3]at h;omega
   .rw[aG _ _ hc];exact h.2
 have hK:aL g.Pr g'.Pr w w:=aL.same λc k _ h=>oJ c k h
 have VV:RD g'.Pr w (.map ks vs) (.map (some b)):=by
  refine .map ks vs b es clock (.inr ⟨k1,by show 0<aq g.hi b 1 b;rw[aJ];omega⟩) k2 nv Tm (λi h h'=>(UY i h h').mono (aL.same λ_ _ _ h=>h.elim)) (λi h h'=>(uo i h h').mono (aL.same λ_ _ _ h=>h.elim))
 have TF:∀{v:AV}{c:Value},RD g.Pr w v c->RD g'.Pr w (pJ b ks vs v) c:=by
  intro v c h;unfold pJ;split
  .rename_i b';split
   .rename_i hb;subst hb;cases h;exact VV
   .exact h.mono hK
  .exact h.mono hK
 refine⟨g',rfl,{ size:=R.size,defers:=R.defers,facts:=λp hp=>(by rw[show g'.old.facts=g.old.facts from rfl,hf]at hp;cases hp),slot:=?_,own:=?_,box:=?_,iB:=?_,ij:=R.ij,inj:=R.inj,base:=R.base,below:=R.below,fresh:=?_,still:=R.still.trans hK,grown:=R.grown,kept:=?_ }⟩
 .intro t ht hu;have h:=R.slot t ht hu;show RV g'.Pr g'.al w (match S t with|.box i o=>.box i o|_=>.bh) _;split
  .rename_i i o hs;rw[hs]at h;generalize a.tmps.getD t undef=c at h
   cases h with
   |data _ _ h=>cases h
   |box _ _ b h=>exact .box _ _ _ h
  .exact .bh _
 .intro t ht hu;show dD P w g' (.slot t) (match S t with|.box i o=>.box i o|_=>.bh) _
  split<;>trivial
 .intro i c hi;obtain⟨cs,jq,ty,h1,h2,h3,h4,h5,h6,h7,h8,h9⟩:=R.box i c hi
  have lF:c≠b:=by rintro rfl;exact k5 i hi
  refine⟨cs.map (pJ b ks vs),jq,ty,by simp[h1],h2,h3,by show aq g.hi b 1 c=0;rw[aG _ _ lF];exact h4,h5,by simpa using h6,λj hj c_=>?_,λj hj c_=>?_,λj hj=>?_⟩
  .simp only[List.length_map]at hj;simp only[List.getElem_map];exact TF (h7 j hj c_)
  .simp only[List.length_map]at hj;simp only[List.getElem_map];have ho:=h8 j hj c_;unfold pJ;split
   .split<;>trivial
   .refine ho.keep rfl λb' fg=>⟨rfl,?_,fg⟩
    show aq g.hi b 1 b'=g.hi b';exact aG _ _ (by rintro rfl;rw[k4]at fg;cases fg)
  .simp only[List.length_map]at hj;simp only[List.getElem_map];exact Jd _ _ _ _ (h9 j hj)
 .intro i cs h hu;obtain⟨cs',h1,_⟩:=Option.map_eq_some_iff.1 h;exact R.iB i cs' h1 hu
 .intro c hc
  have lF:c≠b:=by
   rintro rfl;have:=(Array.getElem?_eq_some_iff.1 k2).1;omega
  exact⟨by show aq g.hi b 1 c=0;rw[aG _ _ lF];exact(R.fresh c hc).1,(R.fresh c hc).2⟩
 .intro c ob h
  have lF:c≠b:=by rintro rfl;simp[g',aq]at h
  have h:g.old.keep c=some ob:=by simpa[g',aq,lF]using h
  obtain⟨q1,q2,q3,q4,q5⟩:=R.kept c ob h;exact⟨q1,q2,by show aq g.hi b 1 c=0;rw[aG _ _ lF];exact q3,q4,q5⟩
end
def nu(i:Nat)(cs:List AV):AV->AV
 |.box j off=>if j=i then .ref ((cs.map AV.aA).drop off)else .box j off
 |v=>aT i v
section
variable{P:Program}{w0:World}{n:Nat}{g:Gh}{S:af}{H:ah}{a:Act}{w:World}
def Rel.freeze (R:Rel P w0 n bu g S H a w) {i:Nat} {cs:List AV} (hH:H i=some cs) (hf:g.old.facts=[]) :
  ∃g',g'.old=g.old/\Rel P w0 n bu g' (λt=>nu i cs (S t)) (aq H i none) a w:=by
 obtain⟨b,hb⟩:=Option.isSome_iff_exists.1 (R.iB i cs hH id);obtain⟨cs',vs,ty,e0,b1,b2,b3,b4,b5,b6,b7,b8⟩:=R.box i b hb;rw[hH]at e0;cases e0
 let g':Gh:={ g with al:=aq g.al i none,hi:=aq g.hi b cs.length }
 have oJ:∀c k,g.Pr c k->g'.Pr c k:=by
  intro c k h;rcases h with h|h
  .exact .inl h
  .refine .inr ⟨h.1,?_⟩;show k<aq g.hi b cs.length c
   by_cases hc:c=b
   .subst hc;rw[b3]at h;omega
   .rw[aG _ _ hc];exact h.2
 have hK:aL g.Pr g'.Pr w w:=aL.same λc k _ h=>oJ c k h
 have gE:∀j c,j≠i->g.al j=some c->g'.al j=some c:=λj c hj h=>by show aq g.al i none j=_;rw[aG _ _ hj];exact h
 have G9:∀j c,j≠i->g.al j=some c->c≠b:=by
  rintro j c hj h rfl;exact hj (R.inj j i _ h hb)
 refine⟨g',rfl,{ size:=R.size,defers:=R.defers,facts:=λp hp=>(by rw[show g'.old.facts=g.old.facts from rfl,hf]at hp;cases hp),slot:=?_,own:=?_,box:=?_,iB:=?_,ij:=λ_ h=>h.elim,inj:=?_,base:=R.base,below:=R.below,fresh:=?_,still:=R.still.trans hK,grown:=R.grown,kept:=?_ }⟩
 .intro t ht hu;have h:=R.slot t ht hu;generalize a.tmps.getD t undef=c at h;have h2:=(h.aT i gE).mono hK (λ_ _ h=>h);show RV g'.Pr g'.al w (nu i cs (S t)) c;generalize S t=v at h h2
  cases v<;>try exact h2
  rename_i j off;simp only[nu];simp only[aT]at h2;split
  .rename_i hj;subst hj
   have ja:∃c',c=.pointer (some ⟨c',off,none⟩)/\g.al j=some c':=by
    cases h with
    |data _ _ h=>cases h
    |box _ _ c' h=>exact⟨c',rfl,h⟩
   obtain⟨c',rfl,GQ⟩:=ja;rw[hb]at GQ;cases GQ;refine .data _ _ (.ref _ b off (λk=>vs.getD (off+k) undef) (λk hk=>?_) (λk hk=>?_) (λk hk=>?_))
   .simp only[List.getElem_drop,List.getElem_map];simp only[List.length_drop,List.length_map]at hk;exact(AV.mU _).trans (b8 _ (by omega))
   .simp only[List.length_drop,List.length_map]at hk;refine⟨.inr ⟨b1,by show off+k<aq g.hi b cs.length b;rw[aJ];omega⟩,?_⟩
    have:off+k<vs.size:=by omega
    simp[World.cell?,b2,this]
   .simp only[List.length_drop,List.length_map]at hk;simp only[List.getElem_drop,List.getElem_map];have hh:=b6 (off+k) (by omega) (by omega)
    have:off+k<vs.size:=by omega
    have:=hh.aA.mono hK;simpa[‹off+k<vs.size›]using this
  .rename_i hj;rw[if_neg hj]at h2;exact h2
 .intro t ht hu;have h:=R.own t ht hu;have h2:=zM P w g (.slot t) i (S t) _ h
  have h3:dD P w g' (.slot t) (aT i (S t)) (a.tmps.getD t undef):=h2.keep rfl λc hc=>⟨rfl,by show aq g.hi b cs.length c=g.hi c;exact aG _ _ (by rintro rfl;rw[b4]at hc;cases hc),hc⟩
  show dD P w g' (.slot t) (nu i cs (S t)) _;generalize S t=v at h3
  cases v<;>try exact h3
  simp only[nu]
  split<;>trivial
 .intro j c hj
  have eE:j≠i:=by rintro rfl;simp[g',aq]at hj
  have c_:g.al j=some c:=by simpa[g',aq,eE]using hj
  have lF:=G9 j c eE c_;obtain⟨QZ,Md,ty2,h1,h2,h3,h4,h5,h6,h7,h8,h9⟩:=R.box j c c_;refine⟨QZ,Md,ty2,by rw[aG _ _ eE];exact h1,h2,h3,by show aq g.hi b cs.length c=0;rw[aG _ _ lF];exact h4,h5,h6,λk hk eK=>(h7 k hk eK).mono hK,λk hk eK=>?_,h9⟩
  refine(h8 k hk eK).keep rfl λb' fg=>⟨rfl,?_,fg⟩
  show aq g.hi b cs.length b'=g.hi b';exact aG _ _ (by rintro rfl;rw[b4]at fg;cases fg)
 .intro j QZ h hu
  have eE:j≠i:=by rintro rfl;simp[aq]at h
  have h':H j=some QZ:=by simpa[aq,eE]using h
  show(aq g.al i none j).isSome;rw[aG _ _ eE];exact R.iB j QZ h' hu
 .intro j k c h1 h2
  have hj:j≠i:=by rintro rfl;simp[g',aq]at h1
  have hk:k≠i:=by rintro rfl;simp[g',aq]at h2
  exact R.inj j k c (by simpa[g',aq,hj]using h1) (by simpa[g',aq,hk]using h2)
 .intro c hc
  have lF:c≠b:=by
   rintro rfl;have:=(Array.getElem?_eq_some_iff.1 b2).1;omega
  exact⟨by show aq g.hi b cs.length c=0;rw[aG _ _ lF];exact(R.fresh c hc).1,(R.fresh c hc).2⟩
 .intro c ob h;obtain⟨q1,q2,q3,q4,q5⟩:=R.kept c ob h
  have lF:c≠b:=by rintro rfl;exact q5 i hb
  refine⟨q1,q2,by show aq g.hi b cs.length c=0;rw[aG _ _ lF];exact q3,q4,λj=>?_⟩;show aq g.al i none j≠some c
  by_cases hj:j=i
  .subst hj;simp[aq]
  .rw[aG _ _ hj];exact q5 j
end
section
variable{P:Program}{GI:World->Prop}{n:Nat}{old:Old}{S:af}{H:ah}{Q:fH}{ro:Option Nat}
def SW.ghost{c:Code}{K:Old->af->ah->Prop}(h:∀w0 g a w,g.old=old->Rel P w0 n bu g S H a w->∃g2 S2 H2,Rel P w0 n bu g2 S2 H2 a w/\K g2.old S2 H2)(hc:∀o S H,K o S H->SW P GI n ro c Q o S H):SW P GI n ro c Q old S H:=by
 intro w0 g a w m hG ho R;obtain⟨g2,S2,H2,R2,hK⟩:=h w0 g a w ho R;exact hc _ _ _ hK w0 g2 a w m hG rfl R2
def SW.freeze{c:Code}{i:Nat}{cs:List AV}(hH:H i=some cs)(hf:old.facts=[])(hc:SW P GI n ro c Q old (λt=>nu i cs (S t)) (aq H i none)):SW P GI n ro c Q old S H:=by
 intro w0 g a w m hG ho R;obtain⟨g',h1,R'⟩:=R.freeze hH (by rw[ho];exact hf);exact hc w0 g' a w m hG (h1.trans ho) R'
def HQ(P:Program)(w0:World)(n:Nat)(K:Old->af->ah->Prop):Exit->Act->World->Prop
 |.normal,a,w=>∃g S H,Rel P w0 n bu g S H a w/\K g.old S H
 |_,_,_=>False
def SW.hand (hG:aw GI) {id p:Nat} {ops:Array Oper} {lm l2:List Nat} {jT oh jC:List Oper} (KF:ops.toList=jT++(oh++jC)) (hp:jT.length=p) (hr:List.range ops.size=List.range p++(lm++l2)) (oY:l2.map (ops[·]?)=jC.map some)
  (cT:ops.all (λo=>cW o.op)=true) (bI:∀d,¬old.bx d)
  {nN mF:List bl} (Fm:jT.map (bb P n false ops)=nN) (F7:jC.map (bb P n false ops)=mF) (iA:nN.all (·.ok n)=true) (Ay:mF.all (·.ok n)=true)
  {K1:af->ah->Prop} {K2 K3:Old->af->ah->Prop} (h1:bg P GI nN K1 (λ_=>False) S H)
  (hand:∀w0 g S1 H1 a w m,GI w0->g.old=old->Rel P w0 n bu g S1 H1 a w->K1 S1 H1->wpOpsIn (FR ro) m P ops (HQ P w0 n K2) lm a w)
  (h2:∀o S H,K2 o S H->(∀d,¬o.bx d)/\bg P GI mF (K3 o) (λ_=>False) S H) (hQ:∀o S H,K3 o S H->Q .normal o S H):SW P GI n ro (.region id ops false) Q old S H:=by
 intro w0 g a w m bP ho R;refine wpIn_region ?_;rw[hr]
 have NW:(List.range p).map (ops[·]?)=jT.map some:=by
  apply List.ext_getElem?;intro i;simp only[List.getElem?_map]
  by_cases hi:i<p
  .have h3:ops[i]? = jT[i]? := by
    rw[<-Array.getElem?_toList,KF,List.getElem?_append_left (by omega)]
   have h4:jT[i]?=some (jT[i]'(by omega)):=List.getElem?_eq_getElem (by omega);simp[hi,h3,h4]
  .have:jT[i]?=none:=List.getElem?_eq_none (by omega);simp[hi,this]
 refine fZ (Q1:=QQ P w0 n old (aB K1)) (fun e a w bQ hq => ?_) (fun a1 w1 hq => ?_) _ _ _ (qZ hG bP cT ho R (List.range p) jT NW (fun o iq=>by
   subst Fm;simp only[List.all_map,List.all_eq_true,Function.comp]at iA
   exact iA o iq) bI (by rw[Fm];exact h1))
 .cases e with
  |normal=>exact absurd rfl bQ
  |exit id=>obtain⟨_,_,_,_,_,h⟩:=hq;exact h.elim
  |ret=>obtain⟨_,_,_,_,_,h⟩:=hq;exact h.elim
  |panic ch=>obtain⟨_,_,_,_,_,_,_,_,_,_,h⟩:=hq;exact h.elim
  |goto l=>exact hq.elim
  |outgrown=>exact hq.elim
 .obtain⟨g1,S1,H1,lH,R1,Dt⟩:=hq;refine fZ (Q1:=HQ P w0 n K2) (λe a w bQ hq=>?_) (λa2 w2 hq=>?_) _ _ _ (hand w0 g1 S1 H1 a1 w1 m bP lH R1 Dt)
  .cases e with
   |normal=>exact absurd rfl bQ
   |_=>exact hq.elim
  .obtain⟨g2,S2,H2,R2,lO⟩:=hq;obtain⟨iU,gu⟩:=h2 _ _ _ lO
   have:=qZ (ro:=ro) (m:=m) hG bP cT (old:=g2.old) rfl R2 l2 jC oY (λo iq=>by
    subst F7;simp only[List.all_map,List.all_eq_true,Function.comp]at Ay
    exact Ay o iq) iU (by rw[F7];exact gu)
   refine eY (λe a w hq=>?_) _ _ _ this
   cases e with
   |normal=>
    obtain⟨g3,S3,H3,pH,R3,I0⟩:=hq;exact⟨g3,S3,H3,R3,by rw[pH];exact hQ _ _ _ I0⟩
   |exit id=>obtain⟨_,_,_,_,_,h⟩:=hq;exact h.elim
   |ret=>obtain⟨_,_,_,_,_,h⟩:=hq;exact h.elim
   |panic ch=>obtain⟨_,_,_,_,_,_,_,_,_,_,h⟩:=hq;exact h.elim
   |goto l=>exact hq.elim
   |outgrown=>exact hq.elim
end
section
variable{P:Program}{a:Act}{w:World}
end
section
variable{P:Program}{GI:World->Prop}{n:Nat}{old:Old}{S:af}{H:ah}{Q:fH}{ro:Option Nat}
end
section
variable{P:Program}{GI:World->Prop}{call:Aj}{n:Nat}{ro:Option Nat}{Q:fH}{old:Old}
def Iu{c:Code}{x y:ae}(h:de P n c=.seq x y):∃x' y',c=.seq x' y'/\de P n x'=x/\de P n y'=y:=by
 cases c with
 |seq x' y'=>simp only[de,ae.seq.injEq]at h;exact⟨x',y',rfl,h.1,h.2⟩
 |region id ops draw=>
  simp only[de]at h;split at h
  .split at h<;>cases h
  .split at h<;>cases h
 |cond c x y=>simp only[de]at h;split at h<;>cases h
 |_=>cases h
end
section
variable{P:Program}{GI:World->Prop}{n:Nat}{w0:World}
def xy(P:Program)(GI:World->Prop)(i:Nat):Nat->ae->(dQ->af->ah->Prop)->af->ah->Prop
 |0,ac,Q,S,H=>∃cs,H i=some cs/\bD P GI ac Q (λt=>nu i cs (S t)) (aq H i none)
 |k+1,.seq x y,Q,S,H=>bD P GI x (λe S' H'=>match e with
  |.normal=>xy P GI i k y Q S' H'
  |e=>Q e S' H') S H
 |_+1,_,_,_,_=>False
def GO(hG:aw GI)(bP:GI w0)(hm:P.follows .mixedOrders=true){old:Old}{i:Nat}(hf:old.facts=[])(bI:∀d,¬old.bx d):∀(k:Nat)(c:Code)(Q:dQ->af->ah->Prop)(g:Gh)(S:af)(H:ah)(a:Act)(w:World),g.old=old->Rel P w0 n bu g S H a w->xy P GI i k (de P n c) Q S H->c.wp P (QQ P w0 n old Q) a w
 |0,c,Q,g,S,H,a,w,ho,R,h=>by
  obtain⟨cs,hH,h⟩:=h;obtain⟨g',h1,R'⟩:=R.freeze hH (by rw[ho];exact hf);exact kX hG bP hm c _ g' _ _ a w (λd _=>bI d) (h1.trans ho) R' h
 |k+1,c,Q,g,S,H,a,w,ho,R,h=>by
  cases jN:de P n c<;>rw[jN]at h<;>try (exact h.elim)
  rename_i xa ya;obtain⟨x,y,rfl,rfl,rfl⟩:=Iu jN;refine wp_seq (wp_mono (kX hG bP hm x _ g S H a w (λd _=>bI d) ho R h) ?_);intro e a' w' he
  cases e with
  |normal=>
   obtain⟨g',S',H',e1,R',h'⟩:=he;exact GO hG bP hm hf bI k y Q g' S' H' a' w' e1 R' h'
  |_=>exact he
def AC.L' (hG:aw GI) (hm:P.follows .mixedOrders=true) {f:Nat} {fn:Func} {c:Code} {args:List AV} {out:iS} (i k:Nat) (hf:P.funcs[f]? = some fn) (hb:fn.body=some c) (hn:fn.ntmps=n) (hl:args.length≤n) {ac:ae} (hc:de P n c=ac)
  (h:xy P GI i k ac (post P n fn.results.toList out) (start args) (λ_=>none)):AC P GI f args out:=by
 intro w old bp jI hlen hr;refine calls_of_wp hf hb ?_;subst hc;have R:Rel P w n bu _ (start args) (λ_=>none) { tmps:=bp++Array.replicate (fn.ntmps-bp.size) undef,defers:=[] } w:=Rel.begin hn hl hlen hr;refine wp_mono (GO hG jI hm (old:=Old.plain old w) rfl (λ_ h=>h) k c _ _ _ _ _ w rfl R h) ?_;intro e a' w' he
 have fin:(∃ g' S H,g'.old=Old.plain old w∧Rel P w n bu g' S H a' w'∧∃ v,cn P n fn.results.toList S H=some v∧out = .ret v) →
   a'.defers=[]/\∃v,(results fn a'.tmps).run P w'=.ok v w'/\Ends P old w out (.returned v) w':=by
  rintro⟨g',S,H,e1,R',v,hv,rfl⟩;obtain⟨c,r1,r2,r3⟩:=pz R' hv;refine⟨by rw[R'.defers,e1];rfl,c,r1,?_,g'.hi,λb hb=>(R'.fresh b hb).1,c,rfl,?_,?_⟩
  .have:=R'.below;rwa [R'.base]at this
  .have:g'.Pr=ji w.heap.size old g'.hi:=by
    funext b k
    simp only[Gh.Pr,ji,R'.base,e1,Old.plain]
   rw[this]at r2;exact .data _ _ r2
  .rwa [R'.base]at r3
 cases e with
 |normal=>exact fin he
 |ret=>exact fin he
 |exit id=>obtain⟨_,_,_,_,_,h⟩:=he;exact h.elim
 |panic chain=>
  obtain⟨hd,v,c,hi,S,H,h1,h2,h3,h4,h5⟩:=he;subst h1;cases(show out=.panic v from h5);exact⟨hd,h2,hi,h3,c,rfl,h4⟩
 |goto l=>exact he.elim
 |outgrown=>exact he.elim
def LQ{i k:Nat}{x y:ae}{Q:dQ->af->ah->Prop}{S:af}{H:ah}(K:af->ah->Prop)(hx:bD P GI x (λe S H=>e=.normal/\K S H) S H)(pA:∀{Q Q':dQ->af->ah->Prop},(∀e S H,Q e S H->Q' e S H)->bD P GI x Q S H->bD P GI x Q' S H)(hy:∀S' H',K S' H'->xy P GI i k y Q S' H'):xy P GI i (k+1) (.seq x y) Q S H:=
 pA (λe S' H' h=>by obtain⟨rfl,h⟩:=h;exact hy S' H' h) hx
def HF{i:Nat}{ac:ae}{Q:dQ->af->ah->Prop}{S:af}{H:ah}(cs:List AV)(K:af->ah->Prop)(hH:H i=some cs)(hK:K (λt=>nu i cs (S t)) (aq H i none))(hc:∀S' H',K S' H'->bD P GI ac Q S' H'):xy P GI i 0 ac Q S H:=⟨cs,hH,hc _ _ hK⟩
end
section
variable{P:Program}{GI:World->Prop}{w0:World}{n:Nat}{g:Gh}{S:af}{H:ah}{a:Act}{w:World}
def Rel.EE (R:Rel P w0 n bu g S H a w) {w':World} (hb:Below w.heap.size w w') {b:Nat} (hle:w.heap.size≤b) {o:Obj} (ho:w'.heap[b]? = some o) :
  Rel P w0 n bu { g with old:={ g.old with keep:=aq g.old.keep b (some o) } } S H a w':=by
 have R':=Rel.kP R hb
 have gx:g.base<=w.heap.size:=by rw[R.base];exact R.below.size
 refine{ size:=R'.size,defers:=R'.defers,facts:=R'.facts,slot:=R'.slot,own:=λt ht hu=>(R'.own t ht hu).keep rfl λb hb=>⟨rfl,rfl,hb⟩,box:=?_,iB:=R'.iB,ij:=R'.ij,inj:=R'.inj,base:=R'.base,below:=R'.below,fresh:=R'.fresh,still:=R'.still,grown:=R'.grown,kept:=?_ }
 .intro i c hi;obtain⟨cs,vs,ty,h1,h2,h3,h4,h5,h6,h7,h8,h9⟩:=R'.box i c hi;exact⟨cs,vs,ty,h1,h2,h3,h4,h5,h6,h7,λj hj c_=>(h8 j hj c_).keep rfl λb hb=>⟨rfl,rfl,hb⟩,h9⟩
 .intro c ob h
  by_cases fW:c=b
  .subst fW
   have:ob=o:=by simpa[aq]using h.symm
   subst this;refine⟨Nat.le_trans gx hle,ho,(R.fresh _ hle).1,(R.fresh _ hle).2,λi hi=>?_⟩;obtain⟨_,_,_,_,_,h3,_⟩:=R.box i _ hi;have:=(Array.getElem?_eq_some_iff.1 h3).1;omega
  .have h:g.old.keep c=some ob:=by simpa[aq,fW]using h
   exact R'.kept c ob h
def RD.flat{Pr:Nat->Nat->Prop}{v:AV}{c:Value}(h:RD Pr w v c):Go.AL.flat v=true/\∀d,aT d v=v:=by
 have:=h.bC
 cases v<;>first|exact⟨rfl,λ_=>rfl⟩|cases this
def Rel.hand (R:Rel P w0 n bu g S H a w) {b:Nat} {o:Obj} (hk:g.old.keep b=some o) (m:Nat) :
  ∃g',g'.old={ g.old with keep:=aq g.old.keep b none }/\g'.base=g.base/\Rel P w0 n bu g' S H a w/\(∀c k,g.Pr c k->g'.Pr c k)/\∀k,k<m->g'.Pr b k:=by
 obtain⟨k1,k2,k3,k4,k5⟩:=R.kept b o hk
 have R1:Rel P w0 n bu { g with old:={ g.old with keep:=aq g.old.keep b none } } S H a w:=by
  refine{ size:=R.size,defers:=R.defers,facts:=R.facts,slot:=R.slot,own:=λt ht hu=>(R.own t ht hu).keep rfl λb hb=>⟨rfl,rfl,hb⟩,box:=?_,iB:=R.iB,ij:=R.ij,inj:=R.inj,base:=R.base,below:=R.below,fresh:=R.fresh,still:=R.still,grown:=R.grown,kept:=?_ }
  .intro i c hi;obtain⟨cs,vs,ty,h1,h2,h3,h4,h5,h6,h7,h8,h9⟩:=R.box i c hi;exact⟨cs,vs,ty,h1,h2,h3,h4,h5,h6,h7,λj hj c_=>(h8 j hj c_).keep rfl λb hb=>⟨rfl,rfl,hb⟩,h9⟩
  .intro c ob h
   have hc:c≠b:=by rintro rfl;simp[aq]at h
   exact R.kept c ob (by simpa[aq,hc]using h)
 have av:=(Array.getElem?_eq_some_iff.1 k2).1;have R2:=R1.kJ (G:=λc=>c=b) (λ_=>m) (λc hc=>by subst hc;exact⟨⟨k1,k3,k4,k5⟩,av,aJ _ _ _⟩);refine⟨Gh.kJ { g with old:={ g.old with keep:=aq g.old.keep b none } } (λc=>c=b) (λ_=>m),rfl,rfl,R2,λc k hp=>?_,λk hkm=>.inr ⟨k1,?_⟩⟩
 .rcases hp with hp|hp
  .exact .inl hp
  .refine .inr ⟨hp.1,?_⟩;simp only[Gh.kJ]
   by_cases hc:c=b
   .subst hc;rw[k3]at hp;omega
   .rw[if_neg hc];exact hp.2
 .simp only[Gh.kJ];rw[if_pos trivial];exact hkm
end
section
variable{P:Program}{GI:World->Prop}{md:Region.Mode}{ops:Array Oper}{n:Nat}
def DS(P:Program)(GI:World->Prop)(o:bl)(S:af)(H:ah)(v:AV):Prop:=
 ar S o.guard=some true/\match o.op with
 |.call f args=>(args.any λy=>bR (ev S y))=false/\dz P f=true/\AC P GI f (args.map λy=>fz H (ev S y)) (.panic v)
 |_=>False
def G0{x y:bl}{S:af}{H:ah}{ex:aD}{v:AV}(ha:x.apart y=true)(hx:dU P GI x S H ex)(hy:DS P GI y (ex.S S x.dst) (ex.H H) v):DS P GI y S H v:=by
 obtain⟨h1,h2,h3⟩:=apart_spec ha;obtain⟨d1,d2⟩:=eW hx
 have hS:∀t∈y.reads,ex.S S x.dst t=S t:=λt ht=>aD.sT (λh=>(h1 t (eT (.inl h))).1 ht) (λh=>(h1 t (eT (.inr (d1 t h)))).1 ht)
 unfold DS at hy⊢;obtain⟨hw,hy⟩:=hy;refine⟨by rw[<-hw];exact(sC λt b Av=>hS t (by simp[bl.reads,Av])).symm,?_⟩;generalize cM:y.op=op at hy
 cases op<;>try (exact hy.elim)
 rename_i f args;simp only at hy⊢
 have Hh:∀z∈args,∀t∈z.tmps,ex.S S x.dst t=S t:=λz hz t ht=>hS t (by
  simp only[bl.reads,cM,dS.rd,List.mem_append,List.mem_flatMap]
  exact .inl ⟨z,hz,ht⟩)
 have e1:(args.any λy=>bR (ev (ex.S S x.dst) y))=(args.any λy=>bR (ev S y)):=by
  rw[Bool.eq_iff_iff];simp only[List.any_eq_true]
  constructor
  .rintro⟨y,hy,hb⟩;exact⟨y,hy,by rw[<-bt (Hh y hy)];exact hb⟩
  .rintro⟨y,hy,hb⟩;exact⟨y,hy,by rw[bt (Hh y hy)];exact hb⟩
 obtain⟨hb,hc,jN⟩:=hy
 have e2:(args.map λy=>fz (ex.H H) (ev (ex.S S x.dst) y))=(args.map λy=>fz H (ev S y)):=List.map_congr_left λy hy=>by
  simp only[List.any_eq_false,Bool.not_eq_true]at hb;rw[wu (hb y hy) (H':=H),bt (Hh y hy)]
 rw[e1]at hb;rw[e2]at jN;exact⟨hb,hc,jN⟩
def Ct(P:Program)(GI:World->Prop)(n:Nat)(ops:Array Oper)(i:Nat)(K:af->ah->Prop)(Qp:AV->Prop)(S:af)(H:ah):Prop:=
 match iv P n ops i with
 |none=>False
 |some o=>(∃e,dU P GI o S H e/\K (e.S S o.dst) (e.H H))\/∃v,DS P GI o S H v/\Qp v
def Cn(P:Program)(GI:World->Prop)(n:Nat)(md:Region.Mode)(ops:Array Oper)(QA:af->ah->Prop)(Qp:AV->Prop):Nat->Array Bool->af->ah->Prop
 |0,listed,S,H=>Region.ready md ops listed=[]/\QA S H
 |fuel+1,listed,S,H=>(Region.ready md ops listed=[]->QA S H)/\∀i∈Region.ready md ops listed,Ct P GI n ops i (Cn P GI n md ops QA Qp fuel (listed.setIfInBounds i true)) Qp S H
def Hi {QA:af→ah→Prop} {Qp:AV→Prop} {i:Nat} {oi:bl} {e:aD} (hi:iv P n ops i=some oi) :
  ∀(fuel:Nat)(listed:Array Bool)(S:af)(H:ah),
   (∀j o aj,ops[j]?=some o->iv P n ops j=some aj->j≠i->listed.getD j true=false->(∀ed∈o.after,Region.binds md ed=true->ed.on≠i)->oi.apart aj=true)->
   i∈Region.ready md ops listed->dU P GI oi S H e->
   Cn P GI n md ops QA Qp fuel (listed.setIfInBounds i true) (e.S S oi.dst) (e.H H)->Cn P GI n md ops QA Qp (fuel+1) listed S H:=by
 intro fuel
 induction fuel with
 |zero=>
  intro listed S H _ hr hy hK;refine⟨λh=>(by rw[h]at hr;cases hr),λj hj=>?_⟩
  by_cases eE:j=i
  .subst eE;unfold Ct;rw[hi];exact .inl ⟨e,hy,hK⟩
  .have:=ready_mono hj eE;rw[hK.1]at this;cases this
 |succ fuel ih=>
  intro listed S H oT hr hy hK;refine⟨λh=>(by rw[h]at hr;cases hr),λj hj=>?_⟩
  by_cases eE:j=i
  .subst eE;unfold Ct;rw[hi];exact .inl ⟨e,hy,hK⟩
  .have h1:=hK.2 j (ready_mono hj eE);obtain⟨vg,o,ho,eD⟩:=mem_ready.1 hj
   have qg:iv P n ops j=some (bb P n true ops o):=by simp[iv,ho]
   have AG:∀ed∈o.after,Region.binds md ed=true->ed.on≠i:=λed OJ hb heq=>by
    have h1:=eD ed OJ hb;have h0:=(mem_ready.1 hr).1;rw[heq]at h1;rcases Nat.lt_or_ge i listed.size with h'|h'
    .simp[h']at h0 h1;rw[h0]at h1;cases h1
    .simp[Array.getElem?_eq_none h']at h1
   have j4:=oT j o _ ho qg eE vg AG;unfold Ct at h1⊢;rw[qg]at h1⊢
   rcases h1 with h1|⟨v,hg,hq⟩
   case inr=>exact .inr ⟨v,G0 j4 hy hg,hq⟩
   obtain⟨ej,Bv,L0⟩:=h1;have rZ:=qx j4 hy Bv;refine .inl ⟨ej,rZ,?_⟩
   have tz:∀k o' ak,ops[k]?=some o'->iv P n ops k=some ak->k≠i->(listed.setIfInBounds j true).getD k true=false->(∀ed∈o'.after,Region.binds md ed=true->ed.on≠i)->oi.apart ak=true:=by
    intro k o' ak hk It yp eI dZ;refine oT k o' ak hk It yp ?_ dZ
    by_cases yz:j=k
    .subst yz;exact vg
    .rw[getD_set_ne true yz]at eI;exact eI
   refine ih (listed.setIfInBounds j true) _ _ tz (ready_mono hr (Ne.symm eE)) (qv j4 rZ hy) ?_;rw[Array.setIfInBounds_comm _ _ eE];rw[<-uO j4 (eW hy).1 (eW Bv).1,<-uP j4 (eW hy).2 (eW rZ).2];exact L0
def Au(md:Region.Mode)(ops:Array Oper)(al:List bl)(ps:List Nat):List Nat->Array Bool->Bool
 |[],listed=>(Region.ready md ops listed).isEmpty
 |k::ord,listed=>(Region.ready md ops listed).contains k&&D6 md ops al listed k&&(!ps.contains k||Region.ready md ops listed==[k])&&Au md ops al ps ord (listed.setIfInBounds k true)
def DN(P:Program)(GI:World->Prop)(op:dS)(dst:Option Nat)(K:af->ah->Prop)(Qp:AV->Prop)(S:af)(H:ah):Prop:=
 match op with
 |.call f args=>(args.any λy=>bR (ev S y))=false/\aM P GI (.call f args) dst K Qp S H
 |_=>False
def qo(P:Program)(GI:World->Prop)(al:List bl)(ps:List Nat):List Nat->(af->ah->Prop)->(AV->Prop)->af->ah->Prop
 |[],K,_,S,H=>K S H
 |k::ord,K,Qp,S,H=>match al[k]? with
  |none=>False
  |some o=>match ar S o.guard with
   |some true=>if ps.contains k then DN P GI o.op o.dst (qo P GI al ps ord K Qp) Qp S H else fL P GI o.op o.dst (qo P GI al ps ord K Qp) S H
   |some false=>qo P GI al ps ord K Qp (aH S o.dst bG) H
   |none=>False
def CF {QA:af→ah→Prop} {Qp:AV→Prop} {ps:List Nat}:∀ (ord:List Nat) (listed:Array Bool) (S:af) (H:ah),
  Au md ops (aO P n true ops) ps ord listed=true->qo P GI (aO P n true ops) ps ord QA Qp S H->Cn P GI n md ops QA Qp ord.length listed S H
 |[],_,_,_,hB,h=>⟨by simpa[Au]using hB,h⟩
 |k::ord,listed,S,H,hB,h=>by
  simp only[Au,Bool.and_eq_true]at hB;obtain⟨⟨⟨hr,hf⟩,hp⟩,OU⟩:=hB;simp only[qo]at h;split at h
  case h_1=>exact h.elim
  rename_i o ho
  have ha:iv P n ops k=some o:=by rw[<-eL];exact ho
  have iR:k∈Region.ready md ops listed:=by simpa using hr
  have step:∀e,dU P GI o S H e->qo P GI (aO P n true ops) ps ord QA Qp (e.S S o.dst) (e.H H)->Cn P GI n md ops QA Qp (k::ord).length listed S H:=λe hy hK=>
   Hi ha ord.length listed S H (xT ha hf) iR hy (CF ord _ _ _ OU hK)
  split at h
  .rename_i hw;split at h
   .rename_i fJ;simp only[fJ,Bool.not_true,Bool.false_or,beq_iff_eq]at hp;unfold DN at h;split at h
    case h_2=>exact h.elim
    rename_i f args cM;obtain⟨hb,out,h1,h2,h3,h4⟩:=h
    cases out with
    |ret v=>
     refine step { v:=v } ?_ h4;unfold dU;rw[hw];simp only[cM];exact⟨hb,.ret v,h1,h2,h3,rfl⟩
    |panic v=>
     refine⟨λhn=>(by rw[hn]at iR;cases iR),λj hj=>?_⟩;rw[hp,List.mem_singleton]at hj;subst hj;unfold Ct;rw[ha];refine .inr ⟨v,⟨hw,?_⟩,h4⟩;rw[cM];exact⟨hb,h1,h2⟩
   .obtain⟨e,he,hK⟩:=sr h;exact step e (by unfold dU;rw[hw];exact he) hK
  .rename_i hw;exact step { v:=bG } (by unfold dU;rw[hw]) h
  .exact h.elim
variable{w0:World}{g:Gh}{S:af}{H:ah}{a:Act}{w:World}
def Pf (hG:aw GI) (bP:GI w0) {old:Old} {Q:dQ→af→ah→Prop} {S0:af} {H0:ah} (hA:∀ o∈ops,∀ t z,(bb P n true ops o).op ≠ .alloc t z) (bB:∀ o∈ops,(bb P n true ops o).ok n=true) :
  ∀(fuel:Nat)(listed:Array Bool)(g:Gh)(S:af)(H:ah)(a:Act)(w:World),g.old=old->Rel P w0 n bu g S H a w->
   Cn P GI n .any ops (Q .normal) (λv=>Q (.panic v) S0 H0) fuel listed S H->wpAny P .any ops (QQ P w0 n old Q) fuel listed a w:=by
 intro fuel
 induction fuel with
 |zero=>
  intro listed g S H a w ho R h;exact⟨h.1,g,S,H,ho,R,h.2⟩
 |succ fuel ih=>
  intro listed g S H a w ho R h;refine⟨λhr=>⟨g,S,H,ho,R,h.1 hr⟩,λi hi=>?_⟩;have hd:=h.2 i hi;obtain⟨o,i_,w_⟩:=tS (P:=P) (n:=n) hi;unfold Ct at hd;rw[w_]at hd;have KC:=Array.mem_of_getElem? i_;have rB:=bB o KC;have XY:=hA o KC
  have oa:∀t,o.dst=some t->t<n/\t∉(bb P n true ops o).op.rd:=by
   intro t ht;simp only[bl.ok,Bool.and_eq_true]at rB;have h1:=rB.1;rw[show(bb P n true ops o).dst=o.dst from rfl,ht]at h1;simpa using h1
  unfold wpOp;simp only[i_]
  rcases hd with⟨e,hy,hK⟩|⟨v,⟨tY,hv⟩,hq⟩
  case inr=>
   rw[qJ R (λ_ _ _=>id) rB tY];simp only[if_true];refine .inl ?_;generalize cM:(bb P n true ops o).op=op at hv;have sY:comp P n (match o.dst with|some d=>taken ops d|none=>false) (KD ops o) o=op:=cM
   cases op<;>try (exact hv.elim)
   rename_i f args;obtain⟨hb,h1,h2⟩:=hv;refine qk R hG bP sY (λt ht=>⟨(oa t ht).1,id⟩) (λ_ _=>id) (KA:=λ_=>False) (Qp:=λv'=>v'=v) ⟨.panic v,h1,h2,⟨λh=>absurd (hb.symm.trans h) (by decide),rfl⟩⟩ (λ_ _ _ _ _ _ _ hf=>hf.elim) ?_;intro v' c ck w' k1 k2 k3 k4;subst k4;exact⟨by rw[<-ho];exact R.defers,v',c,ck,S0,H0,rfl,k1,k2,by rw[<-ho];exact k3,hq⟩
  unfold dU at hy
  cases tY:ar S (bb P n true ops o).guard with
  |none=>rw[tY]at hy;exact hy.elim
  |some b=>
   rw[qJ R (λ_ _ _=>id) rB tY];rw[tY]at hy
   cases b with
   |false=>
    simp only at hy;subst hy;simp only[Bool.false_eq_true,if_false];exact ih _ g _ _ _ _ ho (R.aH o.dst _ _ (λt ht=>(oa t ht).1) (.data _ _ (sI _ _)) λ_ _=>trivial) hK
   |true=>
    simp only at hy;simp only[if_true];refine .inl ?_
    have next:∀(g':Gh)(a':Act)(w':World),g'.old=g.old->Rel P w0 n bu g' (e.S S o.dst) (e.H H) a' w'->wpAny P .any ops (QQ P w0 n old Q) fuel (listed.setIfInBounds i true) a' w':=
     λg' a' w' h2 R'=>ih _ g' _ _ _ _ (h2.trans ho) R' hK
    by_cases bn:(bb P n true ops o).op.calm=true
    .exact(uy R rfl bn (λt ht=>⟨(oa t ht).1,id⟩) (λ_ _=>id) (λt ht=>(oa t ht).2) (z_ bn hy)).wp λg' a' w' e1 e2 R'=>next g' a' w' e2 R'
    .generalize cM:(bb P n true ops o).op=op at bn hy;have sY:comp P n (match o.dst with|some d=>taken ops d|none=>false) (KD ops o) o=op:=cM
     cases op<;>try (exact absurd rfl bn)
     case alloc t cs=>exact absurd cM (XY t cs)
     case call f args=>
      exact qk R hG bP sY (λt ht=>⟨(oa t ht).1,id⟩) (λ_ _=>id) hy.2 (λv g' a' w' e1 e2 R' hk=>by subst hk;exact next g' a' w' e2 R') (λ_ _ _ _ _ _ _ hf=>hf.elim)
     case gR f args=>
      simp only[jZ]at hy;split at hy
      case h_2=>exact hy.elim
      rename_i k first cap u7;exact sS R hG bP sY (λt ht=>⟨(oa t ht).1,id⟩) (λ_ _=>id) u7 hy.2 (λv g' a' w' e1 e2 R' hk=>by subst hk;exact next g' a' w' e2 R') (λ_ _ _ _ _ _ _ hf=>hf.elim)
     case box=>exact hy.elim
     case panic=>exact hy.elim
     case other=>exact hy.elim
def E9(l:List bl):Bool:=l.all λo=>match o.op with|.alloc ..=>false|_=>true
def M1(P:Program)(n:Nat)(ops:Array Oper)(ps ord:List Nat):Bool:=
 (aO P n true ops).all (·.ok n)&&E9 (aO P n true ops)&&decide (ord.length=ops.size)&&Au .any ops (aO P n true ops) ps ord (Array.replicate ops.size false)
def SW.Ui (hG:aw GI) (hm:P.follows .mixedOrders=true) {ro:Option Nat} {old:Old} {Q:fH} {id:Nat} {ps ord:List Nat} (cT:ops.all (fun o=>cW o.op)=true) (bB:M1 P n ops ps ord=true)
  {l:List bl} (hl:aO P n true ops=l) (h:qo P GI l ps ord (Q .normal old) (λv=>Q (.panic v) old S H) S H):SW P GI n ro (.region id ops true) Q old S H:=by
 subst hl;intro w0 g a w m bP ho R;simp only[M1,Bool.and_eq_true,decide_eq_true_eq]at bB;obtain⟨⟨⟨h1,h2⟩,h3⟩,h4⟩:=bB;have R0:Rel P w0 n bu g S H a { w with drawn:=w.drawn+1 }:=R.kP ((Below.refl _ w).drew)
 refine wpIn_mono (wpIn_region_any hm (pX cT jQ _ _ _ _ (Pf hG bP (old:=old) (Q:=Q.bD old) (S0:=S) (H0:=H) (λo iq t z hz=>?_) (λo iq=>?_) ops.size (Array.replicate ops.size false) g S H a _ ho R0 ?_))) λ_ _ _ hq=>tq hq
 .have:=List.all_eq_true.1 h2 (bb P n true ops o) (List.mem_map_of_mem (by simpa using iq));rw[hz]at this;cases this
 .simp only[aO,List.all_map,List.all_eq_true,Function.comp]at h1;exact h1 o (by simpa using iq)
 .rw[<-h3];exact CF ord _ S H (by rw[h3];exact h4) h
def mn(P:Program)(GI:World->Prop):List (Bool×bl)->(af->ah->Prop)->(AV->Prop)->af->ah->Prop
 |[],K,_,S,H=>K S H
 |(b,o)::L,K,Qp,S,H=>match ar S o.guard with
  |some true=>if b then DN P GI o.op o.dst (mn P GI L K Qp) Qp S H else fL P GI o.op o.dst (mn P GI L K Qp) S H
  |some false=>mn P GI L K Qp (aH S o.dst bG) H
  |none=>False
def CB{al:List bl}{ps:List Nat}{K:af->ah->Prop}{Qp:AV->Prop}:∀(ord:List Nat)(L:List (Bool×bl)),(ord.map λk=>(ps.contains k,al[k]?))=(L.map λx=>(x.1,some x.2))->qo P GI al ps ord K Qp=mn P GI L K Qp
 |[],[],_=>rfl
 |[],_::_,h=>by simp at h
 |_::_,[],h=>by simp at h
 |k::ord,(b,o)::L,h=>by
  simp only[List.map_cons,List.cons.injEq,Prod.mk.injEq]at h;obtain⟨⟨h1,h2⟩,h3⟩:=h
  funext S H
  simp only[qo,mn,h1,h2,CB ord L h3]
def qG{op:dS}{dst:Option Nat}{K K':af->ah->Prop}(hK:∀S H,K S H->K' S H){S:af}{H:ah}(h:fL P GI op dst K S H):fL P GI op dst K' S H:=by
 cases op<;>simp only[fL,aM]at h⊢<;>(try exact h)
 case alloc=>cases dst<;>first|exact h|exact hK _ _ h
 case call f args=>
  obtain⟨hb,out,h1,h2,h3,h4⟩:=h;refine⟨hb,out,h1,h2,h3,?_⟩
  cases out with
  |ret v=>exact hK _ _ h4
  |panic v=>exact h4
 case gR f args=>
  refine⟨h.1,?_⟩;have h:=h.2;split at h
  .obtain⟨out,h1,h2,h3,h4⟩:=h;refine⟨out,h1,h2,h3,?_⟩
   cases out with
   |ret v=>exact hK _ _ h4
   |panic v=>exact h4
  .exact h.elim
 all_goals
  split at h
  .exact hK _ _ h
  .exact h.elim
def qP{K:af->ah->Prop}{Qp:AV->Prop}{L:List (Bool×bl)}:∀(l:List bl){S:af}{H:ah},dc P GI l (mn P GI L K Qp) S H->mn P GI (l.map (λo=>(false,o))++L) K Qp S H
 |[],_,_,h=>h
 |o::l,S,H,h=>by
  simp only[List.map_cons,List.cons_append,mn,dc]at h⊢
  cases hw:ar S o.guard with
  |none=>rw[hw]at h;exact h.elim
  |some b=>
   rw[hw]at h
   cases b with
   |true=>exact qG (λS H h=>qP l h) h
   |false=>exact qP l h
def Hp {K:af→ah→Prop} {Qp:AV→Prop} {L:List (Bool×bl)} {d:Option Nat} {f:Nat} {args:List cm} {S:af} {H:ah} (hb:(args.any fun y=>bR (ev S y))=false) (hc:dz P f=true) {out:iS} (h:AC P GI f (args.map fun y=>fz H (ev S y)) out)
  (hk:match(generalizing:=false) out with|.ret v=>mn P GI L K Qp (aH S d v) H|.panic v=>Qp v):mn P GI ((true,⟨d,none,.call f args⟩)::L) K Qp S H:=by
 simp only[mn,ar,if_true,DN];refine⟨hb,out,hc,h,λh=>absurd (hb.symm.trans h) (by decide),?_⟩
 cases out<;>exact hk
def Ip{K:af->ah->Prop}{Qp:AV->Prop}(l:List bl){S:af}{H:ah}(h:dc P GI l K S H):mn P GI (l.map (λo=>(false,o))) K Qp S H:=by
 have:=qP (P:=P) (GI:=GI) (K:=K) (Qp:=Qp) (L:=[]) l h;rwa [List.append_nil]at this
def SW.Us (hG:aw GI) (hm:P.follows .mixedOrders=true) {ro:Option Nat} {old:Old} {Q:fH} {id:Nat} (ps ord:List Nat) (cT:ops.all (fun o=>cW o.op)=true) (bB:M1 P n ops ps ord=true)
  {l:List bl} (hl:aO P n true ops=l) (L:List (Bool×bl)) (hL:(ord.map λk=>(ps.contains k,l[k]?))=(L.map λx=>(x.1,some x.2))) (h:mn P GI L (Q .normal old) (λv=>Q (.panic v) old S H) S H):SW P GI n ro (.region id ops true) Q old S H:=
 SW.Ui hG hm cT bB hl (by rw[CB ord L hL];exact h)
end
section
variable{P:Program}{GI:World->Prop}{n:Nat}{a:Act}{w:World}{S:af}{H:ah}
def q' {o:Oper} {s el:TypeId} {i:TypeInfo} {x1 x2:Operand} {b m cap k:Nat} (ho:o.op = .indexAddr s x1 x2) (hs:P.underlying s=some (.slice el)) (hi:P.info? el=some i)
  (h1:a.eval x1=.slice (some ⟨b,0,none⟩) m cap) (h2:a.eval x2=.int .i64 k) (hk:k<m):(execOp a.eval o).run P w=.ok (.value (.pointer (some ⟨b,k*i.size,none⟩))) w:=by
 have Az:(0:Int)<=k:=by omega
 have nv:(k:Int)<m:=by omega
 simp[execOp,ho,h1,h2,Instr.indexAt,asIntOf,run_underlying hs,Az,nv,sizeOf,typeInfo,hi,Addr.add_lit,hk]
def rr {o:Oper} {s:TypeId} {fs:Array Field} {f:Field} {i:TypeInfo} {j:Nat} {x:Operand} {b off:Nat} (ho:o.op = .fieldAddr s x j) (hs:P.underlying s=some (.struct fs)) (hf:fs[j]? = some f) (hi:P.info? f.type=some i) (hz:i.size≠0)
  (hx:a.eval x=.pointer (some ⟨b,off,none⟩)):(execOp a.eval o).run P w=.ok (.value (.pointer (some ⟨b,off+f.offset,none⟩))) w:=by
 simp[execOp,ho,hx,Instr.fieldAt,run_underlying hs,hf,Instr.sureAddr,fieldPlace,sizeOf,typeInfo,hi,hz,Addr.add_lit]
def kj(w:World){b:Nat}{cs cs':Array Value}{ty:TypeId}(h:w.heap[b]?=some (.cells cs ty (0,0))):w.setRow b cs'=w.putObj b (.cells cs' ty (0,0)):=by
 unfold World.setRow World.putObj
 congr 1
 apply Array.ext_getElem?;intro k;rw[Array.getElem?_modify,Array.getElem?_setIfInBounds];have av:=(Array.getElem?_eq_some_iff.1 h).1
 by_cases hk:b=k
 .subst hk;have e:=(Array.getElem?_eq_some_iff.1 h).2;simp[av,e]
 .simp[hk]
def F2 {o:Oper} {t:TypeId} {x y:Operand} {b off:Nat} {v:Value} {ty:TypeId} {i:TypeInfo} {arr:Array Value} (ho:o.op = .store t x y) (hx:a.eval x = .pointer (some ⟨b,off,none⟩)) (hi:P.info? t=some i) (hs:i.size=1) (hb:w.heap[b]? = some (.cells arr ty (0,0)))
  (OV:off<arr.size) (hv:(a.eval y)=v) (h1:v.oneCell'=true):∃NR:Array Value,(execOp a.eval o).run P w=.ok .skip (w.putObj b (.cells NR ty (0,0)))/\NR.size=arr.size/\∀k,NR.getD k undef=if k=off then v else arr.getD k undef:=by
 have jA:v.cells=#[v]:=by cases v<;>first|rfl|cases h1
 have dJ:=run_storeCells_at P b off ty [v] 0 arr w hb (by simp;omega) (λx hx=>by simp at hx;subst hx;exact h1)
 have he:(arr.toList.take off++[v]++arr.toList.drop (off+1)).toArray=arr.setIfInBounds off v:=by
  apply Array.toList_inj.1;rw[Array.toList_setIfInBounds,List.set_eq_take_append_cons_drop,if_pos (by simpa using OV)];simp
 refine⟨arr.setIfInBounds off v,?_,by simp,λk=>?_⟩
 .rw[<-kj w hb,<-he];unfold execOp;simp only[ho,hx,hv,Instr.storeAt,Instr.sureAddr,storeVar,sizeOf,typeInfo,Sem.run_bind,Sem.run_pure,Result.andThen_ok,run_program,hi,hs,jA,ne_eq,not_true_eq_false,if_false];have aI:(#[v]:Array Value).size=1:=rfl;simp only[aI,not_true_eq_false,if_false];rw[show storeCells ⟨b,off,none⟩ (#[v]:Array Value).toList=storeCells ⟨b,off,none⟩ [v] 0 from rfl];simp only[Nat.add_zero,List.length_singleton]at dJ;rw[dJ]
  rfl
 .simp only[Array.getD_eq_getD_getElem?,Array.getElem?_setIfInBounds]
  by_cases hk:off=k
  .subst hk;simp[OV]
  .rw[if_neg hk,if_neg (Ne.symm hk)]
end
def kU{κ:Type}(enc:κ->Value)(es:Array MapEntry)(l:List (κ×Value)):Prop:=es.size=l.length/\∀i (h:i<es.size)(h':i<l.length),(es[i]).key=enc l[i].1/\(es[i]).val=l[i].2
def fq{κ:Type}[BEq κ](k:κ):List (κ×Value)->Nat->Option (Nat×Value)
 |[],_=>none
 |(k',v)::l,i=>if(k==k')=true then some (i,v)else fq k l (i+1)
def kU.push{κ:Type}{enc:κ->Value}{es:Array MapEntry}{l:List (κ×Value)}(h:kU enc es l)(k:κ)(v:Value)(born:Nat):kU enc (es.push { key:=enc k,val:=v,born:=born }) (l++[(k,v)]):=by
 refine⟨by simp[h.1],λi hi ck=>?_⟩;rw[Array.getElem_push,List.getElem_append];have hs:=h.1
 by_cases av:i<es.size
 .rw[dif_pos av,dif_pos (by omega)];exact h.2 i av (by omega)
 .rw[dif_neg av,dif_neg (by omega)];simp
def kU.list{κ:Type}{enc:κ->Value}{es:Array MapEntry}{l:List (κ×Value)}(h:kU enc es l):∀i (h:i<es.toList.length)(h':i<l.length),(es.toList[i]).key=enc l[i].1/\(es.toList[i]).val=l[i].2:=λi hi ck=>by
 have:=h.2 i (by simpa using hi) ck;simpa using this
def qN(k:Int):∀(es:List MapEntry)(l:List (Int×Value))(i:Nat),es.length=l.length->(∀j (h:j<es.length)(h':j<l.length),(es[j]).key=.int .i64 l[j].1/\(es[j]).val=l[j].2)->Instr.findNow (.int .i64) (.int .i64 k) es i=some (fq k l i)
 |[],[],_,_,_=>rfl
 |[],_::_,_,h,_=>by simp at h
 |_::_,[],_,h,_=>by simp at h
 |e::es,(k',v)::l,i,hl,h=>by
  obtain⟨h1,h2⟩:=h 0 (by simp) (by simp);simp only[List.getElem_cons_zero]at h1 h2;unfold Instr.findNow fq;rw[h1];simp only[Instr.sameNow,if_true]
  by_cases hk:k=k'
  .subst hk;simp[h2]
  .have:(k==k')=false:=by simpa using hk
   rw[this];simp only[Bool.false_eq_true,if_false]
   exact qN k es l (i+1) (by simpa using hl) λj hj c_=>h (j+1) (Nat.succ_lt_succ hj) (Nat.succ_lt_succ c_)
section
variable{P:Program}{a:Act}{w:World}
def mB {kt:TypeId} {fs:Array Field} {k:Nat} (hu:P.underlying kt=some (.struct fs)) (hk:iY P 10000 kt=some k) (key:List Int) (hl:key.length=k):∀ (es:List MapEntry) (l:List (List Int×Value)) (i:Nat),es.length=l.length →
  (∀j (h:j<es.length)(h':j<l.length),(es[j]).key=.agg (dw l[j].1)/\(es[j]).val=l[j].2)->(∀x∈l,x.1.length=k)->(Instr.findAsking kt (.agg (dw key)) es i).run P w=.ok (fq key l i) w
 |[],[],_,_,_,_=>by simp[Instr.findAsking,fq]
 |[],_::_,_,h,_,_=>by simp at h
 |_::_,[],_,h,_,_=>by simp at h
 |e::es,(k',v)::l,i,hle,h,hx=>by
  obtain⟨h1,h2⟩:=h 0 (by simp) (by simp);simp only[List.getElem_cons_zero]at h1 h2;have hE:=ph (P:=P) (w:=w) 10000 kt k hk key k' hl (hx (k',v) (by simp));simp only[encI,hu]at hE
  have CT:(Op.equal kt (.agg (dw key)) e.key).run P w=.ok (key==k') w:=by rw[h1];exact hE
  cases hb:(key==k')with
  |true=>
   rw[hb]at CT;simp[Instr.findAsking,CT,fq,hb,h2]
  |false=>
   rw[hb]at CT
   have:=mB hu hk key hl es l (i+1) (by simpa using hle) (λj hj c_=>h (j+1) (Nat.succ_lt_succ hj) (Nat.succ_lt_succ c_)) λx IF=>hx x (List.mem_cons_of_mem _ IF)
   simp[Instr.findAsking,CT,fq,hb,this]
def DZ {o:Oper} {t kt el:TypeId} {x1 x2 x3:Operand} {b clock:Nat} {es:Array MapEntry} {k:Int} {l:List (Int×Value)} (ho:o.op = .mapUpdate t x1 x2 x3) (eI:P.underlying t=some (.map kt el)) (hu:P.underlying kt=some (.int .i64)) (h1:a.eval x1 = .map (some b)) (h2:a.eval x2 = .int .i64 k)
  (hb:w.heap[b]?=some (.map es clock)) (he:kU (.int .i64) es l) (dZ:fq k l 0=none):(execOp a.eval o).run P w=.ok .skip (w.putObj b (.map (es.push { key:=.int .i64 k,val:=a.eval x3,born:=clock }) (clock+1))):=by
 have hf:=qN k es.toList l 0 (by simpa using he.1) he.list;rw[dZ]at hf;have oz:=MapKept.run_findKey (P:=P) (w:=w) hu hf
 have oH:(Instr.checkKey false 10000 kt (.int .i64 k)).run P w=.ok () w:=by
  unfold Instr.checkKey;simp[Sem.run_bind,run_underlying hu]
 unfold execOp;simp only[ho,h1,h2,Instr.mapUpdate,Sem.run_bind,run_underlying eI,Result.andThen_ok,MapKept.run_getObj_map hb,oH,oz,MapKept.run_setObj_map _ hb]
 rfl
def DP {o:Oper} {t kt el:TypeId} {ie:TypeInfo} {z:Value} {x1 x2:Operand} {b clock:Nat} {es:Array MapEntry} {k:Int} {l:List (Int×Value)} (ho:o.op = .lookup t x1 x2 false) (eI:P.underlying t=some (.map kt el)) (hu:P.underlying kt=some (.int .i64)) (hi:P.info? el=some ie) (hz:ie.zero=some z)
  (h1:a.eval x1=.map (some b)) (h2:a.eval x2=.int .i64 k) (hb:w.heap[b]?=some (.map es clock)) (he:kU (.int .i64) es l):(execOp a.eval o).run P w=.ok (.value (((fq k l 0).map (·.2)).getD z)) w:=by
 have hf:=qN k es.toList l 0 (by simpa using he.1) he.list;have oz:=MapKept.run_findKey (P:=P) (w:=w) hu hf
 have oH:∀e,(Instr.checkKey e 10000 kt (.int .i64 k)).run P w=.ok () w:=λe=>by
  unfold Instr.checkKey;simp[Sem.run_bind,run_underlying hu]
 unfold execOp;simp only[ho,h1,h2,Instr.lookup,Sem.run_bind,run_underlying eI,Result.andThen_ok,MapKept.run_getObj_map hb,Sem.run_pure,oH,oz]
 cases fq k l 0 with
 |none=>simp[zeroValue,typeInfo,hi,hz]
 |some q=>simp
def vq {o:Oper} {t kt el:TypeId} {fs:Array Field} {n:Nat} {x1 x2 x3:Operand} {b clock:Nat} {es:Array MapEntry} {key:List Int} {l:List (List Int×Value)} (ho:o.op = .mapUpdate t x1 x2 x3) (eI:P.underlying t=some (.map kt el)) (hu:P.underlying kt=some (.struct fs)) (hk:iY P 10000 kt=some n)
  (h1:a.eval x1=.map (some b)) (h2:a.eval x2=.agg (dw key)) (hl:key.length=n) (hb:w.heap[b]?=some (.map es clock)) (he:kU (λk=>.agg (dw k)) es l) (hx:∀x∈l,x.1.length=n) (dZ:fq key l 0=none):
  (execOp a.eval o).run P w=.ok .skip (w.putObj b (.map (es.push { key:=.agg (dw key),val:=a.eval x3,born:=clock }) (clock+1))):=by
 have oQ:(match P.underlying kt with|some (.array _ _)|some (.struct _)=>true|_=>false)=true:=by rw[hu]
 have hf:=mB (w:=w) hu hk key hl es.toList l 0 (by simpa using he.1) he.list hx;rw[dZ]at hf;have oz:=(run_findKey_eq (P:=P) (w:=w) oQ (.agg (dw key)) es.toList).trans hf;have oH:=mQ (P:=P) (w:=w) false 10000 kt n hk key hl;simp only[encI,hu]at oH;unfold execOp;simp only[ho,h1,h2,Instr.mapUpdate,Sem.run_bind,run_underlying eI,Result.andThen_ok,MapKept.run_getObj_map hb,oH,oz,MapKept.run_setObj_map _ hb]
 rfl
def vo {o:Oper} {t kt el:TypeId} {fs:Array Field} {n:Nat} {ie:TypeInfo} {z:Value} {x1 x2:Operand} {b clock:Nat} {es:Array MapEntry} {key:List Int} {l:List (List Int×Value)} (ho:o.op = .lookup t x1 x2 true) (eI:P.underlying t=some (.map kt el)) (hu:P.underlying kt=some (.struct fs)) (hk:iY P 10000 kt=some n) (hi:P.info? el=some ie) (hz:ie.zero=some z)
  (h1:a.eval x1=.map (some b)) (h2:a.eval x2=.agg (dw key)) (hl:key.length=n) (hb:w.heap[b]?=some (.map es clock)) (he:kU (λk=>.agg (dw k)) es l) (hx:∀x∈l,x.1.length=n):
  (execOp a.eval o).run P w=.ok (.value (match fq key l 0 with|some (_,v)=>.tuple #[v,.bool true]|none=>.tuple #[z,.bool false])) w:=by
 have oQ:(match P.underlying kt with|some (.array _ _)|some (.struct _)=>true|_=>false)=true:=by rw[hu]
 have hf:=mB (w:=w) hu hk key hl es.toList l 0 (by simpa using he.1) he.list hx;have oz:=(run_findKey_eq (P:=P) (w:=w) oQ (.agg (dw key)) es.toList).trans hf;have oH:=mQ (P:=P) (w:=w) es.isEmpty 10000 kt n hk key hl;simp only[encI,hu]at oH;unfold execOp;simp only[ho,h1,h2,Instr.lookup,Sem.run_bind,run_underlying eI,Result.andThen_ok,MapKept.run_getObj_map hb,Sem.run_pure,oH,oz]
 cases fq key l 0 with
 |none=>simp[zeroValue,typeInfo,hi,hz]
 |some q=>simp
end
def Ca(x y:bl):Bool:=match x.dst,x.guard,x.op,y.dst,y.guard,y.op with
 |some d,none,.loadT _ a,some d',none,.loadT _ a'=>d !=d'&&!a'.tmps.contains d&&!a.tmps.contains d'
 |_,_,_,_,_,_=>false
def ny(S:af)(x y:bl):Prop:=match x.op,y.op with
 |.loadT _ a,.loadT _ a'=>∃i o i' o',ev S a=.box i o/\ev S a'=.box i' o'/\(i≠i'\/o≠o')
 |_,_=>False
section
variable{P:Program}{GI:World->Prop}{md:Region.Mode}{ops:Array Oper}{n:Nat}
def LL {x y:bl} {S:af} {H:ah} {ex ey:aD} (hs:Ca x y=true) (hA:ny S x y) (hx:dU P GI x S H ex) (hy:dU P GI y (ex.S S x.dst) (ex.H H) ey) :
  ∃Df vm,dU P GI y S H Df/\dU P GI x (Df.S S y.dst) (Df.H H) vm/\vm.S (Df.S S y.dst) x.dst=ey.S (ex.S S x.dst) y.dst/\vm.H (Df.H H)=ey.H (ex.H H)/\Df.dm=none:=by
 obtain⟨xd,xg,xo⟩:=x;obtain⟨yd,yg,yo⟩:=y;unfold Ca at hs;split at hs
 case h_2=>cases hs
 rename_i d h a d' h' a' q1 q2 q3 q4 q5 q6;simp only at q1 q2 q3 q4 q5 q6;subst q1 q2 q3 q4 q5 q6;simp only[Bool.and_eq_true,bne_iff_ne,ne_eq,Bool.not_eq_true',List.contains_eq_mem,decide_eq_false_iff_not]at hs;obtain⟨⟨hd,yt⟩,pR⟩:=hs;obtain⟨i,o,i',o',e1,e2,bQ⟩:=hA;simp only[dU,ar,jZ,ao,e1]at hx;split at hx
 case isFalse=>cases hx
 rename_i bB;split at hx
 case h_2=>cases hx
 rename_i cs lS;split at hx
 case h_2=>cases hx
 rename_i v hv;cases hx;simp only[aD.S,aH,aD.H]at hy
 have e2':ev (aq S d v) a'=.box i' o':=by
  rw[<-e2];exact bt λt ht=>aG _ _ (by rintro rfl;exact yt ht)
 simp only[dU,ar,jZ,ao,e2']at hy;split at hy
 case isFalse=>cases hy
 rename_i yX;split at hy
 case h_2=>cases hy
 rename_i cs' KN;split at hy
 case h_2=>cases hy
 rename_i v' nL;cases hy
 have Qx:ev (aq S d' v') a=.box i o:=by
  rw[<-e1];exact bt λt ht=>aG _ _ (by rintro rfl;exact pR ht)
 have Qe:aq (aq S d' v') d v=aq (aq S d v) d' v':=by
  funext t
  simp only[aq]
  by_cases h1:t=d
  .subst h1;simp[hd]
  .simp[h1]
 by_cases hi:i=i'
 .subst hi
  have ho:o≠o':=by rcases bQ with h|h;exact absurd rfl h;exact h
  rw[aJ]at KN;cases KN;rw[List.getElem?_set_ne ho]at nL;refine⟨{ v:=v',hw:=some (i,cs.set o' v'.aA) },{ v:=v,hw:=some (i,(cs.set o' v'.aA).set o v.aA) },?_,?_,Qe,?_,rfl⟩
  .simp[dU,ar,jZ,ao,e2,yX,lS,nL]
  .have:(cs.set o' v'.aA)[o]?=some v:=by rw[List.getElem?_set_ne (Ne.symm ho)];exact hv
   simp[dU,ar,jZ,ao,aD.S,aD.H,aH,Qx,bB,aJ,this]
  .simp only[aD.H];rw[List.set_comm _ _ (Ne.symm ho)]
   funext t
   simp only[aq]
   split<;>rfl
 .rw[aG _ _ (Ne.symm hi)]at KN;refine⟨{ v:=v',hw:=some (i',cs'.set o' v'.aA) },{ v:=v,hw:=some (i,cs.set o v.aA) },?_,?_,Qe,?_,rfl⟩
  .simp[dU,ar,jZ,ao,e2,yX,KN,nL]
  .simp[dU,ar,jZ,ao,aD.S,aD.H,aH,Qx,bB,aG _ _ hi,lS,hv]
  .simp only[aD.H]
   funext t
   simp only[aq]
   by_cases h1:t=i
   .subst h1;simp[hi]
   .simp[h1]
def ny.keep{S S':af}{x y:bl}(h:ny S x y)(hS:∀t∈x.op.rd++y.op.rd,S' t=S t):ny S' x y:=by
 obtain⟨xd,xg,xo⟩:=x;obtain⟨yd,yg,yo⟩:=y;unfold ny at h⊢;simp only at h hS⊢;split at h
 case h_2=>exact h.elim
 obtain⟨i,o,i',o',e1,e2,bQ⟩:=h;refine⟨i,o,i',o',?_,?_,bQ⟩
 .rw[<-e1];exact bt λt ht=>hS t (List.mem_append_left _ ht)
 .rw[<-e2];exact bt λt ht=>hS t (List.mem_append_right _ ht)
def stay(P:Program)(n:Nat)(ops:Array Oper)(listed:Array Bool)(ts:List Nat):Prop:=∀k ak,iv P n ops k=some ak->listed.getD k true=false->∀t∈ts,t∉ak.writes
def Ei {QA:af→ah→Prop} {i:Nat} {oi:bl} (hi:iv P n ops i=some oi) :
  ∀(fuel:Nat)(listed:Array Bool)(S:af)(H:ah)(e:aD),
   (∀j o aj,ops[j]?=some o->iv P n ops j=some aj->j≠i->listed.getD j true=false->(∀ed∈o.after,Region.binds md ed=true->ed.on≠i)->oi.apart aj=true\/(Ca oi aj=true/\ny S oi aj/\stay P n ops listed (oi.op.rd++aj.op.rd)))->
   i∈Region.ready md ops listed->dU P GI oi S H e->
   uY P GI n md ops QA fuel (listed.setIfInBounds i true) (e.S S oi.dst) (e.H H)->uY P GI n md ops QA (fuel+1) listed S H:=by
 intro fuel
 induction fuel with
 |zero=>
  intro listed S H e _ hr hy hK;refine⟨λh=>(by rw[h]at hr;cases hr),λj hj=>?_⟩
  by_cases eE:j=i
  .subst eE;unfold Fl;rw[hi];exact⟨e,hy,hK⟩
  .have:=ready_mono hj eE;rw[hK.1]at this;cases this
 |succ fuel ih=>
  intro listed S H e oT hr hy hK;refine⟨λh=>(by rw[h]at hr;cases hr),λj hj=>?_⟩
  by_cases eE:j=i
  .subst eE;unfold Fl;rw[hi];exact⟨e,hy,hK⟩
  .have h1:=hK.2 j (ready_mono hj eE);obtain⟨vg,o,ho,eD⟩:=mem_ready.1 hj
   have qg:iv P n ops j=some (bb P n true ops o):=by simp[iv,ho]
   have AG:∀ed∈o.after,Region.binds md ed=true->ed.on≠i:=λed OJ hb heq=>by
    have h1:=eD ed OJ hb;have h0:=(mem_ready.1 hr).1;rw[heq]at h1;rcases Nat.lt_or_ge i listed.size with h'|h'
    .simp[h']at h0 h1;rw[h0]at h1;cases h1
    .simp[Array.getElem?_eq_none h']at h1
   have j4:=oT j o _ ho qg eE vg AG;unfold Fl at h1⊢;rw[qg]at h1⊢;obtain⟨ej,Bv,L0⟩:=h1
   have RI:∀k,(listed.setIfInBounds j true).getD k true=false->listed.getD k true=false:=λk hk=>by
    by_cases yz:j=k
    .subst yz;exact vg
    .rwa [getD_set_ne true yz]at hk
   have tz:∀ TU:aD,(∀ t,TU.dm=some t→t∈(bb P n true ops o).op.wr)→∀ k o' ak,ops[k]? = some o'→iv P n ops k=some ak→k≠i→(listed.setIfInBounds j true).getD k true=false→(∀ ed∈o'.after,Region.binds md ed=true→ed.on≠i) →
     oi.apart ak=true\/(Ca oi ak=true/\ny (TU.S S (bb P n true ops o).dst) oi ak/\stay P n ops (listed.setIfInBounds j true) (oi.op.rd++ak.op.rd)):=by
    intro TU CU k o' ak hk It yp eI dZ
    rcases oT k o' ak hk It yp (RI k eI) dZ with h|⟨h1,h2,h3⟩
    .exact .inl h
    .refine .inr ⟨h1,h2.keep λt ht=>?_,λm am hm hu=>h3 m am hm (RI m hu)⟩;have:=h3 j _ qg vg t ht;exact aD.sT (λh=>this (eT (.inl h))) (λh=>this (eT (.inr (CU t h))))
   rcases j4 with j4|⟨hs,hA,_⟩
   .have rZ:=qx j4 hy Bv;refine⟨ej,rZ,?_⟩;refine ih (listed.setIfInBounds j true) _ _ e (tz ej (eW Bv).1) (ready_mono hr (Ne.symm eE)) (qv j4 rZ hy) ?_;rw[Array.setIfInBounds_comm _ _ eE];rw[<-uO j4 (eW hy).1 (eW Bv).1,<-uP j4 (eW hy).2 (eW rZ).2];exact L0
   .obtain⟨Df,vm,q1,q2,q3,q4,q5⟩:=LL hs hA hy Bv;refine⟨Df,q1,?_⟩;refine ih (listed.setIfInBounds j true) _ _ vm (tz Df (λt h=>by rw[q5]at h;cases h)) (ready_mono hr (Ne.symm eE)) q2 ?_;rw[Array.setIfInBounds_comm _ _ eE,q3,q4];exact L0
def DK(md:Region.Mode)(ops:Array Oper)(al:List bl)(p q:Nat)(listed:Array Bool)(i:Nat):Bool:=
 match al[i]? with
 |none=>false
 |some oi=>(List.range ops.size).all fun j=>j==i || listed.getD j true || match ops[j]?,al[j]? with
   |some oj,some aj=>oj.after.any (fun e=>Region.binds md e && e.on==i) || oi.apart aj ||
     (i==p&&j==q&&Ca oi aj&&(List.range ops.size).all λk=>listed.getD k true||match al[k]? with
      |some ak=>(oi.op.rd++aj.op.rd).all λt=>!ak.writes.contains t
      |none=>true)
   |_,_=>true
def zv(md:Region.Mode)(ops:Array Oper)(al:List bl)(p q:Nat):List Nat->Array Bool->Bool
 |[],listed=>(Region.ready md ops listed).isEmpty
 |k::r,listed=>(Region.ready md ops listed).contains k&&DK md ops al p q listed k&&zv md ops al p q r (listed.setIfInBounds k true)
def Ey {p q i:Nat} {oi:bl} {listed:Array Bool} {S:af} (hi:iv P n ops i=some oi) (h:DK md ops (aO P n true ops) p q listed i=true) (hS:i=p→∀ aj,iv P n ops q=some aj→ny S oi aj) (j:Nat) (o:Oper) (aj:bl)
  (hj:ops[j]?=some o) (qg:iv P n ops j=some aj) (bQ:j≠i) (eI:listed.getD j true=false) (dZ:∀e∈o.after,Region.binds md e=true->e.on≠i):oi.apart aj=true\/(Ca oi aj=true/\ny S oi aj/\stay P n ops listed (oi.op.rd++aj.op.rd)):=by
 simp only[DK,eL,hi,List.all_eq_true,List.mem_range]at h;have h1:=h j (Array.getElem?_eq_some_iff.1 hj).1;simp only[hj,qg,Bool.or_eq_true,beq_iff_eq,bQ,false_or,eI,Bool.false_eq_true,Bool.and_eq_true]at h1
 rcases h1 with(h1|h1)|⟨⟨⟨h1,h2⟩,h3⟩,h4⟩
 .obtain⟨e,he,hb⟩:=Array.any_eq_true'.1 h1;simp only[Bool.and_eq_true,beq_iff_eq]at hb;exact absurd hb.2 (dZ e he hb.1)
 .exact .inl h1
 .subst h1 h2;refine .inr ⟨h3,hS rfl aj qg,λk ak hk hu t ht hw=>?_⟩
  have nv:k<ops.size:=by
   unfold iv at hk
   cases ho:ops[k]? with
   |none=>rw[ho]at hk;cases hk
   |some x=>exact(Array.getElem?_eq_some_iff.1 ho).1
  have h5:=List.all_eq_true.1 h4 k (List.mem_range.2 nv);simp only[hu,Bool.false_or,hk]at h5;have:=List.all_eq_true.1 h5 t ht;simp[hw]at this
def lv{K K':af->ah->Prop}(hK:∀S H,K S H->K' S H):∀(l:List bl)(S:af)(H:ah),dc P GI l K S H->dc P GI l K' S H
 |[],_,_,h=>hK _ _ h
 |o::rest,S,H,h=>by
  simp only[dc]at h⊢;split
  .rename_i hw;simp only[hw]at h;exact qG (λS H=>lv hK rest S H) h
  .rename_i hw;simp only[hw]at h;exact lv hK rest _ _ h
  .rename_i hw;simp only[hw]at h
def wJ(P:Program)(GI:World->Prop)(al:List bl)(p q:Nat)(K:af->ah->Prop):List Nat->af->ah->Prop
 |[],S,H=>K S H
 |k::r,S,H=>∃o,al[k]?=some o/\(k=p->∀aj,al[q]?=some aj->ny S o aj)/\dc P GI [o] (wJ P GI al p q K r) S H
def uk {QA:af→ah→Prop} {p q:Nat}:∀ (ord:List Nat) (listed:Array Bool) (S:af) (H:ah),
  zv md ops (aO P n true ops) p q ord listed=true->wJ P GI (aO P n true ops) p q QA ord S H->uY P GI n md ops QA ord.length listed S H
 |[],_,_,_,hB,h=>⟨by simpa[zv]using hB,h⟩
 |k::r,listed,S,H,hB,h=>by
  obtain⟨o,ha,hS,h⟩:=h;rw[eL]at ha;simp only[zv,Bool.and_eq_true]at hB;obtain⟨⟨hr,hf⟩,OU⟩:=hB;obtain⟨e,hy,hK⟩:=rl h
  exact Ei ha r.length listed S H e (Ey ha hf (λhk aj qg=>hS hk aj (by rw[eL];exact qg))) (by simpa using hr) hy
   (uk r _ _ _ OU hK)
def KI(P:Program)(n:Nat)(ops:Array Oper)(p q:Nat)(ord:List Nat):Bool:=
 (aO P n true ops).all (·.ok n)&&mw .any ops (aO P n true ops)&&E9 (aO P n true ops)&&decide (ord.length=ops.size)&&zv .any ops (aO P n true ops) p q ord (Array.replicate ops.size false)
def qD{al:List bl}{p q:Nat}{K:af->ah->Prop}{r:List Nat}:∀(ks:List Nat)(l:List bl){S:af}{H:ah},ks.map (al[·]?)=l.map some->(∀k∈ks,k≠p)->dc P GI l (wJ P GI al p q K r) S H->wJ P GI al p q K (ks++r) S H
 |[],[],_,_,_,_,h=>h
 |[],_::_,_,_,h,_,_=>by simp at h
 |_::_,[],_,_,h,_,_=>by simp at h
 |k::ks,o::l,S,H,he,hp,h=>by
  simp only[List.map_cons,List.cons.injEq]at he;refine⟨o,he.1,λhk=>absurd hk (hp k (by simp)),?_⟩
  have hm:∀S H,dc P GI l (wJ P GI al p q K r) S H->wJ P GI al p q K (ks++r) S H:=λS H h=>qD ks l he.2 (λk hk=>hp k (List.mem_cons_of_mem _ hk)) h
  simp only[dc]at h⊢;split
  .rename_i hw;simp only[hw]at h;exact qG hm h
  .rename_i hw;simp only[hw]at h;exact hm _ _ h
  .rename_i hw;simp only[hw]at h
end
section
variable{P:Program}{GI:World->Prop}{n:Nat}{ops:Array Oper}{S:af}{H:ah}
def SW.Va (hG:aw GI) (hm:P.follows .mixedOrders=true) {ro:Option Nat} {old:Old} {Q:fH} {id p q:Nat} (k1 k2:List Nat) (cT:ops.all (fun o=>cW o.op)=true) (bB:KI P n ops p q (k1++p::k2)=true) (h1:∀ k∈k1,k≠p) (h2:∀ k∈k2,k≠p)
  {l:List bl} (hl:aO P n true ops=l) (l1 l2:List bl) (o aj:bl) (e1:k1.map (l[·]?)=l1.map some) (e2:k2.map (l[·]?)=l2.map some) (eo:l[p]?=some o) (ej:l[q]?=some aj)
  (h:dc P GI l1 (λS H=>ny S o aj/\dc P GI [o] (λS H=>dc P GI l2 (λS H=>Q .normal old S H) S H) S H) S H):SW P GI n ro (.region id ops true) Q old S H:=by
 subst hl;intro w0 g a w m bP ho R;simp only[KI,Bool.and_eq_true,decide_eq_true_eq]at bB;obtain⟨⟨⟨⟨q1,q2⟩,q3⟩,q4⟩,q5⟩:=bB
 have dZ:∀j o d z,iv P n ops j=some o->aU o=some (d,z)->False:=λj o d z hj hz=>by
  rw[<-eL]at hj;have:=List.all_eq_true.1 q3 o (List.mem_of_getElem? hj);unfold aU at hz;split at hz
  .rename_i h _;rw[h]at this;cases this
  .cases hz
 have R0:Rel P w0 n bu g S H a { w with drawn:=w.drawn+1 }:=R.kP ((Below.refl _ w).drew)
 have hU:UU P n ops (Array.replicate ops.size false)=bu:=by
  funext t
  simp only[UU,bu,eq_iff_iff,iff_false];rintro⟨j,o,z,k1,k2,_⟩;exact dZ j o t z k1 k2
 refine wpIn_mono (wpIn_region_any hm (pX cT jQ _ _ _ _ (yV (Q:=Q.bD old) (old:=old) hG bP q2 (λo iq=>?_) ops.size (Array.replicate ops.size false) g S H a _ (by simp) ho (by rw[hU];exact R0) (λj o d z k1 k2 k3=>(dZ j o d z k1 k2).elim) ?_))) λ_ _ _ hq=>tq hq
 .simp only[aO,List.all_map,List.all_eq_true,Function.comp]at q1;exact q1 o (by simpa using iq)
 .have:=uk (P:=P) (GI:=GI) (n:=n) (md:=.any) (ops:=ops) (QA:=Q.bD old .normal) (k1++p::k2) (Array.replicate ops.size false) S H q5 (qD k1 l1 e1 h1 (lv (λS H hh=>?_) _ _ _ h))
  .rw[q4]at this;exact this
  .obtain⟨hs,hh⟩:=hh;refine⟨o,eo,λ_ aj' Q_=>by rw[ej]at Q_;cases Q_;exact hs,lv (λS H hh=>?_) _ _ _ hh⟩;have:=qD (P:=P) (GI:=GI) (al:=aO P n true ops) (p:=p) (q:=q) (K:=Q.bD old .normal) (r:=[]) k2 l2 e2 h2 (S:=S) (H:=H) (lv (λS H h=>h) l2 _ _ hh);simpa using this
end
section
variable{P:Program}{GI:World->Prop}{n m:Nat}{Q:Exit->Act->World->Prop}
def yU(ops:Array Oper)(p:Nat):Bool:=
 decide (p<=ops.size)&&ops.all (λo=>o.guard.isNone)&&
 (List.range ops.size).all (λi=>((ops[i]?).map λo=>if i<p then o.after.all λe=>!Region.binds .any e||decide (e.on<i)else(List.range p).all λj=>o.after.any λe=>Region.binds .any e&&e.on==j).getD true)&&
 jz ops (ops.size-p) p ((List.range ops.size).map λi=>decide (i<p)).toArray
def vO{F:Fence}{ops:Array Oper}(hg:ops.all (λo=>o.guard.isNone)=true)(x:Nat):∀(k i:Nat)(l:Array Bool)(a:Act)(w:World),jz ops k i l=true->wpOpsIn F m P ops Q (List.range' i k) a w->wpAnyIn F m P .any ops Q (x+k) l a w
 |0,i,l,a,w,h,hh=>by
  have h0:Region.ready .any ops l=[]:=by simpa[jz]using h
  cases x with
  |zero=>exact⟨h0,hh⟩
  |succ x=>exact⟨λ_=>hh,λi hi=>by rw[h0]at hi;cases hi⟩
 |k+1,i,l,a,w,h,hh=>by
  simp only[jz,Bool.and_eq_true,beq_iff_eq]at h;refine⟨λhr=>(by rw[hr]at h;cases h.1),λj hj=>?_⟩;rw[h.1,List.mem_singleton]at hj;subst hj;simp only[List.range'_succ]at hh;rw[wpOpsIn_cons]at hh;exact wpOpIn_mono (λa w hq=>vO hg x k _ _ a w h.2 hq) hh
structure Gb(ops:Array Oper)(p:Nat)(la l:Array Bool):Prop where
 zw:la.size=p
 sl:l.size=ops.size
 front:∀i,i<p->l[i]?=la[i]?
 back:∀i,p<=i->i<ops.size->l[i]?=some false
section
variable{ops:Array Oper}{p:Nat}{la l:Array Bool}(hp:p<=ops.size)
 (hw:∀i o,ops[i]?=some o->if i<p then∀e∈o.after,Region.binds .any e=true->e.on<i else∀j,j<p->∃e∈o.after,Region.binds .any e=true/\e.on=j)
include hp hw
def Jx(h:Gb ops p la l){j:Nat}(hj:j<p)(pQ:la[j]?=some false):Region.ready .any ops l=Region.ready .any (ops.extract 0 p) la:=by
 unfold Region.ready
 have aI:(ops.extract 0 p).size=p:=by simp;omega
 rw[aI]
 have hr:List.range ops.size=List.range p++List.range' p (ops.size-p):=by
  rw[List.range_eq_range',List.range_eq_range'];have:=List.range'_append_1 (s:=0) (m:=p) (n:=ops.size-p);rw[Nat.zero_add]at this;rw[this]
  congr 1;omega
 rw[hr,List.filter_append]
 have hb:(List.range' p (ops.size-p)).filter (λi=>!l.getD i true&&((ops[i]?).map (·.after.all λe=>!Region.binds .any e||l.getD e.on false)).getD false)=[]:=by
  rw[List.filter_eq_nil_iff];intro i hi;have hi:=List.mem_range'_1.1 hi;have qd:p<=i:=hi.1
  have nB:i<ops.size:=by omega
  have ho:ops[i]?=some ops[i]:=Array.getElem?_eq_getElem nB;have nC:=hw i _ ho;rw[if_neg (by omega)]at nC;obtain⟨e,he,hb,hej⟩:=nC j hj;rw[ho];simp only[Option.map_some,Option.getD_some,Bool.and_eq_true,not_and,Bool.not_eq_true];intro _;rw[Array.all_eq_false];obtain⟨q,hq,rfl⟩:=Array.getElem_of_mem he;refine⟨q,hq,?_⟩;rw[hb,hej];simp only[Bool.not_true,Bool.false_or,Bool.not_eq_true];rw[Array.getD_eq_getD_getElem?,h.front j hj,pQ];rfl
 rw[hb,List.append_nil]
 refine List.filter_congr λi hi=>?_
 have hi:=List.mem_range.1 hi;have ho:ops[i]?=some (ops[i]'(by omega)):=Array.getElem?_eq_getElem (by omega);have nC:=hw i _ ho;rw[if_pos hi]at nC
 have Jw:(ops.extract 0 p)[i]?=ops[i]?:=by
  rw[Array.getElem?_extract]
  have:i<min p ops.size-0:=by omega
  rw[if_pos this,Nat.zero_add]
 rw[Jw,ho];simp only[Option.map_some,Option.getD_some,Array.getD_eq_getD_getElem?,h.front i hi]
 congr 1
 rw[Bool.eq_iff_iff,Array.all_eq_true',Array.all_eq_true']
 refine forall_congr' λe=>forall_congr' λhe=>?_
 cases v7:Region.binds .any e with
 |false=>simp
 |true=>
  have:=nC e he v7;rw[h.front e.on (by omega)]
def tV(h:Gb ops p la l){j:Nat}(hj:j<p)(pQ:la[j]?=some false):Region.ready .any (ops.extract 0 p) la≠[]:=by
 have aI:(ops.extract 0 p).size=p:=by simp;omega
 have ex:∃j,j<p/\la[j]?=some false/\∀i,i<j->la[i]?=some true:=by
  induction j using Nat.strongRecOn with
  |_ j ih=>
   by_cases hx:∃i,i<j/\la[i]?=some false
   .obtain⟨i,hi,VN⟩:=hx;exact ih i hi (by omega) VN
   .refine⟨j,hj,pQ,λi hi=>?_⟩
    have dN:i<la.size:=by rw[h.zw];omega
    rw[Array.getElem?_eq_getElem dN]
    cases hb:la[i]with
    |true=>rfl
    |false=>exact absurd ⟨i,hi,by rw[Array.getElem?_eq_getElem dN,hb]⟩ hx
 obtain⟨j,hj,pQ,zi⟩:=ex;intro pf
 have:j∈Region.ready .any (ops.extract 0 p) la:=by
  unfold Region.ready;rw[List.mem_filter];refine⟨List.mem_range.2 (by omega),?_⟩;have ho:ops[j]?=some (ops[j]'(by omega)):=Array.getElem?_eq_getElem (by omega);have nC:=hw j _ ho;rw[if_pos hj]at nC
  have Jw:(ops.extract 0 p)[j]?=ops[j]?:=by
   rw[Array.getElem?_extract]
   have:j<min p ops.size-0:=by omega
   rw[if_pos this,Nat.zero_add]
  rw[Jw,ho];simp only[Option.map_some,Option.getD_some,Bool.and_eq_true,Array.getD_eq_getD_getElem?,pQ,Bool.not_false,true_and];rw[Array.all_eq_true'];intro e he
  cases v7:Region.binds .any e with
  |false=>rfl
  |true=>
   rw[zi e.on (nC e he v7)];rfl
 rw[pf]at this;cases this
def Gd {F:Fence} (hg:ops.all (fun o=>o.guard.isNone)=true) (wC:jz ops (ops.size - p) p ((List.range ops.size).map fun i=>decide (i < p)).toArray=true):∀ (k:Nat) (la l:Array Bool) (a:Act) (w:World),Gb ops p la l →
  wpAnyIn F m P .any (ops.extract 0 p) (zx (wpOpsIn F m P ops Q (List.range' p (ops.size-p))) Q) k la a w->wpAnyIn F m P .any ops Q (k+(ops.size-p)) l a w:=by
 have aI:(ops.extract 0 p).size=p:=by simp;omega
 have final:∀(k:Nat)(la l:Array Bool)(a:Act)(w:World),Gb ops p la l->(¬∃j,j<p/\la[j]?=some false)->wpOpsIn F m P ops Q (List.range' p (ops.size-p)) a w->wpAnyIn F m P .any ops Q (k+(ops.size-p)) l a w:=by
  intro k la l a w h eD hh
  have hl:l=((List.range ops.size).map λi=>decide (i<p)).toArray:=by
   apply Array.ext_getElem?;intro i
   by_cases hi:i<ops.size
   .simp only[List.getElem?_toArray,List.getElem?_map,List.getElem?_range hi,Option.map_some]
    by_cases nY:i<p
    .rw[h.front i nY]
     have dN:i<la.size:=by rw[h.zw];omega
     rw[Array.getElem?_eq_getElem dN]
     cases hb:la[i]with
     |true=>simp[nY]
     |false=>exact absurd ⟨i,nY,by rw[Array.getElem?_eq_getElem dN,hb]⟩ eD
    .rw[h.back i (by omega) hi];simp[nY]
   .have gZ:=h.sl;rw[Array.getElem?_eq_none (by omega),Array.getElem?_eq_none (by simp;omega)]
  rw[hl];exact vO hg k _ _ _ a w wC hh
 intro k
 induction k with
 |zero=>
  intro la l a w h hh;refine final 0 la l a w h ?_ hh.2;rintro⟨j,hj,pQ⟩;exact tV hp hw h hj pQ hh.1
 |succ k ih=>
  intro la l a w h hh
  by_cases eD:∃j,j<p/\la[j]?=some false
  case neg=>
   have h0:Region.ready .any (ops.extract 0 p) la=[]:=by
    unfold Region.ready;rw[List.filter_eq_nil_iff];intro i hi;have hi:=List.mem_range.1 hi
    have dN:i<la.size:=by rw[h.zw];omega
    cases hb:la[i]with
    |true=>simp[Array.getD_eq_getD_getElem?,Array.getElem?_eq_getElem dN,hb]
    |false=>exact absurd ⟨i,by omega,by rw[Array.getElem?_eq_getElem dN,hb]⟩ eD
   exact final (k+1) la l a w h eD (hh.1 h0)
  obtain⟨j,hj,pQ⟩:=eD;have h1:=tV hp hw h hj pQ;have h2:=Jx hp hw h hj pQ;rw[show k+1+(ops.size-p)=(k+(ops.size-p))+1 by omega];refine⟨λhr=>absurd (h2▸hr) h1,λi hi=>?_⟩
  have ck:i∈Region.ready .any (ops.extract 0 p) la:=by rw[<-h2];exact hi
  have nY:i<p:=by
   have:=List.mem_range.1 (List.mem_filter.1 ck).1;omega
  have hI:Gb ops p (la.setIfInBounds i true) (l.setIfInBounds i true):=by
   refine⟨by simpa using h.zw,by simpa using h.sl,λq hq=>?_,λq hq Mc=>?_⟩
   .rw[Array.getElem?_setIfInBounds,Array.getElem?_setIfInBounds,h.front q hq];have e1:=h.zw;have e2:=h.sl
    by_cases BC:i=q
    .subst BC;rw[if_pos rfl,if_pos rfl,if_pos (by omega),if_pos (by omega)]
    .rw[if_neg BC,if_neg BC]
   .rw[Array.getElem?_setIfInBounds,if_neg (by omega)];exact h.back q hq Mc
  have hs:=hh.2 i ck;unfold wpOpIn at hs⊢
  have j0:(ops.extract 0 p)[i]?=ops[i]?:=by
   rw[Array.getElem?_extract]
   have:i<min p ops.size-0:=by omega
   rw[if_pos this,Nat.zero_add]
  rw[j0]at hs
  cases ho:ops[i]? with
  |none=>rw[ho]at hs;exact ih _ _ a w hI hs
  |some o=>
   rw[ho]at hs
   have iE:o.guard=none:=by
    have:=Array.all_eq_true'.1 hg o (Array.mem_of_getElem? ho);simpa using this
   have hw:∀y,Region.wanted o y=true:=λy=>by simp[Region.wanted,iE]
   simp only[hw,if_true]at hs⊢;exact Oper.wpIn_mono (λa w hq=>ih _ _ a w hI hq) (um hs)
end
def ze (hm:P.follows .mixedOrders=true) {F:Fence} {id p:Nat} {ops:Array Oper} {a:Act} {w:World} (h:yU ops p=true)
  (hh:wpAnyIn F m P .any (ops.extract 0 p) (zx (wpOpsIn F m P ops Q (List.range' p (ops.size-p))) Q) p (Array.replicate p false) a { w with drawn:=w.drawn+1 }):(Code.region id ops true).wpIn F m P Q a w:=by
 simp only[yU,Bool.and_eq_true,decide_eq_true_eq]at h;obtain⟨⟨⟨h1,h2⟩,h3⟩,h4⟩:=h;refine wpIn_region_any hm ?_
 have:=Gd (P:=P) (Q:=Q) (m:=m) h1 (λi o ho=>by
  have hi:=(Array.getElem?_eq_some_iff.1 ho).1;have:=List.all_eq_true.1 h3 i (List.mem_range.2 hi);rw[ho]at this;simp only[Option.map_some,Option.getD_some]at this;split
  .rename_i nY;rw[if_pos nY,Array.all_eq_true']at this;intro e he hb;have:=this e he;simpa[hb]using this
  .rename_i nY;rw[if_neg nY]at this;intro j hj;have:=List.all_eq_true.1 this j (List.mem_range.2 hj);obtain⟨q,hq,Vk⟩:=Array.any_eq_true.1 this;simp only[Bool.and_eq_true,beq_iff_eq]at Vk
   exact⟨_,Array.getElem_mem hq,Vk.1,Vk.2⟩) (F:=F) h2 h4 p (Array.replicate p false) (Array.replicate ops.size false) a _ ⟨by simp,by simp,λi hi=>by
    rw[Array.getElem?_replicate,Array.getElem?_replicate,if_pos (by omega),if_pos hi],λi hi ck=>by rw[Array.getElem?_replicate,if_pos ck]⟩ hh
 rwa [show p+(ops.size-p)=ops.size by omega]at this
end
section
variable{P:Program}{Q:Exit->Act->World->Prop}{ro:Option Nat}{m n:Nat}{ops:Array Oper}
structure AI(ops:Array Oper)(n:Nat)(a0:Act)(val:Nat->Value)(l:Array Bool)(a:Act):Prop where
 size:a.tmps.size=n
 defers:a.defers=a0.defers
 old:∀t:Nat,(∀(i:Nat)(o:Oper),ops[i]?=some o->o.dst≠some t)->a.tmps.getD t undef=a0.tmps.getD t undef
 Fk:∀(i:Nat)(o:Oper)(t:Nat),ops[i]?=some o->o.dst=some t->l.getD i false=true->a.tmps.getD t undef=val t
def Dn(ops:Array Oper)(n:Nat):Bool:=
 ops.all (λo=>o.guard.isNone&&cW o.op&&(match o.dst with|some t=>decide (t<n)|none=>false))&&
 (List.range ops.size).all (λi=>((ops[i]?).map λo=>(o.after.all λe=>!Region.binds .any e||decide (e.on<i))&&(List.range ops.size).all λj=>i==j||((ops[j]?).map λo'=>o'.dst !=o.dst).getD true).getD true)
def sV{l:Array Bool}(jN:∀(i:Nat)(o:Oper),ops[i]?=some o->∀e∈o.after,Region.binds .any e=true->e.on<i)(hl:l.size=ops.size):Region.ready .any ops l=[]->∀i,i<ops.size->l.getD i false=true:=by
 intro h i
 induction i using Nat.strongRecOn with
 |_ i ih=>
 intro hi
 cases Ni:l.getD i false with
 |true=>rfl
 |false=>
  exfalso
  have ck:i<l.size:=by omega
  have h1:l.getD i true=false:=by
   simp only[Array.getD_eq_getD_getElem?,Array.getElem?_eq_getElem ck,Option.getD_some]at Ni⊢;exact Ni
  have:i∈Region.ready .any ops l:=mem_ready.2 ⟨h1,ops[i],Array.getElem?_eq_getElem hi,λe he hb=>ih e.on (jN i _ (Array.getElem?_eq_getElem hi) e he hb) (by have:=jN i _ (Array.getElem?_eq_getElem hi) e he hb;omega)⟩;rw[h]at this;cases this
def Bn {a0:Act} {val:Nat→Value} (eZ:Dn ops n=true) (W:World→Prop)
  (f_:∀(i:Nat)(o:Oper)(l:Array Bool)(a:Act)(w:World),ops[i]?=some o->AI ops n a0 val l a->W w->(∀e∈o.after,Region.binds .any e=true->l.getD e.on false=true)->
   ∃t,o.dst=some t/\((∃w',(execOp a.eval o).run P w=.ok (.value (val t)) w'/\W w')\/
    ∃f args,(execOp a.eval o).run P w=.ok (.enter f args) w/\Calls P f args w λe w'=>e=.returned (val t)/\W w'))
  (hQ:∀(a:Act)(w:World),AI ops n a0 val (Array.replicate ops.size true) a->W w->Q .normal a w):
  ∀(fuel:Nat)(l:Array Bool)(a:Act)(w:World),l.size=ops.size->(l.toList.filter (! ·)).length<=fuel->AI ops n a0 val l a->W w->wpAnyIn (FR ro) m P .any ops Q fuel l a w:=by
 simp only[Dn,Bool.and_eq_true]at eZ;obtain⟨hg,hs⟩:=eZ
 have jN:∀(i:Nat)(o:Oper),ops[i]?=some o->∀e∈o.after,Region.binds .any e=true->e.on<i:=by
  intro i o ho e he hb;have:=List.all_eq_true.1 hs i (List.mem_range.2 (Array.getElem?_eq_some_iff.1 ho).1);simp only[ho,Option.map_some,Option.getD_some,Bool.and_eq_true]at this;have:=Array.all_eq_true'.1 this.1 e he;simpa[hb]using this
 have Gw:∀(i j:Nat)(o o':Oper),ops[i]?=some o->ops[j]?=some o'->i≠j->o'.dst≠o.dst:=by
  intro i j o o' ho iJ nc;have:=List.all_eq_true.1 hs i (List.mem_range.2 (Array.getElem?_eq_some_iff.1 ho).1);simp only[ho,Option.map_some,Option.getD_some,Bool.and_eq_true]at this;have:=List.all_eq_true.1 this.2 j (List.mem_range.2 (Array.getElem?_eq_some_iff.1 iJ).1);simpa[iJ,nc]using this
 have fin:∀(l:Array Bool)(a:Act)(w:World),l.size=ops.size->AI ops n a0 val l a->W w->Region.ready .any ops l=[]->Q .normal a w:=by
  intro l a w hl hI hW hr;have:=sV jN hl hr;refine hQ a w ⟨hI.size,hI.defers,hI.old,λi o t ho hd _=>hI.Fk i o t ho hd (this i (Array.getElem?_eq_some_iff.1 ho).1)⟩ hW
 intro fuel
 induction fuel with
 |zero=>
  intro l a w hl hc hI hW
  have hr:Region.ready .any ops l=[]:=by
   rw[List.eq_nil_iff_forall_not_mem];intro i hi;obtain⟨h1,o,ho,_⟩:=mem_ready.1 hi
   have ck:i<l.size:=by rw[hl];exact(Array.getElem?_eq_some_iff.1 ho).1
   have h2:l[i]=false:=by simpa[Array.getD_eq_getD_getElem?,ck]using h1
   have:l[i]∈l.toList.filter (! ·):=List.mem_filter.2 ⟨by simp,by simp[h2]⟩;have:=List.length_pos_of_mem this;omega
  exact⟨hr,fin l a w hl hI hW hr⟩
 |succ fuel ih=>
  intro l a w hl hc hI hW;refine⟨λhr=>fin l a w hl hI hW hr,λi hi=>?_⟩;obtain⟨h1,o,ho,eD⟩:=mem_ready.1 hi;have vW:=(Array.getElem?_eq_some_iff.1 ho).1
  have ck:i<l.size:=by omega
  have h2:l[i]=false:=by simpa[Array.getD_eq_getD_getElem?,ck]using h1
  have iE:=Array.all_eq_true'.1 hg o (Array.mem_of_getElem? ho);simp only[Bool.and_eq_true]at iE;obtain⟨⟨iE,bn⟩,oa⟩:=iE;obtain⟨t,hd,nF⟩:=f_ i o l a w ho hI hW eD
  have BL:t<n:=by simpa[hd]using oa
  have l4:((l.setIfInBounds i true).toList.filter (! ·)).length<=fuel:=by
   have:(l.setIfInBounds i true).toList=l.toList.set i true:=by simp
   rw[this]
   have hlen:∀(xs:List Bool)(k:Nat)(h:k<xs.length),xs[k]=false->((xs.set k true).filter (! ·)).length+1=(xs.filter (! ·)).length:=by
    intro xs
    induction xs with
    |nil=>intro k h;simp at h
    |cons x xs ih=>
     intro k h hk
     cases k with
     |zero=>
      simp only[List.getElem_cons_zero]at hk;subst hk;simp
     |succ k=>
      simp only[List.getElem_cons_succ]at hk;have:=ih k (by simpa using h) hk;simp only[List.set_cons_succ,List.filter_cons]
      split<;>(try simp only[List.length_cons])<;>omega
   have:=hlen l.toList i (by simpa using ck) (by simpa using h2);omega
  have next:∀w',W w'->wpAnyIn (FR ro) m P .any ops Q fuel (l.setIfInBounds i true) (a.put o.dst (val t)) w':=by
   intro w' qK;refine ih _ _ w' (by simpa using hl) l4 ⟨by simp[Act.put,hd,hI.size],by rw[hd];exact hI.defers,λs hs=>?_,λj o' s iJ oU Bf=>?_⟩ qK
   .have bQ:s≠t:=by rintro rfl;exact hs i o ho hd
    rw[hd,<-hI.old s hs];simp[Act.put,Array.getElem?_setIfInBounds_ne (Ne.symm bQ)]
   .rw[hd]
    by_cases eE:j=i
    .subst eE;rw[ho]at iJ;cases iJ;rw[hd]at oU;cases oU;simp[Act.put,hI.size,BL]
    .have bQ:s≠t:=by
      rintro rfl;exact Gw i j o o' ho iJ (Ne.symm eE) (oU.trans hd.symm)
     have vS:l.getD j false=true:=by
      have:=Bf;simp only[Array.getD_eq_getD_getElem?,Array.getElem?_setIfInBounds_ne (Ne.symm eE)]at this⊢;exact this
     rw[<-hI.Fk j o' s iJ oU vS];simp[Act.put,Array.getElem?_setIfInBounds_ne (Ne.symm bQ)]
  have hw:Region.wanted o (yielded ops a.tmps)=true:=by
   have:o.guard=none:=by simpa using iE
   simp[Region.wanted,this]
  simp only[wpOpIn,ho,hw,if_true];refine⟨λ_ _=>trivial,?_⟩;rw[Oper.semAt_eq _ _ _ (λc hc=>by rw[hc]at bn;cases bn)]
  rcases nF with⟨w',hr,qK⟩|⟨f,args,hr,hC⟩
  .rw[hr];exact next w' qK
  .rw[hr];refine⟨λh=>by simp[FR,Fence.wide]at h,eA.2 (hC.mono λe fD hh=>?_)⟩;obtain⟨rfl,qK⟩:=hh;exact next fD qK
def Bh (hm:P.follows .mixedOrders=true) {id p:Nat} {a0:Act} {w0:World} {val:Nat→Value} (rm:yU ops p=true) (jP:(ops.extract 0 p).size=p) (eZ:Dn (ops.extract 0 p) n=true) (aI:a0.tmps.size=n) (W:World→Prop) (Nq:W { w0 with drawn:=w0.drawn+1 })
  (f_:∀(i:Nat)(o:Oper)(l:Array Bool)(a:Act)(w:World),(ops.extract 0 p)[i]?=some o->AI (ops.extract 0 p) n a0 val l a->W w->(∀e∈o.after,Region.binds .any e=true->l.getD e.on false=true)->
   ∃t,o.dst=some t/\((∃w',(execOp a.eval o).run P w=.ok (.value (val t)) w'/\W w')\/
    ∃f args,(execOp a.eval o).run P w=.ok (.enter f args) w/\Calls P f args w λe w'=>e=.returned (val t)/\W w'))
  (hQ:∀(a:Act)(w:World),AI (ops.extract 0 p) n a0 val (Array.replicate p true) a->W w->wpOpsIn (FR ro) m P ops Q (List.range' p (ops.size-p)) a w):(Code.region id ops true).wpIn (FR ro) m P Q a0 w0:=by
 refine ze hm rm ?_;refine Bn eZ W f_ (λa w hI hW=>?_) p (Array.replicate p false) a0 _ (by simp[jP]) ?_ ⟨aI,rfl,λ_ _=>rfl,λi o t ho hd h=>?_⟩ Nq
 .rw[jP]at hI;exact hQ a w hI hW
 .refine Nat.le_trans (List.length_filter_le _ _) (by simp)
 .simp[Array.getElem?_replicate]at h
  split at h<;>cases h
section
variable{a:Act}{w:World}
def Af {i:Nat} {rest:List Nat} {o:Oper} (ho:ops[i]? = some o) (hw:Region.wanted o (yielded ops a.tmps)=true) (cT:cW o.op=true) {v:Value} {w':World}
  (hr:(execOp a.eval o).run P w=.ok (.value v) w') (hk:wpOpsIn (FR ro) m P ops Q rest (a.put o.dst v) w'):wpOpsIn (FR ro) m P ops Q (i::rest) a w:=by
 simp only[wpOpsIn,ho];rw[if_pos hw];refine⟨λ_ _=>trivial,?_⟩;rw[Oper.semAt_eq _ _ _ (λc hc=>by rw[hc]at cT;cases cT),hr];exact hk
def xC {i:Nat} {rest:List Nat} {o:Oper} (ho:ops[i]? = some o) (hw:Region.wanted o (yielded ops a.tmps)=true) (cT:cW o.op=true) {f:Nat} {args:Array Value} {w':World}
  (hr:(execOp a.eval o).run P w=.ok (.enter f args) w') {R:Ending->World->Prop} (hc:Calls P f args w' R) (hk:∀e fD,R e fD->∃v,e=.returned v/\wpOpsIn (FR ro) m P ops Q rest (a.put o.dst v) fD):wpOpsIn (FR ro) m P ops Q (i::rest) a w:=by
 simp only[wpOpsIn,ho];rw[if_pos hw];refine⟨λ_ _=>trivial,?_⟩;rw[Oper.semAt_eq _ _ _ (λc hc=>by rw[hc]at cT;cases cT),hr];refine⟨λh=>by simp[FR,Fence.wide]at h,eA.2 (hc.mono λe fD hh=>?_)⟩;obtain⟨v,rfl,h⟩:=hk e fD hh;exact h
end
end
section
variable{P:Program}{GI:World->Prop}{w0:World}{n:Nat}{g:Gh}{S:af}{H:ah}{a:Act}{w:World}
def Rel.D' (R:Rel P w0 n bu g S H a w) (d:Nat) (hd:d < n) (bI:¬ g.old.bx d) (cs:List AV) (vs:Array Value) (ty:TypeId) (hr:ni g.Pr w cs vs)
  (ho:∀(g':Gh) j (h:j<cs.length)(h':j<vs.size),(cs[j]).kL/\dD P w g' (.cell d j) cs[j] vs[j]):
  ∃g',g'.base=g.base/\g'.old=g.old/\g'.hi=g.hi/\g'.owner=g.owner/\g'.al d=some w.heap.size/\Rel P w0 n bu g' (aq (λt=>aT d (S t)) d (.box d 0)) (aq H d (some cs)) (a.put (some d) (.pointer (some ⟨w.heap.size,0,none⟩))) (w.alloc (.cells vs ty)):=by
 have R1:=R.suspend d bI (.box d 0) cs;have R2:=R1.EW d (.inr rfl) hd cs vs ty (aJ _ _ _) (aJ _ _ _) hr.1 hr.2.1 (λj h h'=>ho _ j h h') hr.2.2;rw[B7]at R2;exact⟨{ g with al:=aq (aq g.al d none) d (some w.heap.size) },rfl,rfl,rfl,rfl,aJ _ _ _,R2⟩
def mS{o:Oper}{t:TypeId}{it:TypeInfo}{z:Value}(ho:o.op=.alloc t)(hi:P.info? t=some it)(hz:it.zero=some z):(execOp a.eval o).run P w=.ok (.value (.pointer (some ⟨w.heap.size,0,none⟩))) (w.alloc (.cells z.cells t)):=by
 unfold execOp;simp[ho,Instr.alloc,zeroValue,typeInfo,hi,hz,newVar,newRow]
def gC {o:Oper} {t:TypeId} {x y:Operand} {b:Nat} {c:Value} {vs:Array Value} {ty:TypeId} {i:TypeInfo} (ho:o.op = .store t x y) (hx:a.eval x = .pointer (some ⟨b,0,none⟩)) (hi:P.info? t=some i) (hb:w.heap[b]? = some (.cells vs ty (0,0))) (hy:a.eval y=c)
  (aI:c.cells.size=i.size) (uo:vs.size=i.size) (lC:∀u∈c.cells.toList,u.oneCell'=true):(execOp a.eval o).run P w=.ok .skip (w.setRow b c.cells):=by
 have dJ:=run_storeCells_at P b 0 ty c.cells.toList 0 vs w hb (by simp;omega) lC
 have e:(vs.toList.take 0++c.cells.toList++vs.toList.drop (0+c.cells.toList.length)).toArray=c.cells:=by
  simp[List.drop_eq_nil_of_le,aI,uo]
 simp only[Nat.add_zero]at dJ;rw[e]at dJ;unfold execOp;simp only[ho,hx,hy,Instr.storeAt,Instr.sureAddr,storeVar,sizeOf,typeInfo,Sem.run_bind,Sem.run_pure,Result.andThen_ok,run_program,hi,aI,ne_eq,not_true_eq_false,if_false];rw[show storeCells ⟨b,0,none⟩ c.cells.toList=storeCells ⟨b,0,none⟩ c.cells.toList 0 from rfl,dJ]
 rfl
def Rel.forget(R:Rel P w0 n bu g S H a w)(d:Nat)(hd:d<n)(c:Value):Rel P w0 n bu g (aq S d .bh) H (a.put (some d) c) w:=R.put d .bh c hd (.bh _) trivial
end
end Go.AL
namespace Go.Proofs.Tryz
open Go.AL
noncomputable def codeOf(f:Go.Func):Go.Code:=match f.body with|some c=>c|none=>f.body.get!
abbrev Ev(n:Nat)(f:Go.Func):={c:ae//de prog n (codeOf f)=c}
def _root_.Go.Code.cA:Go.Code->Go.Code
 |.seq x _=>x
 |.cond _ x _=>x
 |c=>c
def _root_.Go.Code.cB:Go.Code->Go.Code
 |.seq _ y=>y
 |.cond _ _ y=>y
 |.block _ c=>c
 |.loop c=>c
 |c=>c
noncomputable def _root_.Go.Func.cO(f:Go.Func):Go.Code:=match f.body with|some c=>c|none=>f.body.get!
@[simp] noncomputable def aP(n:Nat)(c:Go.Code){a:ae}(_h:de prog n c=a:=by conv=>lhs;cbv):ae:=a
end Go.Proofs.Tryz
namespace Go.AL
def bf{n:Int}(h: -9223372036854775808<=n/\n<9223372036854775808):IntKind.i64.wrap n=n:=by
 have key:∀m:Int,m=n % 18446744073709551616->(if decide (m>=9223372036854775808)=true then m-18446744073709551616 else m)=n:=by
  intro m hm;split
  .rename_i hd;have:=of_decide_eq_true hd;omega
  .rename_i hd
   have oU:¬m>=9223372036854775808:=λhh=>hd (decide_eq_true hh)
   omega
 exact key _ rfl
def ints(l:List Int):List AV:=l.map (.int .i64)
def bz(l:List Int):(ints l).length=l.length:=by simp[ints]
def bW(l:List Int)(i:Nat)(h:i<(ints l).length):(ints l)[i]=.int .i64 (l[i]'(by simpa[ints]using h)):=by simp[ints]
def vI(l:List Int):AV:=.slice .view (ints l)
def int(n:Int):AV:=.int .i64 n
def aL.of_eq{Pr dB:Nat->Nat->Prop}{w w':World}(h:∀b k,Pr b k->dB b k/\w'.heap[b]?=w.heap[b]?):aL Pr dB w w':={
 cell b k hp u hu:=⟨(h b k hp).1,by rw[World.cell?_of_block (w:=w) (h b k hp).2];exact hu⟩
 map b hp es c hm:=⟨(h b 0 hp).1,by rw[(h b 0 hp).2];exact hm⟩ }
def RV.fB{Pr:Nat->Nat->Prop}{al:Nat->Option Nat}{w:World}{b:Bool}{c:Value}(h:RV Pr al w (.bool b) c):c=.bool b:=by
 cases h;rename_i h;cases h;rfl
def RV.int_eq{Pr:Nat->Nat->Prop}{al:Nat->Option Nat}{w:World}{k:IntKind}{n:Int}{c:Value}(h:RV Pr al w (.int k n) c):c=.int k n:=by
 cases h;rename_i h;cases h;rfl
def RV.gp{Pr:Nat->Nat->Prop}{al:Nat->Option Nat}{w:World}{v c:Value}(h:RV Pr al w (.val v) c):c=v:=by
 cases h;rename_i h;cases h;rfl
def fc{P:Program}{ro:Option Nat}{m:Nat}{c:Code}{Q:Exit->Act->World->Prop}{a:Act}{w:World}(A:Act->Prop)(ha:A a)(h:∀a,A a->c.wpIn (FR ro) m P Q a w):c.wpIn (FR ro) m P Q a w:=h a ha
def pk {P:Program} {a:Act} {w:World} {ro:Option Nat} {m:Nat} {Q:Exit→Act→World→Prop} {ops:Array Oper} {i:Nat} {rest:List Nat} {o:Oper} (ho:ops[i]? = some o) (hg:o.guard=none) (cT:cW o.op=true) {f:Nat} {args:Array Value} {w':World}
    (hr:(execOp a.eval o).run P w=.ok (.enter f args) w') {R:Ending->World->Prop} (hc:Calls P f args w' R)
    (hk:∀e fD,R e fD->match e with|.returned v=>wpOpsIn (FR ro) m P ops Q rest (a.put o.dst v) fD|.panicked ch=>Q (.panic ch) a fD|.outgrown=>False):wpOpsIn (FR ro) m P ops Q (i::rest) a w:=by
  simp only[wpOpsIn,ho]
  have:Region.wanted o (yielded ops a.tmps)=true:=by simp[Region.wanted,hg]
  rw[if_pos this];refine⟨λ_ _=>trivial,?_⟩;rw[Oper.semAt_eq _ _ _ (λc hc=>by rw[hc]at cT;cases cT),hr];refine⟨λh=>by simp[FR,Fence.wide]at h,eA.2 (hc.mono λe fD hh=>?_)⟩;have:=hk e fD hh
  cases e with
  |returned v=>exact this
  |panicked ch=>exact this
  |outgrown=>exact this.elim
def so {P:Program} {a:Act} {w:World} {m:Nat} {Q:Exit→Act→World→Prop} {ops:Array Oper} {i:Nat} {rest:List Nat} {o:Oper} (ho:ops[i]? = some o) (hg:o.guard=none) {d:Deferred} {w':World}
    (hr:(execOp a.eval o).run P w=.ok (.defer d) w') (hk:wpOpsIn (FR none) m P ops Q rest ({ a with defers:=d::a.defers }.put o.dst undef) w'):wpOpsIn (FR none) m P ops Q (i::rest) a w:=by
  simp only[wpOpsIn,ho]
  have:Region.wanted o (yielded ops a.tmps)=true:=by simp[Region.wanted,hg]
  rw[if_pos this];refine⟨λ_ _=>trivial,?_⟩;show Oper.uponIn _ _ _ _ _ _ _ ((Oper.semAt none a.eval o).run P w);rw[Oper.semAt_none,hr];exact hk
section
variable{P:Program}{GI:World->Prop}{n:Nat}{ro:Option Nat}{old:Old}{S:af}{H:ah}{Q:fH}
def SW.cut (hG:aw GI) (hm:P.follows .mixedOrders=true) {x y:Code} (hc:jV x=true) {ac:ae} (jN:de P n x=ac) (bI:∀ d∈ac.names,¬ old.bx d) (K:af→ah→Prop) (h:bD P GI ac (aB K) S H)
  (hy:∀S' H',K S' H'->SW P GI n ro y Q old S' H'):SW P GI n ro (.seq x y) Q old S H:=by
 subst jN;intro w0 g a w m bP ho R;refine wpIn_seq (wpIn_mono (ia hG bP hm x (aB K) g S H a w hc bI ho R h) ?_);intro e a' w' hq
 cases e with
 |normal=>
  obtain⟨g',S',H',h1,h2,h3⟩:=hq;exact hy S' H' h3 w0 g' a' w' m bP h1 h2
 |exit id=>obtain⟨_,_,_,_,_,h⟩:=hq;exact h.elim
 |ret=>obtain⟨_,_,_,_,_,h⟩:=hq;exact h.elim
 |panic ch=>obtain⟨_,_,_,_,_,_,_,_,_,_,h⟩:=hq;exact h.elim
 |goto l=>exact hq.elim
 |outgrown=>exact hq.elim
end
section
variable{P:Program}{GI:World->Prop}{n:Nat}{ro:Option Nat}{old:Old}{S:af}{H:ah}{Q:fH}{b:Frame}{a:Act}{k:List Item}{cs:List Frame}{w:World}
def D8{c:Code}:step P (lone (b.atR a (.code (.scope c)::k)) cs w)=.next (lone (b.atR a (.code c::.inScope c::k)) cs w):=
 step_lone_go (by simp[stepG,stepG.exec,Frame.atR])
def AS{c:Code}:step P (lone (b.atR a (.inScope c::k)) cs w)=.next (lone (b.atR a k) cs w):=
 step_lone_go (by simp[stepG,stepG.exec,Frame.atR])
def SW.scope{c:Code}(h:SW P GI n ro c Q old S H):SW P GI n ro (.scope c) Q old S H:=by
 intro w0 g a w m hG ho R b k cs y4 hF hr;obtain⟨e,jX,mg,hq,iV⟩:=h w0 g a w m hG ho R b (.inScope c::k) cs y4 hF hr
 have s1:StepsIn (Machine.fenced P (FR ro)) P (lone (b.atR a (.code (.scope c)::k)) cs w) (lone (b.atR a (.code c::.inScope c::k)) cs w):=
  .one (fenced_calm (F:=FR ro) (fr:=b.atR a (.code (.scope c)::k)) trivial hr rfl) D8
 have ex:∀id,exitTo id (.inScope c::k)=exitTo id k:=λid=>by simp[exitTo]
 refine⟨e,jX,mg,hq,.of_steps s1 ?_⟩
 cases e with
 |normal=>exact StepsIn.trans iV (.one (fenced_calm (F:=FR ro) (fr:=b.atR jX (.inScope c::k)) trivial hr rfl) AS)
 |exit id=>exact⟨λk' hk=>iV.1 k' (by rw[ex];exact hk),λhh hk=>iV.2 hh (by rw[ex];exact hk)⟩
 |goto l=>exact hq.elim
 |ret=>exact iV
 |panic ch=>exact iV
 |outgrown=>exact hq.elim
def SW.label{l:Nat}(h:Q .normal old S H):SW P GI n ro (.label l) Q old S H:=
 λ_ g _ _ _ _ ho R=>wpIn_label ⟨g,S,H,R,by rw[ho];exact h⟩
end
section
def fV {P:Program} {a:Act} {o:Oper} {cl:Call} {k:Nat} {args:Array Value} (w:World) (ho:o.op = .call cl) (hc:cl.callee = .value (.func k)) (ha:cl.args.map a.eval=args) (hk:dz P k=true) :
  (execOp a.eval o).run P w=.ok (.enter k args) w:=by
 unfold execOp;simp only[ho,eu hc,show a.eval (.func k)=.func (.func k) #[] #[]from rfl,Deferred.ofValue,Sem.run_bind,Sem.run_pure,Result.andThen_ok,invoke,Array.empty_append,Array.append_empty,ha];rw[fC hk]
def ke(a:Act)(d t:Nat)(c:Value)(hd:d<a.tmps.size):(a.put (some d) c).eval (.tmp t)=if t=d then c else a.eval (.tmp t):=qc a d t c hd
def K8(a:Act)(d:Option Nat)(c:Value):(a.put d c).tmps.size=a.tmps.size:=by cases d<;>simp[Act.put]
end
end Go.AL
namespace Go.AL
open Go.RowKit
section
variable{P:Program}{GI:World->Prop}{n:Nat}{a:Act}{w w0:World}{m:Nat}{Q:Exit->Act->World->Prop}{g:Gh}{S:af}{H:ah}{ro:Option Nat}
def dT (R:Rel P w0 n bu g S H a w) (hG:aw GI) (bP:GI w0) (hm:P.follows .mixedOrders=true) {id:Nat} {ops:Array Oper} {draw:Bool} (hc:jV (.region id ops draw)=true) {ac:ae} (jN:de P n (.region id ops draw)=ac) {W:Nat→Bool} (hW:fP ops W=true)
  (bI:∀d,¬g.old.bx d) {K:af->ah->Prop} (h:bD P GI ac (aB K) S H)
  (hk:∀g' S' H' a' w',g'.old=g.old->Rel P w0 n bu g' S' H' a' w'->K S' H'->eF W a a'->Q .normal a' w'):(Code.region id ops draw).wpIn (FR ro) m P Q a w:=by
 subst jN
 have fin:∀e a' w',ux W a (QQ P w0 n g.old (aB K)) e a' w'->Q e a' w':=by
  intro e a' w' hq
  cases e with
  |normal=>
   obtain⟨⟨g',S',H',h1,h2,h3⟩,h4⟩:=hq;exact hk g' S' H' a' w' h1 h2 h3 h4
  |exit id=>obtain⟨_,_,_,_,_,h⟩:=hq;exact h.elim
  |ret=>obtain⟨_,_,_,_,_,h⟩:=hq;exact h.elim
  |panic ch=>obtain⟨_,_,_,_,_,_,_,_,_,_,h⟩:=hq;exact h.elim
  |goto l=>exact hq.elim
  |outgrown=>exact hq.elim
 simp only[de]at h
 cases draw with
 |true=>
  simp only[if_true]at h;split at h
  case isFalse=>exact h.elim
  rename_i bB;exact wpIn_region_any hm (eX fin _ _ _ _ (fR hW _ _ _ _ (jG hG bP hm hc bB (λ_ _ _ _=>bI _) rfl R h)))
 |false=>
  simp only[Bool.false_eq_true,if_false]at h;split at h
  case isFalse=>exact h.elim
  rename_i bB;exact wpIn_region (eY fin _ _ _ (fw hW _ _ _ (py hG bP hc bB (λ_ _ _ _=>bI _) rfl R h)))
def ju{o:Oper}{t:TypeId}{z:Value}(ho:o.op=.alloc t)(hz:(P.info? t).bind (·.zero)=some z):(execOp a.eval o).run P w=.ok (.value (.pointer (some ⟨w.heap.size,0,none⟩))) (w.alloc (.cells z.cells t)):=by
 obtain⟨it,h1,h2⟩:=Option.bind_eq_some_iff.1 hz;unfold execOp;simp[ho,Instr.alloc,zeroValue,typeInfo,h1,h2,newVar,newRow]
def oB{o:Oper}{fn:Fn}{c:Array Operand}(ho:o.op=.makeFunc fn #[] c):(execOp a.eval o).run P w=.ok (.value (.func fn #[] (c.map a.eval))) w:=by
 simp[execOp,ho,Instr.makeFunc]
end
section
variable{P:Program}{GI:World->Prop}{n:Nat}{ro:Option Nat}{old:Old}{S:af}{H:ah}{Q:fH}{a:Act}{w:World}
def run_makeMap{o:Oper}{t:TypeId}(ho:o.op=.makeMap t none):(execOp a.eval o).run P w=.ok (.value (.map (some w.heap.size))) (w.alloc (.map #[] 0)):=by
 unfold execOp;simp[ho,Instr.makeMap,run_newObj_alloc]
def Gy {o:Oper} {t kt el:TypeId} {fs:Array Field} {k:Nat} {x1 x2 x3:Operand} {b clock:Nat} {es:Array MapEntry} {key:List Int} {val:Value} {ks vs:List AV} {Pr:Nat→Nat→Prop} (ho:o.op = .mapUpdate t x1 x2 x3)
  (eI:P.underlying t=some (.map kt el)) (hu:P.underlying kt=some (.struct fs)) (hk:iY P 10000 kt=some k) (h1:a.eval x1=.map (some b)) (h2:a.eval x2=.agg (dw key)) (h3:a.eval x3=val)
  (hb:w.heap[b]?=some (.map es clock)) (hl:key.length=k) (nv:ks.length=es.size) (Tm:vs.length=es.size) (UY:∀i (h:i<ks.length)(h':i<es.size),RD Pr w ks[i] (es[i]).key) (uo:∀i (h:i<vs.length)(h':i<es.size),RD Pr w vs[i] (es[i]).val)
  (dZ:mm key ks vs=some none):(execOp a.eval o).run P w=.ok .skip (w.putObj b (.map (es.push { key:=.agg (dw key),val:=val,born:=clock }) (clock+1))):=by
 have oQ:(match P.underlying kt with|some (.array _ _)|some (.struct _)=>true|_=>false)=true:=by rw[hu]
 have oH:=mQ (P:=P) (w:=w) false 10000 kt k hk key hl;simp only[encI,hu]at oH;obtain⟨q,q1,q2⟩:=j_ (w:=w) (Pr:=Pr) hu hk key hl ks vs es.toList 0 none (by simpa using nv) (by simpa using Tm) (λj h h'=>by simpa using UY j h (by simpa using h')) (λj h h'=>by simpa using uo j h (by simpa using h')) dZ
 have hq:q=none:=by cases q with|none=>rfl|some p=>exact q2.elim
 subst hq;have oz:=(run_findKey_eq (P:=P) (w:=w) oQ (.agg (dw key)) es.toList).trans q1;unfold execOp;simp only[ho,h1,h2,h3,Instr.mapUpdate,Sem.run_bind,run_underlying eI,Result.andThen_ok,MapKept.run_getObj_map hb,oH,oz,MapKept.run_setObj_map _ hb]
 rfl
end
section
variable{P:Program}{GI:World->Prop}{n m:Nat}{a:Act}{w w0:World}{Q:Exit->Act->World->Prop}{g:Gh}{S:af}{H:ah}{ro:Option Nat}
def lB (R:Rel P w0 n bu g S H a w) (hG:aw GI) (bP:GI w0) {ops:Array Oper} {p:Nat} {l2:List Nat} (hr:List.range ops.size=List.range p++l2) (cT:ops.all (fun o=>cW o.op)=true) (bB:((aO P n false ops).take p).all (·.ok n)=true)
  {l:List bl} (hl:(aO P n false ops).take p=l) (hpn:p<=ops.size) {W:Nat->Bool} (hW:fP ops W=true) (bI:∀d,¬g.old.bx d) {K:af->ah->Prop} (h:bg P GI l K (λ_=>False) S H)
  (hk:∀g' S' H' a' w',g'.old=g.old->Rel P w0 n bu g' S' H' a' w'->K S' H'->eF W a a'->wpOpsIn (FR ro) m P ops Q l2 a' w') {id:Nat}:(Code.region id ops false).wpIn (FR ro) m P Q a w:=by
 refine wpIn_region ?_;rw[hr];subst hl
 have key:=lI hG bP (old:=g.old) (ops:=ops) (Q:=aB K) (S0:=S) (H0:=H) (List.range p) (ops.toList.take p) g S H a w (by
   apply List.ext_getElem?;intro i;simp only[List.getElem?_map,List.getElem?_take]
   by_cases hi:i<p
   .have:i<ops.size:=by omega
    simp[hi,this]
   .simp[hi]) (λo iq=>by
    simp only[aO,<-List.map_take,List.all_map,List.all_eq_true,Function.comp]at bB
    exact bB o iq) (λ_ _ d _=>bI d) rfl R (by
    simp only[aO,<-List.map_take]at h
    exact h)
 refine fZ (Q1:=ux W a (QQ P w0 n g.old (aB K))) (λe a w bQ hq=>?_) (λa' w' hq=>?_) _ _ _ (fw hW _ _ _ (kv cT jQ _ _ _ key))
 .cases e with
  |normal=>exact absurd rfl bQ
  |exit id=>obtain⟨_,_,_,_,_,h⟩:=hq;exact h.elim
  |ret=>obtain⟨_,_,_,_,_,h⟩:=hq;exact h.elim
  |panic ch=>obtain⟨_,_,_,_,_,_,_,_,_,_,h⟩:=hq;exact h.elim
  |goto l=>exact hq.elim
  |outgrown=>exact hq.elim
 .obtain⟨⟨g',S',H',h1,h2,h3⟩,h4⟩:=hq;exact hk g' S' H' a' w' h1 h2 h3 h4
def kZ {o:Oper} {s el:TypeId} {len:Nat} {i:TypeInfo} {x1 x2:Operand} {b off k:Nat} (ho:o.op = .indexAddr s x1 x2) (hs:P.underlying s=some (.array len el)) (hi:P.info? el=some i)
  (h1:a.eval x1=.pointer (some ⟨b,off,none⟩)) (h2:a.eval x2=.int .i64 k) (hk:k<len):(execOp a.eval o).run P w=.ok (.value (.pointer (some ⟨b,off+k*i.size,none⟩))) w:=by
 have Az:(0:Int)<=k:=by omega
 have nv:(k:Int)<len:=by omega
 simp[execOp,ho,h1,h2,Instr.indexAt,asIntOf,run_underlying hs,Az,nv,sizeOf,typeInfo,hi,Addr.add_lit,hk,Instr.sureAddr]
def su {o:Oper} {cl:Call} {f:Operand} {k:Nat} {first cap:Array Value} (w:World) (ho:o.op = .call cl) (hc:cl.callee = .value f) (hf:a.eval f = .func (.func k) first cap) (hk:dz P k=true) :
  (execOp a.eval o).run P w=.ok (.enter k (first++cl.args.map a.eval++cap)) w:=by
 unfold execOp;simp[ho,eu hc,hf,Deferred.ofValue,invoke,fC hk]
def m_ {o:Oper} {t:TypeId} {d:TypeDesc} {x:Operand} {b off:Nat} {v:Value} {vs:Array Value} {ty:TypeId} (ho:o.op = .load t x) (hx:a.eval x = .pointer (some ⟨b,off,none⟩)) (hd:P.underlying t=some d) (oU:eB d=false) (hb:w.heap[b]? = some (.cells vs ty (0,0))) (hv:vs[off]? = some v) :
  (execOp a.eval o).run P w=.ok (.value v) w:=by
 refine gV ho hx hd oU ?_;simp[World.cell?,hb,hv]
def AI.keep{ops:Array Oper}{a0:Act}{val:Nat->Value}{l:Array Bool}(h:AI ops n a0 val l a){t:Nat}(ht:ops.all (λo=>o.dst !=some t)=true):a.tmps.getD t undef=a0.tmps.getD t undef:=
 h.old t λi o ho hd=>by
  have:=Array.all_eq_true'.1 ht o (Array.mem_of_getElem? ho);simp[hd]at this
def AI.at{ops:Array Oper}{a0:Act}{val:Nat->Value}{l:Array Bool}(h:AI ops n a0 val l a)(i t:Nat)(ho:∃o,ops[i]?=some o/\o.dst=some t)(hl:l.getD i false=true):a.tmps.getD t undef=val t:=by
 obtain⟨o,h1,h2⟩:=ho;exact h.Fk i o t h1 h2 hl
def zY{fn:Func}{tmps:Array Value}{T t b:Nat}{u v:Value}{ty:TypeId}{fs:Array Field}{i:TypeInfo}(hr:fn.results=#[.cell t T])(h:tmps.getD t undef=.pointer (some ⟨b,0,none⟩))(hb:w.heap[b]?=some (.cells #[u,v] ty (0,0)))(hT:P.underlying T=some (.struct fs))(hi:P.info? T=some i)(hs:i.size=2):(results fn tmps).run P w=.ok (.agg #[u,v]) w:=by
 have h':tmps[t]?.getD undef=.pointer (some ⟨b,0,none⟩):=by rw[<-h];simp
 have jL:(isAgg T).run P w=.ok true w:=by
  unfold isAgg;rw[Sem.run_bind,run_underlying hT w]
  rfl
 have hl:(loadVar T ⟨b,0,none⟩).run P w=.ok (.agg #[u,v]) w:=by
  simp[loadVar,Sem.run_bind,jL,sizeOf,typeInfo,hi,hs,loadCells]
  have h0:w.cell? ⟨b,0,none⟩=some u:=by simp[World.cell?,hb]
  have h1:w.cell? ⟨b,1,none⟩=some v:=by simp[World.cell?,hb]
  simp[loadCellsFrom,Sem.run_bind,run_load,Addr.add_lit,h0,h1]
 simp[results,hr,h',asAddr,hl]
end
def dD.N0{P:Program}{w w':World}{g:Gh}{loc:Loc}{v:AV}{c:Value}(h:dD P w g loc v c)(hk:∀b o,g.base<=b->w.heap[b]?=some o->w'.heap[b]?=some o):dD P w' g loc v c:=by
 unfold dD at*
 split at h
 .obtain⟨i,xs,b,h1,h2,h3,h4,h5⟩:=h;refine⟨i,xs,b,h1,?_,h3,h4,h5⟩;refine⟨h2.1,?_⟩
  rcases h2.2 with hn|⟨gg,cap,cur,rfl,ja,tC,rest⟩
  .exact .inl hn
  .exact .inr ⟨gg,cap,cur,rfl,ja,hk gg _ ja tC,rest⟩
 .trivial
def iK(wS w':World)(b:Nat)(o:Obj):World:={ w' with heap:=wS.heap.setIfInBounds b o }
section
variable{P:Program}{GI:World->Prop}{n m:Nat}{a:Act}{w w0:World}{Q:Exit->Act->World->Prop}{g:Gh}{S:af}{H:ah}{ro:Option Nat}
def Rel.Ij(R:Rel P w0 n bu g S H a w){w':World}{bM:Nat}{o:Obj}(ht:ft (λb=>b=bM) w w')(av:bM<g.base)(dZ:∀k,¬g.old.c bM k)(ho:w'.heap[bM]?=some o):Rel P (iK w0 w' bM o) n bu g S H a w':=by
 have hb:=R.base
 have QH:∀b ob,g.base<=b->w.heap[b]?=some ob->w'.heap[b]?=some ob:=λb ob ja h=>by
  rw[ht.block b (Array.getElem?_eq_some_iff.1 h).1 (by omega)];exact h
 have hK:aL g.Pr g.Pr w w':=aL.iO λb k hl hp=>ht.block b hl (by
  rintro rfl;rcases hp with hp|hp
  .exact dZ k hp.2
  .omega)
 have oq:∀b,b<g.base->(iK w0 w' bM o).heap[b]?=w'.heap[b]?:=λb ja=>by
  by_cases VB:b=bM
  .subst VB;rw[ho];simp[iK,<-hb,ja]
  .have h1:w.heap[b]?=w0.heap[b]?:=R.below.block b ja;have h2:=ht.block b (by have:=R.below.size;omega) VB;simp only[iK,Array.getElem?_setIfInBounds_ne (Ne.symm VB)];rw[h2,h1]
 refine{ size:=R.size,defers:=R.defers,facts:=λp hp=>(R.facts p hp).mono hK λ_ _ h=>h,slot:=λt ht hu=>(R.slot t ht hu).mono hK λ_ _ h=>h,own:=λt ht hu=>(R.own t ht hu).N0 QH,box:=?_,iB:=R.iB,ij:=R.ij,inj:=R.inj,base:=by simp[iK,hb],below:=?_,fresh:=λb hb=>R.fresh b (Nat.le_trans ht.size hb),still:=R.still.trans hK,grown:=Nat.le_trans R.grown ht.size,kept:=?_ }
 .intro i b hi;obtain⟨cs,vs,ty,h1,h2,h3,h4,h5,h6,h7,h8,h9⟩:=R.box i b hi;exact⟨cs,vs,ty,h1,h2,QH b _ h2 h3,h4,h5,h6,λj hj c_=>(h7 j hj c_).mono hK,λj hj c_=>(h8 j hj c_).N0 QH,h9⟩
 .refine⟨rfl,rfl,rfl,?_,λb ja=>(oq b ja).symm⟩;have:=R.below.size;have:=ht.size
  have:(iK w0 w' bM o).heap.size=w0.heap.size:=by simp[iK]
  omega
 .intro b ob h;obtain⟨q1,q2,q3,q4,q5⟩:=R.kept b ob h;exact⟨q1,QH b ob q1 q2,q3,q4,q5⟩
def uB (R:Rel P w0 n bu g S H a w) (hG:aw GI) (bP:GI w0) {ops:Array Oper} {l2:List Nat} {jC:List Oper} (oY:l2.map (ops[·]?)=jC.map some) (cT:ops.all (fun o=>cW o.op)=true) {al:List bl} (gE:jC.map (bb P n false ops)=al) (bB:al.all (·.ok n)=true)
  {W:Nat->Bool} (hW:fP ops W=true) (bI:∀d,¬g.old.bx d) {K:af->ah->Prop} (h:bg P GI al K (λ_=>False) S H)
  (hk:∀g' S' H' a' w',g'.old=g.old->Rel P w0 n bu g' S' H' a' w'->K S' H'->eF W a a'->Q .normal a' w'):wpOpsIn (FR ro) m P ops Q l2 a w:=by
 subst gE
 have key:=lI hG bP (old:=g.old) (ops:=ops) (Q:=aB K) (S0:=S) (H0:=H) l2 jC g S H a w oY (fun o iq=>by
    simp only[List.all_map,List.all_eq_true,Function.comp]at bB
    exact bB o iq) (λ_ _ d _=>bI d) rfl R h
 refine eY (λe a' w' hq=>?_) _ _ _ (fw hW _ _ _ (kv (ro:=ro) (m:=m) cT jQ _ _ _ key))
 cases e with
 |normal=>
  obtain⟨⟨g',S',H',h1,h2,h3⟩,h4⟩:=hq;exact hk g' S' H' a' w' h1 h2 h3 h4
 |exit id=>obtain⟨_,_,_,_,_,h⟩:=hq;exact h.elim
 |ret=>obtain⟨_,_,_,_,_,h⟩:=hq;exact h.elim
 |panic ch=>obtain⟨_,_,_,_,_,_,_,_,_,_,h⟩:=hq;exact h.elim
 |goto l=>exact hq.elim
 |outgrown=>exact hq.elim
def po{κ:Type}[BEq κ][LawfulBEq κ]{k:κ}:∀{l:List (κ×Value)}{i:Nat},(∀x∈l,x.1≠k)->fq k l i=none
 |[],_,_=>rfl
 |(k',v)::l,i,h=>by
  have h1:k'≠k:=h (k',v) (by simp);unfold fq;rw[if_neg (by simpa using Ne.symm h1)]
  exact po λx hx=>h x (List.mem_cons_of_mem _ hx)
def uC{κ:Type}[BEq κ][LawfulBEq κ]{k:κ}:∀{l:List (κ×Value)}{i j:Nat}{v:Value},fq k l i=some (j,v)->(k,v)∈l
 |[],_,_,_,h=>by cases h
 |(k',v')::l,i,j,v,h=>by
  unfold fq at h;split at h
  .rename_i hk
   have:k=k':=by simpa using hk
   subst this;cases h;simp
  .exact List.mem_cons_of_mem _ (uC h)
def wD{κ:Type}[BEq κ][LawfulBEq κ]{k:κ}:∀{l:List (κ×Value)}{i:Nat},fq k l i=none->∀x∈l,x.1≠k
 |[],_,_,x,hx=>by cases hx
 |(k',v')::l,i,h,x,hx=>by
  unfold fq at h;split at h
  .cases h
  .rename_i hk;rcases List.mem_cons.1 hx with rfl|hx
   .intro he;apply hk;simpa using he.symm
   .exact wD h x hx
end
section
variable{P:Program}{GI:World->Prop}{n m:Nat}{a:Act}{w:World}{Q:Exit->Act->World->Prop}{S:af}{ro:Option Nat}
def Gl {P:Program} {w:World} {bN k:Nat} {el:TypeId} {sz:Nat} {v:Value} {xs last:List Value} (cE:w.ownsRow (bN+1) el sz v (k+1) (xs++last)) (iC:xs.length=k * sz) :
  ∃g cap,v=.slice (some ⟨g,0,none⟩) (k+1) cap/\k<=cap/\w.ownsRow (bN+1) el sz (.slice (some ⟨g,0,none⟩) k cap) k xs:=by
 obtain⟨_,h2⟩:=cE
 rcases h2 with⟨_,h⟩|⟨g',tQ,cur,hv,hg,hh,hn,dX,aI,oI⟩
 .omega
 .refine⟨g',tQ,hv,by omega,iC,.inr ⟨g',tQ,cur,rfl,hg,hh,by omega,dX,aI,?_⟩⟩
  have h3:(cur.toList.take ((k+1)*sz)).take (k*sz)=(xs++last).take (k*sz):=by rw[oI]
  rw[List.take_take,Nat.min_eq_left (Nat.mul_le_mul_right _ (by omega))]at h3;rw[h3,<-iC,List.take_left]
end
section
variable{P:Program}{n m:Nat}{a:Act}{w:World}{Q:Exit->Act->World->Prop}{ro:Option Nat}
def Bj {ops:Array Oper} {i:Nat} {rest:List Nat} {o:Oper} (ho:ops[i]? = some o) (hg:o.guard=none) (cT:cW o.op=true) {v:Value} {w':World}
  (hr:(execOp a.eval o).run P w=.ok (.value v) w') (h:wpOpsIn (FR ro) m P ops Q (i::rest) a w):wpOpsIn (FR ro) m P ops Q rest (a.put o.dst v) w':=by
 simp only[wpOpsIn,ho]at h
 have:Region.wanted o (yielded ops a.tmps)=true:=by simp[Region.wanted,hg]
 rw[if_pos this]at h;have h2:=h.2;rw[Oper.semAt_eq _ _ _ (λc hc=>by rw[hc]at cT;cases cT),hr]at h2;exact h2
def L7{a:Act}{d e:Nat}{u v:Value}(h:d≠e):(a.put (some d) u).put (some e) v=(a.put (some e) v).put (some d) u:=by
 simp[Act.put,Array.setIfInBounds_comm _ _ h]
def G4 {ops:Array Oper} {i j:Nat} {rest:List Nat} {oi oj:Oper} {d e:Nat} {u v:Value} (hi:ops[i]? = some oi) (hj:ops[j]? = some oj) (gi:oi.guard=none) (gj:oj.guard=none) (ci:cW oi.op=true) (cj:cW oj.op=true) (di:oi.dst=some d) (dj:oj.dst=some e) (hde:d≠e)
  (ri:(execOp a.eval oi).run P w=.ok (.value u) w) (rj:(execOp (a.put (some d) u).eval oj).run P w=.ok (.value v) w) (ri':(execOp (a.put (some e) v).eval oi).run P w=.ok (.value u) w)
  (h:wpOpsIn (FR ro) m P ops Q (i::rest) (a.put (some e) v) w):wpOpsIn (FR ro) m P ops Q (i::j::rest) a w:=by
 refine aK hi gi ci ri ?_;rw[di];refine aK hj gj cj rj ?_;rw[dj,L7 hde];have:=Bj hi gi ci ri' h;rw[di]at this;exact this
def G8 {ops:Array Oper} {l2:List Nat} {jC:List Oper} (oY:l2.map (ops[·]?)=jC.map some) (cT:ops.all (fun o=>cW o.op)=true) {al:List bl} (gE:jC.map (bb P n false ops)=al) (bB:al.all (·.ok n)=true) {W:Nat→Bool} (hW:fP ops W=true) (pr:Nat→Nat→Prop) (S:af)
  {bN nm tp:Nat} {v:Value} {e ty:TypeId} {i:TypeInfo} {es es':List AV} {xs:List Value} (JV:tp<n) (Tx:W tp=false) (Mx:a.tmps.getD tp undef=.pointer (some ⟨bN,0,none⟩)) (aI:a.tmps.size=n) (cD:a.defers=[])
  (hN:w.heap[bN]?=some (.cells #[v] ty (0,0))) (hi:P.info? e=some i) (cE:w.ownsRow (bN+1) e i.size v es.length xs) (hf:iP (λb k=>b<bN/\pr b k) w i.size es xs)
  (hS:∀t,t<n->(S t).aA=S t/\((S t=.box nm 0/\a.tmps.getD t undef=.pointer (some ⟨bN,0,none⟩))\/RV (λb k=>b<bN/\pr b k) bU w (S t) (a.tmps.getD t undef)))
  (h:bg P (λ_=>True) al (λS' H'=>S' tp=.box nm 0/\H' nm=some [.slice (.own e) es']) (λ_=>False) S (λj=>if j=nm then some [kz e v es]else none))
  (iM:∀x∈es',x.cells.length=i.size/\x.storable=true/\∀c∈x.cells,c.one=true) (Dl:∀x∈es',∀c∈x.cells,iG c=true)
  (hk:∀a' w' v' sU j5,a'.tmps.size=n->a'.defers=[]->eF W a a'->w'.heap[bN]?=some (.cells #[v'] sU (0,0))->w'.ownsRow (bN+1) e i.size v' es'.length j5->iP (λ_ _=>False) w' i.size es' j5->
   ft (λb=>b=bN\/v.ownBlock=some b) w w'->(∀b,v'.ownBlock=some b->v.ownBlock=some b\/w.heap.size<=b)->Q .normal a' w'):wpOpsIn (FR ro) m P ops Q l2 a w:=by
 subst gE;obtain⟨g,wm,n9,Ps,R⟩:=Rel.stack (P:=P) (nm:=nm) (S:=S) (a:=a) pr aI cD hN hi cE hf hS;have av:=(Array.getElem?_eq_some_iff.1 hN).1
 have fin:∀e1 a' w',ux W a (QQ P { w with heap:=w.heap.extract 0 bN } n (jR pr w bN v) (aB λS' H'=>S' tp=.box nm 0/\H' nm=some [.slice (.own e) es'])) e1 a' w'->Q e1 a' w':=by
  intro e1 a' w' hq
  cases e1 with
  |normal=>
   obtain⟨⟨g',S',H',h1,h2,h3⟩,h4⟩:=hq
   have pS:g'.base=bN:=by rw[h2.base];simp;omega
   have gE:g'.al nm=some bN:=by
    have hs:=h2.slot tp JV (λhh=>hh);rw[h3.1,h4 tp Tx,Mx]at hs
    cases hs with
    |data _ _ h=>cases h
    |box _ _ b h=>exact h
   obtain⟨v',sU,j5,k1,k2,k3,k4,k5⟩:=Rel.Cw (w:=w) pr hi h2 h1 pS (λb hb=>by
    show(w.heap.extract 0 bN)[b]?=w.heap[b]?
    rw[Array.getElem?_extract,if_pos (by omega),Nat.zero_add]) gE h3.2 iM Dl
   have jF:=h2.grown;rw[h1]at jF;refine hk a' w' v' sU j5 h2.size (by rw[h2.defers,h1];rfl) h4 k1 k2 k3 ⟨h2.below.os,h2.below.tape,h2.below.output,jF,λb hb hM=>?_⟩ k5;exact k4 b hb (λh=>hM (.inl h)) (λh=>hM (.inr h))
  |exit id=>obtain⟨_,_,_,_,_,h⟩:=hq;exact h.elim
  |ret=>obtain⟨_,_,_,_,_,h⟩:=hq;exact h.elim
  |panic ch=>obtain⟨_,_,_,_,_,_,_,_,_,_,h⟩:=hq;exact h.elim
  |goto l=>exact hq.elim
  |outgrown=>exact hq.elim
 have key:=lI (GI:=fun _=>True) (fun _ _ _ _=>trivial) trivial (old:=jR pr w bN v) (ops:=ops) (Q:=aB fun S' H'=>S' tp = .box nm 0∧H' nm=some [.slice (.own e) es']) (S0:=S) (H0:=fun j=>if j=nm then some [kz e v es] else none) l2 jC g S _ a w oY (fun o iq=>by
    simp only[List.all_map,List.all_eq_true,Function.comp]at bB
    exact bB o iq) (λ_ _ _ _ h=>h) wm R h
 exact eY fin _ _ _ (fw hW _ _ _ (kv (ro:=ro) (m:=m) cT jQ _ _ _ key))
def yP(P:Program)(t j:Nat):Option (Nat×Nat):=match P.underlying t with
 |some (.struct fs)=>match fs[j]? with
  |some f=>match P.info? f.type with
   |some i=>some (f.offset,i.size)
   |none=>none
  |none=>none
 |_=>none
def ld{o:Oper}{s j KG sz:Nat}{x:Operand}{b off:Nat}(h:yP P s j=some (KG,sz))(hz:sz≠0)(ho:o.op=.fieldAddr s x j)(hx:a.eval x=.pointer (some ⟨b,off,none⟩)):(execOp a.eval o).run P w=.ok (.value (.pointer (some ⟨b,off+KG,none⟩))) w:=by
 unfold yP at h;split at h
 .rename_i fs iD;split at h
  .rename_i f hf;split at h
   .rename_i i hi;simp only[Option.some.injEq,Prod.mk.injEq]at h;obtain⟨rfl,rfl⟩:=h;exact rr ho iD hf hi hz hx
   .cases h
  .cases h
 .cases h
def FE{Pr:Nat->Nat->Prop}{es:List AV}{c:Value}(h:RD Pr w (.slice .view es) c):∃ad cap,c=.slice ad es.length cap:=by
 cases h with
 |gy=>exact⟨_,_,rfl⟩
 |slice _ _ b off cap size cs dX hn aI h1 hc hr=>exact⟨_,_,rfl⟩
 |iF _ a=>exact⟨_,_,rfl⟩
end
section
variable{P:Program}{GI:World->Prop}{n m:Nat}{a:Act}{w:World}{Q:Exit->Act->World->Prop}{ro:Option Nat}
def ki(o:Oper):List Nat:=(o.after.toList.filter (Region.binds .any ·)).map (·.on)
def Dm(ops:Array Oper):Nat->List Nat->List Nat
 |0,s=>s
 |k+1,s=>Dm ops k (if s.contains k then s++((ops[k]?).map ki).getD []else s)
def tK{ops:Array Oper}{L:Nat->Prop}:∀(n:Nat),(∀k,k<n->∀o,ops[k]?=some o->L k->∀y∈ki o,L y)->∀s,(∀y∈s,L y)->∀y∈Dm ops n s,L y
 |0,_,s,hs,y,hy=>hs y hy
 |k+1,h,s,hs,y,hy=>by
  refine tK k (λk' eK=>h k' (by omega)) _ (λz hz=>?_) y hy;split at hz
  .rename_i hc;rcases List.mem_append.1 hz with hz|hz
   .exact hs z hz
   .cases ho:ops[k]? with
    |none=>rw[ho]at hz;cases hz
    |some o=>
     rw[ho]at hz;exact h k (by omega) o ho (hs k (by simpa using hc)) z hz
  .exact hs z hz
def EA(ops:Array Oper)(p:Nat):Bool:=
 decide (p<=ops.size)&&(ops.extract 0 p).all (λo=>match o.guard with|none=>true|some (j,_)=>decide (j<p))&&
 (List.range ops.size).all (λi=>((ops[i]?).map λo=>if i<p then(ki o).all (λy=>decide (y<i))else let c:=Dm ops i (ki o);(List.range p).all λj=>c.contains j).getD true)&&
 jz ops (ops.size-p) p ((List.range ops.size).map λi=>decide (i<p)).toArray
def tT{F:Fence}{ops:Array Oper}(x:Nat):∀(k i:Nat)(l:Array Bool)(a:Act)(w:World),jz ops k i l=true->wpOpsIn F m P ops Q (List.range' i k) a w->wpAnyIn F m P .any ops Q (x+k) l a w
 |0,i,l,a,w,h,hh=>by
  have h0:Region.ready .any ops l=[]:=by simpa[jz]using h
  cases x with
  |zero=>exact⟨h0,hh⟩
  |succ x=>exact⟨λ_=>hh,λi hi=>by rw[h0]at hi;cases hi⟩
 |k+1,i,l,a,w,h,hh=>by
  simp only[jz,Bool.and_eq_true,beq_iff_eq]at h;refine⟨λhr=>(by rw[hr]at h;cases h.1),λj hj=>?_⟩;rw[h.1,List.mem_singleton]at hj;subst hj;simp only[List.range'_succ]at hh;rw[wpOpsIn_cons]at hh;exact wpOpIn_mono (λa w hq=>tT x k _ _ a w h.2 hq) hh
structure GD(ops:Array Oper)(p:Nat)(la l:Array Bool):Prop where
 zw:la.size=p
 sl:l.size=ops.size
 front:∀i,i<p->l[i]?=la[i]?
 back:∀i,p<=i->i<ops.size->l[i]?=some false
 closed:∀(i:Nat)(o:Oper),ops[i]?=some o->l.getD i false=true->∀y∈ki o,l.getD y false=true
section
variable{ops:Array Oper}{p:Nat}{la l:Array Bool}(hp:p<=ops.size)
 (hw:∀i o,ops[i]?=some o->if i<p then∀e∈o.after,Region.binds .any e=true->e.on<i else∀j,j<p->j∈Dm ops i (ki o))
include hp hw
def GJ(h:GD ops p la l){j:Nat}(hj:j<p)(pQ:la[j]?=some false):Region.ready .any ops l=Region.ready .any (ops.extract 0 p) la:=by
 unfold Region.ready
 have aI:(ops.extract 0 p).size=p:=by simp;omega
 rw[aI]
 have hr:List.range ops.size=List.range p++List.range' p (ops.size-p):=by
  rw[List.range_eq_range',List.range_eq_range'];have:=List.range'_append_1 (s:=0) (m:=p) (n:=ops.size-p);rw[Nat.zero_add]at this;rw[this]
  congr 1;omega
 rw[hr,List.filter_append]
 have hb:(List.range' p (ops.size-p)).filter (λi=>!l.getD i true&&((ops[i]?).map (·.after.all λe=>!Region.binds .any e||l.getD e.on false)).getD false)=[]:=by
  rw[List.filter_eq_nil_iff];intro i hi;have hi:=List.mem_range'_1.1 hi;have qd:p<=i:=hi.1
  have nB:i<ops.size:=by omega
  have ho:ops[i]?=some ops[i]:=Array.getElem?_eq_getElem nB;have nC:=hw i _ ho;rw[if_neg (by omega)]at nC;rw[ho];simp only[Option.map_some,Option.getD_some,Bool.and_eq_true,not_and];intro _ eD;have eD:=Array.all_eq_true'.1 eD
  have hL:=tK (L:=λy=>l.getD y false=true) (ops:=ops) i (λk _ o ho hLk=>h.closed k o ho hLk) (ki ops[i]) (λy hy=>by
   simp only[ki,List.mem_map,List.mem_filter,Array.mem_toList_iff]at hy;obtain⟨e,⟨he,v7⟩,rfl⟩:=hy
   simpa[v7]using eD e he) j (nC j hj)
  rw[Array.getD_eq_getD_getElem?,h.front j hj,pQ]at hL;cases hL
 rw[hb,List.append_nil]
 refine List.filter_congr λi hi=>?_
 have hi:=List.mem_range.1 hi;have ho:ops[i]?=some (ops[i]'(by omega)):=Array.getElem?_eq_getElem (by omega);have nC:=hw i _ ho;rw[if_pos hi]at nC
 have Jw:(ops.extract 0 p)[i]?=ops[i]?:=by
  rw[Array.getElem?_extract]
  have:i<min p ops.size-0:=by omega
  rw[if_pos this,Nat.zero_add]
 rw[Jw,ho];simp only[Option.map_some,Option.getD_some,Array.getD_eq_getD_getElem?,h.front i hi]
 congr 1
 rw[Bool.eq_iff_iff,Array.all_eq_true',Array.all_eq_true']
 refine forall_congr' λe=>forall_congr' λhe=>?_
 cases v7:Region.binds .any e with
 |false=>simp
 |true=>
  have:=nC e he v7;rw[h.front e.on (by omega)]
def sJ(h:GD ops p la l){j:Nat}(hj:j<p)(pQ:la[j]?=some false):Region.ready .any (ops.extract 0 p) la≠[]:=by
 have aI:(ops.extract 0 p).size=p:=by simp;omega
 have ex:∃j,j<p/\la[j]?=some false/\∀i,i<j->la[i]?=some true:=by
  induction j using Nat.strongRecOn with
  |_ j ih=>
   by_cases hx:∃i,i<j/\la[i]?=some false
   .obtain⟨i,hi,VN⟩:=hx;exact ih i hi (by omega) VN
   .refine⟨j,hj,pQ,λi hi=>?_⟩
    have dN:i<la.size:=by rw[h.zw];omega
    rw[Array.getElem?_eq_getElem dN]
    cases hb:la[i]with
    |true=>rfl
    |false=>exact absurd ⟨i,hi,by rw[Array.getElem?_eq_getElem dN,hb]⟩ hx
 obtain⟨j,hj,pQ,zi⟩:=ex;intro pf
 have:j∈Region.ready .any (ops.extract 0 p) la:=by
  unfold Region.ready;rw[List.mem_filter];refine⟨List.mem_range.2 (by omega),?_⟩;have ho:ops[j]?=some (ops[j]'(by omega)):=Array.getElem?_eq_getElem (by omega);have nC:=hw j _ ho;rw[if_pos hj]at nC
  have Jw:(ops.extract 0 p)[j]?=ops[j]?:=by
   rw[Array.getElem?_extract]
   have:j<min p ops.size-0:=by omega
   rw[if_pos this,Nat.zero_add]
  rw[Jw,ho];simp only[Option.map_some,Option.getD_some,Bool.and_eq_true,Array.getD_eq_getD_getElem?,pQ,Bool.not_false,true_and];rw[Array.all_eq_true'];intro e he
  cases v7:Region.binds .any e with
  |false=>rfl
  |true=>
   rw[zi e.on (nC e he v7)];rfl
 rw[pf]at this;cases this
def Gt {F:Fence} (hg:(ops.extract 0 p).all (fun o=>match o.guard with | none=>true | some (j,_)=>decide (j < p))=true) (wC:jz ops (ops.size - p) p ((List.range ops.size).map fun i=>decide (i < p)).toArray=true):∀ (k:Nat) (la l:Array Bool) (a:Act) (w:World),GD ops p la l →
  wpAnyIn F m P .any (ops.extract 0 p) (zx (wpOpsIn F m P ops Q (List.range' p (ops.size-p))) Q) k la a w->wpAnyIn F m P .any ops Q (k+(ops.size-p)) l a w:=by
 have aI:(ops.extract 0 p).size=p:=by simp;omega
 have final:∀(k:Nat)(la l:Array Bool)(a:Act)(w:World),GD ops p la l->(¬∃j,j<p/\la[j]?=some false)->wpOpsIn F m P ops Q (List.range' p (ops.size-p)) a w->wpAnyIn F m P .any ops Q (k+(ops.size-p)) l a w:=by
  intro k la l a w h eD hh
  have hl:l=((List.range ops.size).map λi=>decide (i<p)).toArray:=by
   apply Array.ext_getElem?;intro i
   by_cases hi:i<ops.size
   .simp only[List.getElem?_toArray,List.getElem?_map,List.getElem?_range hi,Option.map_some]
    by_cases nY:i<p
    .rw[h.front i nY]
     have dN:i<la.size:=by rw[h.zw];omega
     rw[Array.getElem?_eq_getElem dN]
     cases hb:la[i]with
     |true=>simp[nY]
     |false=>exact absurd ⟨i,nY,by rw[Array.getElem?_eq_getElem dN,hb]⟩ eD
    .rw[h.back i (by omega) hi];simp[nY]
   .have gZ:=h.sl;rw[Array.getElem?_eq_none (by omega),Array.getElem?_eq_none (by simp;omega)]
  rw[hl];exact tT k _ _ _ a w wC hh
 intro k
 induction k with
 |zero=>
  intro la l a w h hh;refine final 0 la l a w h ?_ hh.2;rintro⟨j,hj,pQ⟩;exact sJ hp hw h hj pQ hh.1
 |succ k ih=>
  intro la l a w h hh
  by_cases eD:∃j,j<p/\la[j]?=some false
  case neg=>
   have h0:Region.ready .any (ops.extract 0 p) la=[]:=by
    unfold Region.ready;rw[List.filter_eq_nil_iff];intro i hi;have hi:=List.mem_range.1 hi
    have dN:i<la.size:=by rw[h.zw];omega
    cases hb:la[i]with
    |true=>simp[Array.getD_eq_getD_getElem?,Array.getElem?_eq_getElem dN,hb]
    |false=>exact absurd ⟨i,by omega,by rw[Array.getElem?_eq_getElem dN,hb]⟩ eD
   exact final (k+1) la l a w h eD (hh.1 h0)
  obtain⟨j,hj,pQ⟩:=eD;have h1:=sJ hp hw h hj pQ;have h2:=GJ hp hw h hj pQ;rw[show k+1+(ops.size-p)=(k+(ops.size-p))+1 by omega];refine⟨λhr=>absurd (h2▸hr) h1,λi hi=>?_⟩
  have ck:i∈Region.ready .any (ops.extract 0 p) la:=by rw[<-h2];exact hi
  have nY:i<p:=by
   have:=List.mem_range.1 (List.mem_filter.1 ck).1;omega
  have hI:GD ops p (la.setIfInBounds i true) (l.setIfInBounds i true):=by
   have PU:∀o,ops[i]?=some o->∀y∈ki o,l.getD y false=true:=λo ho y hy=>by
    obtain⟨_,o',iJ,eD⟩:=mem_ready.1 hi;rw[ho]at iJ;cases iJ;simp only[ki,List.mem_map,List.mem_filter,Array.mem_toList_iff]at hy;obtain⟨e,⟨he,v7⟩,rfl⟩:=hy;exact eD e he v7
   have pA:∀y,l.getD y false=true->(l.setIfInBounds i true).getD y false=true:=λy hy=>by
    rw[Array.getD_eq_getD_getElem?,Array.getElem?_setIfInBounds]
    by_cases ZB:i=y
    .subst ZB;rw[Array.getD_eq_getD_getElem?]at hy;split
     .split
      .rfl
      .rename_i h1 h2;rw[Array.getElem?_eq_none (by omega)]at hy;cases hy
     .exact hy
    .rw[if_neg ZB,<-Array.getD_eq_getD_getElem?];exact hy
   refine⟨by simpa using h.zw,by simpa using h.sl,λq hq=>?_,λq hq Mc=>?_,λq o ho hLq y hy=>?_⟩
   .rw[Array.getElem?_setIfInBounds,Array.getElem?_setIfInBounds,h.front q hq];have e1:=h.zw;have e2:=h.sl
    by_cases BC:i=q
    .subst BC;rw[if_pos rfl,if_pos rfl,if_pos (by omega),if_pos (by omega)]
    .rw[if_neg BC,if_neg BC]
   .rw[Array.getElem?_setIfInBounds,if_neg (by omega)];exact h.back q hq Mc
   .by_cases BC:q=i
    .subst BC;exact pA y (PU o ho y hy)
    .refine pA y (h.closed q o ho ?_ y hy);rw[Array.getD_eq_getD_getElem?,Array.getElem?_setIfInBounds,if_neg (Ne.symm BC),<-Array.getD_eq_getD_getElem?]at hLq;exact hLq
  have hs:=hh.2 i ck;unfold wpOpIn at hs⊢
  have j0:∀i,i<p->(ops.extract 0 p)[i]?=ops[i]?:=λi nY=>by
   rw[Array.getElem?_extract]
   have:i<min p ops.size-0:=by omega
   rw[if_pos this,Nat.zero_add]
  have Be:=j0 i nY;rw[Be]at hs
  cases ho:ops[i]? with
  |none=>rw[ho]at hs;exact ih _ _ a w hI hs
  |some o=>
   rw[ho]at hs Be
   have hw:Region.wanted o (yielded (ops.extract 0 p) a.tmps)=Region.wanted o (yielded ops a.tmps):=by
    have:=Array.all_eq_true'.1 hg o (Array.mem_of_getElem? Be);unfold Region.wanted
    cases iE:o.guard with
    |none=>rfl
    |some q=>
     obtain⟨j,b⟩:=q;rw[iE]at this;simp only[decide_eq_true_eq]at this;simp only[yielded,j0 j this]
   simp only[hw]at hs;simp only;split
   .rename_i GG;rw[if_pos GG]at hs;exact Oper.wpIn_mono (λa w hq=>ih _ _ a w hI hq) (um hs)
   .rename_i GG;rw[if_neg GG]at hs;exact⟨hs.1,ih _ _ _ w hI hs.2⟩
end
def JA (hm:P.follows .mixedOrders=true) {F:Fence} {id p:Nat} {ops:Array Oper} {a:Act} {w:World} (h:EA ops p=true)
  (hh:wpAnyIn F m P .any (ops.extract 0 p) (zx (wpOpsIn F m P ops Q (List.range' p (ops.size-p))) Q) p (Array.replicate p false) a { w with drawn:=w.drawn+1 }):(Code.region id ops true).wpIn F m P Q a w:=by
 simp only[EA,Bool.and_eq_true,decide_eq_true_eq]at h;obtain⟨⟨⟨h1,h2⟩,h3⟩,h4⟩:=h;refine wpIn_region_any hm ?_
 have:=Gt (P:=P) (Q:=Q) (m:=m) h1 (λi o ho=>by
  have hi:=(Array.getElem?_eq_some_iff.1 ho).1;have:=List.all_eq_true.1 h3 i (List.mem_range.2 hi);rw[ho]at this;simp only[Option.map_some,Option.getD_some]at this;split
  .rename_i nY;rw[if_pos nY,List.all_eq_true]at this;intro e he hb
   have:=this e.on (by
    simp only[ki,List.mem_map,List.mem_filter,Array.mem_toList_iff]
    exact⟨e,⟨he,hb⟩,rfl⟩)
   simpa using this
  .rename_i nY;rw[if_neg nY]at this;intro j hj;have:=List.all_eq_true.1 this j (List.mem_range.2 hj)
   simpa using this) (F:=F) h2 h4 p (Array.replicate p false) (Array.replicate ops.size false) a _ ⟨by simp,by simp,λi hi=>by
    rw[Array.getElem?_replicate,Array.getElem?_replicate,if_pos (by omega),if_pos hi],λi hi ck=>by rw[Array.getElem?_replicate,if_pos ck],λi o ho hL=>by
    rw[Array.getD_eq_getD_getElem?,Array.getElem?_replicate]at hL
    split at hL<;>cases hL⟩ hh
 rwa [show p+(ops.size-p)=ops.size by omega]at this
def IL (hG:aw GI) (hm:P.follows .mixedOrders=true) {id:Nat} {ops:Array Oper} {p:Nat} (rm:EA ops p=true) (cT:(ops.extract 0 p).all (fun o=>cW o.op)=true) (bB:E5 P n (ops.extract 0 p)=true)
  {l:List bl} (hl:aO P n true (ops.extract 0 p)=l) (jP:(ops.extract 0 p).size=p) {W:Nat->Bool} (hW:fP (ops.extract 0 p) W=true) (jI:GI w) (pr:Nat->Nat->Prop) (S:af)
  (aI:a.tmps.size=n) (cD:a.defers=[]) (hS:∀t,t<n->(S t).aA=S t/\RV pr bU w (S t) (a.tmps.getD t undef)) {K:af->ah->Prop}
  (h:dc P GI l K (dL l S) (cG l (λ_=>none)))
  (hk:∀g S' H' a' w',g.old=Old.plain pr w->Rel P w n bu g S' H' a' w'->K S' H'->eF W a a'->wpOpsIn (FR ro) m P ops Q (List.range' p (ops.size-p)) a' w'):
  (Code.region id ops true).wpIn (FR ro) m P Q a w:=by
 refine JA hm rm ?_;have key:=jG (ro:=ro) (m:=m) (a:=a) (w:=w) hG jI hm (old:=Old.plain pr w) (ops:=ops.extract 0 p) (Q:=aB K) cT bB (λ_ _ _ _ h=>h) rfl (Rel.Hf pr aI cD hS) (by subst hl;exact h);rw[jP]at key;refine eX ?_ _ _ _ _ (fR hW _ _ _ _ key);intro e a' w' hq
 cases e with
 |normal=>
  obtain⟨⟨g',S',H',h1,h2,h3⟩,h4⟩:=hq;exact hk g' S' H' a' w' h1 h2 h3 h4
 |exit id=>obtain⟨_,_,_,_,_,h⟩:=hq;exact h.elim
 |ret=>obtain⟨_,_,_,_,_,h⟩:=hq;exact h.elim
 |panic ch=>obtain⟨_,_,_,_,_,_,_,_,_,_,h⟩:=hq;exact h.elim
 |goto l=>exact hq.elim
 |outgrown=>exact hq.elim
end
def RO{α:Type}(P:Program)(x:Sem α):Prop:=∀w r w',x.run P w=.ok r w'->w'=w
def NK{α:Type}(P:Program)(x:Sem α):Prop:=∀w r w',x.run P w≠.ok r w'
section
variable{P:Program}{α β:Type}
def RO.pure(a:α):RO P (Pure.pure a:Sem α):=λw r w' h=>by
 have:(Pure.pure a:Sem α).run P w=.ok a w:=rfl;rw[this]at h;cases h;rfl
def RO.bind{x:Sem α}{f:α->Sem β}(hx:RO P x)(hf:∀a,RO P (f a)):RO P (x >>= f):=λw r w' h=>by
 rw[Sem.run_bind]at h
 cases hr:x.run P w with
 |ok a w1=>
  rw[hr]at h;have h1:=hf a w1 r w' h;rw[h1,hx w a w1 hr]
 |halt e w1=>rw[hr]at h;cases h
def NK.ro{x:Sem α}(h:NK P x):RO P x:=λw r w' hh=>absurd hh (h w r w')
def NK.bind{x:Sem α}{f:α->Sem β}(hf:∀a,NK P (f a)):NK P (x >>= f):=λw r w' h=>by
 rw[Sem.run_bind]at h
 cases hr:x.run P w with
 |ok a w1=>rw[hr]at h;exact hf a w1 r w' h
 |halt e w1=>rw[hr]at h;cases h
def NK.VO{x:Sem α}{f:α->Sem β}(hx:NK P x):NK P (x >>= f):=λw r w' h=>by
 rw[Sem.run_bind]at h
 cases hr:x.run P w with
 |ok a w1=>exact hx w a w1 hr
 |halt e w1=>rw[hr]at h;cases h
def NK.halt(e:Halt):NK P (.halt e:Sem α):=λw r w' h=>by cases h
def RO.load(m:Mode)(a:Addr):RO P (.load m a .pure):=λw r w' h=>by
 simp only[Sem.run]at h;split at h
 .cases h;rfl
 .split at h
  .cases h;rfl
  .cases h
def RO.underlying(t:TypeId):RO P (Go.underlying t):=λw r w' h=>by
 simp only[Go.underlying,program]at h;rw[Sem.run_bind]at h;simp only[Sem.run,Result.andThen]at h;split at h
 .cases h;rfl
 .cases h
def RO.typeInfo(t:TypeId):RO P (Go.typeInfo t):=λw r w' h=>by
 simp only[Go.typeInfo,program]at h;rw[Sem.run_bind]at h;simp only[Sem.run,Result.andThen]at h;split at h
 .cases h;rfl
 .cases h
def RO.sizeOf(t:TypeId):RO P (Go.sizeOf t):=(RO.typeInfo t).bind λ_=>RO.pure _
def RO.isAgg(t:TypeId):RO P (Go.isAgg t):=(RO.underlying t).bind λd=>by split<;>exact RO.pure _
def RO.loadCellsFrom(a:Addr):∀(n i:Nat)(acc:Array Value),RO P (Go.loadCellsFrom a i n acc)
 |0,_,_=>RO.pure _
 |n+1,i,acc=>(RO.load _ _).bind λ_=>RO.loadCellsFrom a n _ _
def RO.loadVar(t:TypeId)(a:Addr):RO P (Go.loadVar t a):=by
 unfold Go.loadVar
 refine(RO.isAgg t).bind λb=>?_
 cases b
 .exact RO.load _ _
 .exact(RO.sizeOf t).bind λn=>(RO.loadCellsFrom a n 0 #[]).bind λ_=>RO.pure _
def RO.sureAddr(v:Value):RO P (Instr.sureAddr v):=by
 unfold Instr.sureAddr;split
 .exact RO.pure _
 .exact(NK.halt _).ro
def RO.loadAt(t:TypeId)(v:Value):RO P (Instr.loadAt t v):=(RO.sureAddr v).bind λa=>RO.loadVar t a
def RO.asIntOf(v:Value):RO P (Go.asIntOf v):=by
 unfold Go.asIntOf;split
 .exact RO.pure _
 .exact(NK.halt _).ro
 .exact(NK.halt _).ro
def NK.bounds(k:IntKind)(x y:Int)(c:BoundsCode):NK P (boundsPanic k x y c:Sem α):=by
 have h:∀s:Bool,NK P (runtimePanic (.bounds (IntKind.i64.wrap x) y s c):Sem α):=λs=>NK.bind λp=>NK.halt _
 unfold boundsPanic;dsimp only;split
 .exact NK.bind h
 .exact NK.bind h
def RO.indexAt(t:TypeId)(x ix:Value):RO P (Instr.indexAt t x ix):=by
 have key:∀ (k:IntKind) (i:Int) (b:Option Addr) (len:Nat) (elem:TypeId),RO P (do
   let d<-Go.underlying t
   let Z9:Bool:=decide (len<=1)&&(match d with|.array ..=>true|_=>false)
   match b with
   |some a=>
    if 0<=i/\i<(len:Int)then do
     let sz<-Go.sizeOf elem
     Pure.pure (Value.pointer (some (a.add (i.toNat*sz))))
    else if Z9=true then unsupported (Unsupported.noEntry "op/indexAddr.an index out of range at an array of length 0 or 1 (ledger 616)")
    else boundsPanic k i len BoundsCode.index
   |none=>boundsPanic k i 0 BoundsCode.index):=by
  intro k i b len elem
  refine(RO.underlying t).bind λd=>?_
  cases b with
  |some a=>
   simp only;split
   .exact(RO.sizeOf _).bind λ_=>RO.pure _
   .generalize(decide (len<=1)&&_)=tn;cases tn
    .exact(NK.bounds _ _ _ _).ro
    .exact(NK.halt _).ro
  |none=>exact(NK.bounds _ _ _ _).ro
 unfold Instr.indexAt
 refine(RO.asIntOf ix).bind λ⟨k,i⟩=>?_
 refine(RO.underlying t).bind λd=>?_
 dsimp only;split
 .exact(RO.sureAddr _).bind λ_=>(RO.pure _).bind λ⟨base,len,elem⟩=>key k i base len elem
 .exact(RO.pure _).bind λ⟨base,len,elem⟩=>key k i base len elem
 .exact(NK.VO (NK.halt _)).ro
def UK{ρ:Operand->Value}{o:Oper}(h:match o.op with|.move _|.assign _|.load ..|.indexAddr ..=>true|_=>false):RO P (execOp ρ o):=by
 unfold execOp
 split at h<;>try cases h
 .rename_i x e;simp only[e];exact RO.pure _
 .rename_i x e;simp only[e];exact RO.pure _
 .rename_i t x e;simp only[e];exact(RO.loadAt _ _).bind λ_=>RO.pure _
 .rename_i t x ix e;simp only[e];exact(RO.indexAt _ _ _).bind λ_=>RO.pure _
def pw{ρ:Operand->Value}{o:Oper}(h:match o.op with|.move _|.assign _|.load ..|.indexAddr ..=>true|_=>false){w w':World}{x:Next}(hr:(execOp ρ o).run P w=.ok x w'):w'=w/\∃v,x=.value v:=by
 refine⟨UK h w x w' hr,?_⟩
 have key:∀(s:Sem Value),(do let v<-s;pure (Next.value v):Sem Next).run P w=.ok x w'->∃v,x=.value v:=λs hs=>by
  rw[Sem.run_bind]at hs
  cases hq:s.run P w with
  |ok a w1=>rw[hq]at hs;cases hs;exact⟨_,rfl⟩
  |halt e w1=>rw[hq]at hs;cases hs
 unfold execOp at hr
 split at h<;>try cases h
 .rename_i x e;simp only[e]at hr;cases hr;exact⟨_,rfl⟩
 .rename_i x e;simp only[e]at hr;cases hr;exact⟨_,rfl⟩
 .rename_i t x e;simp only[e]at hr;exact key _ hr
 .rename_i t x ix e;simp only[e]at hr;exact key _ hr
end
section
variable{P:Program}{ops ops':Array Oper}{Q:Exit->Act->World->Prop}{m:Nat}
structure A2(ops ops':Array Oper):Prop where
 size:ops'.size=ops.size
 each:∀(i:Nat)(o:Oper),ops[i]?=some o->∃o',ops'[i]?=some o'/\o'.dst=o.dst/\o'.after=o.after/\o'.guard=none/\o.guard=none
def A2.ready(h:A2 ops ops')(l:Array Bool):Region.ready .any ops' l=Region.ready .any ops l:=by
 unfold Region.ready;rw[h.size]
 refine List.filter_congr λi hi=>?_
 have hi:=List.mem_range.1 hi;obtain⟨o',iJ,_,ha,_⟩:=h.each i _ (Array.getElem?_eq_getElem hi);rw[iJ,Array.getElem?_eq_getElem hi];simp only[Option.map_some,Option.getD_some,ha]
def BG (aY:A2 ops ops') (I:Array Bool→Act→World→Prop)
  (f_:∀(i:Nat)(o o':Oper)(l:Array Bool)(a:Act)(w:World),ops[i]?=some o->ops'[i]?=some o'->l.size=ops.size->l.getD i true=false->I l a w->(∀e∈o.after,Region.binds .any e=true->l.getD e.on false=true)->
   (o.semAt none a.eval).run P w=(o'.semAt none a.eval).run P w/\((∀a' w',I (l.setIfInBounds i true) a' w')\/
    ∀x w',(o.semAt none a.eval).run P w=.ok x w'->∃v,x=.value v/\I (l.setIfInBounds i true) (a.put o.dst v) w')):
  ∀(fuel:Nat)(l:Array Bool)(a:Act)(w:World),l.size=ops.size->I l a w->wpAnyIn (FR none) m P .any ops' Q fuel l a w->wpAnyIn (FR none) m P .any ops Q fuel l a w:=by
 intro fuel
 induction fuel with
 |zero=>
  intro l a w _ _ h;exact⟨(aY.ready l)▸h.1,h.2⟩
 |succ fuel ih=>
  intro l a w hl hI h;refine⟨λhr=>h.1 (by rw[aY.ready];exact hr),λi hi=>?_⟩;have h1:=h.2 i (by rw[aY.ready];exact hi);obtain⟨eI,o,ho,eD⟩:=mem_ready.1 hi;obtain⟨o',iJ,hd,ha,E8,hg⟩:=aY.each i o ho;obtain⟨he,hx⟩:=f_ i o o' l a w ho iJ hl eI hI eD
  have yH:(l.setIfInBounds i true).size=ops.size:=by simpa using hl
  have hw:Region.wanted o (yielded ops a.tmps)=true:=by simp[Region.wanted,hg]
  have GG:Region.wanted o' (yielded ops' a.tmps)=true:=by simp[Region.wanted,E8]
  simp only[wpOpIn,iJ,GG,if_true]at h1;simp only[wpOpIn,ho,hw,if_true]
  have hu:∀K r,o'.uponIn (FR none) m P a K Q r=o.uponIn (FR none) m P a K Q r:=λK r=>by unfold Oper.uponIn;rw[hd]
  have h2:o.wpIn (FR none) m P a w (wpAnyIn (FR none) m P .any ops' Q fuel (l.setIfInBounds i true)) Q:=by
   refine⟨λ_ _=>trivial,?_⟩;have h3:=h1.2;rw[hu]at h3
   change o.uponIn (FR none) m P a _ Q ((o'.semAt none a.eval).run P w)at h3
   change o.uponIn (FR none) m P a _ Q ((o.semAt none a.eval).run P w)
   rw[he];exact h3
  rcases hx with hx|hx
  .exact Oper.wpIn_mono (λa' w' hh=>ih _ _ _ yH (hx a' w') hh) h2
  .refine⟨h2.1,?_⟩;have h3:=h2.2
   change o.uponIn (FR none) m P a _ Q ((o.semAt none a.eval).run P w)at h3
   change o.uponIn (FR none) m P a _ Q ((o.semAt none a.eval).run P w)
   cases hr:(o.semAt none a.eval).run P w with
   |ok x w'=>
    rw[hr]at h3;obtain⟨v,rfl,hv⟩:=hx x w' hr;simp only[Oper.uponIn_value]at h3⊢;exact ih _ _ _ yH hv h3
   |halt x w'=>
    rw[hr]at h3
    cases x<;>exact h3
def vd(h:Nat->Op->Op)(ops:Array Oper):Array Oper:=ops.mapIdx λi o=>{ o with op:=h i o.op }
def xZ(h:Nat->Op->Op)(i:Nat):(vd h ops)[i]?=(ops[i]?).map λo=>{ o with op:=h i o.op }:=by
 simp[vd]
def Ex(h:Nat->Op->Op)(hg:ops.all (λo=>o.guard.isNone)=true):A2 ops (vd h ops):=by
 refine⟨by simp[vd],λi o ho=>⟨{ o with op:=h i o.op },by rw[xZ,ho];rfl,rfl,rfl,?_,?_⟩⟩
 all_goals
  have:=Array.all_eq_true'.1 hg o (Array.mem_of_getElem? ho);simpa using this
end
section
variable{P:Program}{GI:World->Prop}{n:Nat}{ops ops':Array Oper}{S:af}{H:ah}
def SW.U4 (hG:aw GI) (hm:P.follows .mixedOrders=true) {old:Old} {Q:fH} {id:Nat} (aY:A2 ops ops') (cT:ops'.all (fun o=>cW o.op)=true) (bB:KI P n ops' ops'.size ops'.size (List.range ops'.size)=true)
  {l:List bl} (hl:aO P n true ops'=l)
  (hI:∀(w0:World)(g:Gh)(a:Act)(w:World),g.old=old->Rel P w0 n bu g S H a w->∃I:Array Bool->Act->World->Prop,I (Array.replicate ops.size false) a { w with drawn:=w.drawn+1 }/\
   ∀(i:Nat)(o o':Oper)(l:Array Bool)(a:Act)(w:World),ops[i]?=some o->ops'[i]?=some o'->l.size=ops.size->l.getD i true=false->I l a w->(∀e∈o.after,Region.binds .any e=true->l.getD e.on false=true)->
    (o.semAt none a.eval).run P w=(o'.semAt none a.eval).run P w/\((∀a' w',I (l.setIfInBounds i true) a' w')\/
     ∀x w',(o.semAt none a.eval).run P w=.ok x w'->∃v,x=.value v/\I (l.setIfInBounds i true) (a.put o.dst v) w'))
  (h:dc P GI l (λS H=>Q .normal old S H) S H):SW P GI n none (.region id ops true) Q old S H:=by
 subst hl;intro w0 g a w m bP ho R;simp only[KI,Bool.and_eq_true,decide_eq_true_eq]at bB;obtain⟨⟨⟨⟨q1,q2⟩,q3⟩,q4⟩,q5⟩:=bB
 have dZ:∀j o d z,iv P n ops' j=some o->aU o=some (d,z)->False:=λj o d z hj hz=>by
  rw[<-eL]at hj;have:=List.all_eq_true.1 q3 o (List.mem_of_getElem? hj);unfold aU at hz;split at hz
  .rename_i h _;rw[h]at this;cases this
  .cases hz
 have R0:Rel P w0 n bu g S H a { w with drawn:=w.drawn+1 }:=R.kP ((Below.refl _ w).drew)
 have hU:UU P n ops' (Array.replicate ops'.size false)=bu:=by
  funext t
  simp only[UU,bu,eq_iff_iff,iff_false];rintro⟨j,o,z,k1,k2,_⟩;exact dZ j o t z k1 k2
 obtain⟨I,i0,f_⟩:=hI w0 g a w ho R;refine wpIn_region_any hm (BG aY I f_ ops.size _ a _ (by simp) i0 ?_);rw[<-aY.size];refine eX (Q:=QQ P w0 n old (Q.bD old)) (λ_ _ _ hq=>tq hq) _ _ _ _ (pX cT jQ _ _ _ _ (yV (Q:=Q.bD old) (old:=old) hG bP q2 (λo iq=>?_) ops'.size (Array.replicate ops'.size false) g S H a _ (by simp) ho (by rw[hU];exact R0) (λj o d z k1 k2 k3=>(dZ j o d z k1 k2).elim) ?_))
 .simp only[aO,List.all_map,List.all_eq_true,Function.comp]at q1;exact q1 o (by simpa using iq)
 .have:=uk (P:=P) (GI:=GI) (n:=n) (md:=.any) (ops:=ops') (QA:=Q.bD old .normal) (p:=ops'.size) (q:=ops'.size) (List.range ops'.size) (Array.replicate ops'.size false) S H q5 ?_
  .rw[q4]at this;exact this
  .have:=qD (P:=P) (GI:=GI) (al:=aO P n true ops') (p:=ops'.size) (q:=ops'.size) (K:=Q.bD old .normal) (r:=[]) (List.range ops'.size) (aO P n true ops') (by
    apply List.ext_getElem?;intro k
    by_cases hk:k<ops'.size
    .simp[hk,aO]
    .simp[hk,aO]) (λk hk=>by have:=List.mem_range.1 hk;omega) (S:=S) (H:=H) (lv (λS H h=>h) _ _ _ h)
   simpa using this
end
def Ea:AV->Value
 |.bool b=>.bool b
 |.int k n=>.int k n
 |_=>undef
def Kx:AV->Bool
 |.bool _|.int _ _=>true
 |_=>false
def RD.J1{Pr:Nat->Nat->Prop}{w:World}{v:AV}{c:Value}(h:RD Pr w v c)(hv:Kx v=true):c=Ea v:=by
 cases h<;>first|rfl|cases hv
def RD.Xl{Pr:Nat->Nat->Prop}{w:World}{v:AV}(hv:Kx v=true):RD Pr w v (Ea v):=by
 cases v<;>first|exact .bool _|exact .int _ _|cases hv
def Cz{v:AV}(hv:Kx v=true):v.one=true:=by cases v<;>first|rfl|cases hv
def mj(es:List AV):List Value:=(es.flatMap AV.cells).map Ea
def je(size:Nat)(es:List AV):Prop:=∀x∈es,x.storable=true/\x.cells.length=size/\∀c∈x.cells,Kx c=true
def je.elems{size:Nat}{es:List AV}(h:je size es):aF size es=true:=lV.2 λv hv=>⟨(h v hv).1,(h v hv).2.1⟩
def BX{size:Nat}:∀{es:List AV},je size es->(es.flatMap AV.cells).length=es.length*size
 |[],_=>by simp
 |x::es,h=>by
  rw[List.flatMap_cons,List.length_append,BX λy hy=>h y (List.mem_cons_of_mem _ hy),(h x List.mem_cons_self).2.1,List.length_cons,Nat.add_mul];omega
def qf{size:Nat}{es:List AV}(h:je size es):(mj es).length=es.length*size:=by
 rw[mj,List.length_map,BX h]
def Mg(es fs:List AV):mj (es++fs)=mj es++mj fs:=by simp[mj]
def flat_get{size:Nat}:∀{es:List AV},je size es->∀j (h:j<es.length) k (hk:k<(es[j]).cells.length),(es.flatMap AV.cells)[j*size+k]?=some (es[j]).cells[k]
 |[],_,_,h,_,_=>by simp at h
 |x::es,ho,0,h,k,hk=>by
  rw[List.flatMap_cons,Nat.zero_mul,Nat.zero_add];exact(List.getElem?_append_left hk).trans (List.getElem?_eq_getElem hk)
 |x::es,ho,j+1,h,k,hk=>by
  have hx:=(ho x List.mem_cons_self).2.1;rw[List.flatMap_cons,List.getElem?_append_right (by rw[hx,Nat.add_mul];omega),hx,show(j+1)*size+k-size=j*size+k by rw[Nat.add_mul];omega];exact flat_get (λy hy=>ho y (List.mem_cons_of_mem _ hy)) j (by simpa using h) k hk
def oy{size:Nat}{es:List AV}(ho:je size es){j:Nat}(h:j<es.length){k:Nat}(hk:k<(es[j]).cells.length):(mj es)[j*size+k]?=some (Ea (es[j]).cells[k]):=by
 rw[mj,List.getElem?_map,flat_get ho j h k hk];rfl
def je.flat{size:Nat}{es:List AV}(ho:je size es)(Pr:Nat->Nat->Prop)(w:World):iP Pr w size es (mj es):=
 ⟨λx hx=>⟨(ho x hx).2.1,(ho x hx).1,λc hc=>Cz ((ho x hx).2.2 c hc)⟩,λj h k hk=>⟨_,oy ho h hk,RD.Xl ((ho _ (List.getElem_mem h)).2.2 _ (List.getElem_mem hk))⟩⟩
def je.app{size:Nat}{es fs:List AV}(h:je size es)(h':je size fs):je size (es++fs):=λx hx=>by
 rcases List.mem_append.1 hx with hx|hx
 .exact h x hx
 .exact h' x hx
structure KO(cc:Nat->Nat->Prop)(e:TypeId)(size:Nat)(es:List AV)(o:Old)(v:Value):Prop where
 c:o.c=cc
 ds:o.ds=[]
 bx:∀d,¬o.bx d
 ok:je size es
 row:((∃a0,v=.slice a0 0 0)/\es=[])\/∃b cap cur,v=.slice (some ⟨b,0,none⟩) es.length cap/\o.keep b=some (.cells cur e (0,0))/\es.length<=cap/\cap<=maxLen/\cur.size=cap*size/\cur.toList.take (es.length*size)=mj es
section
variable{P:Program}{GI:World->Prop}{w0:World}{n:Nat}{g:Gh}{S:af}{H:ah}{a:Act}{w:World}{cc:Nat->Nat->Prop}{e:TypeId}{size:Nat}{es:List AV}{v:Value}
def Rel.C6 (R:Rel P w0 n bu g S H a w) {b:Nat} (hf:ss g b) {o:Obj} (ho:w.heap[b]? = some o) :
  Rel P w0 n bu { g with old:={ g.old with keep:=aq g.old.keep b (some o) } } S H a w:=by
 refine{ size:=R.size,defers:=R.defers,facts:=R.facts,slot:=R.slot,own:=λt ht hu=>(R.own t ht hu).keep rfl λb hb=>⟨rfl,rfl,hb⟩,box:=?_,iB:=R.iB,ij:=R.ij,inj:=R.inj,base:=R.base,below:=R.below,fresh:=R.fresh,still:=R.still,grown:=R.grown,kept:=?_ }
 .intro i c hi;obtain⟨cs,vs,ty,h1,h2,h3,h4,h5,h6,h7,h8,h9⟩:=R.box i c hi;exact⟨cs,vs,ty,h1,h2,h3,h4,h5,h6,h7,λj hj c_=>(h8 j hj c_).keep rfl λb hb=>⟨rfl,rfl,hb⟩,h9⟩
 .intro c ob h
  by_cases fW:c=b
  .subst fW
   have:ob=o:=by simpa[aq]using h.symm
   subst this;exact⟨hf.1,ho,hf.2.1,hf.2.2.1,hf.2.2.2⟩
  .exact R.kept c ob (by simpa[aq,fW]using h)
def Rel.LR (R:Rel P w0 n bu g S H a w) {b:Nat} {o:Obj} (hk:g.old.keep b=some o) :
  Rel P w0 n bu { g with old:={ g.old with keep:=aq g.old.keep b none } } S H a w/\ss { g with old:={ g.old with keep:=aq g.old.keep b none } } b/\w.heap[b]?=some o:=by
 obtain⟨k1,k2,k3,k4,k5⟩:=R.kept b o hk;refine⟨?_,⟨k1,k3,k4,k5⟩,k2⟩;refine{ size:=R.size,defers:=R.defers,facts:=R.facts,slot:=R.slot,own:=λt ht hu=>(R.own t ht hu).keep rfl λb hb=>⟨rfl,rfl,hb⟩,box:=?_,iB:=R.iB,ij:=R.ij,inj:=R.inj,base:=R.base,below:=R.below,fresh:=R.fresh,still:=R.still,grown:=R.grown,kept:=?_ }
 .intro i c hi;obtain⟨cs,vs,ty,h1,h2,h3,h4,h5,h6,h7,h8,h9⟩:=R.box i c hi;exact⟨cs,vs,ty,h1,h2,h3,h4,h5,h6,h7,λj hj c_=>(h8 j hj c_).keep rfl λb hb=>⟨rfl,rfl,hb⟩,h9⟩
 .intro c ob h
  have hc:c≠b:=by rintro rfl;simp[aq]at h
  exact R.kept c ob (by simpa[aq,hc]using h)
def Rel.As (R:Rel P w0 n bu g S H a w) (hp:g.old.c=cc∧g.old.ds=[]∧∀ d,¬ g.old.bx d) {w':World} (hb:Below w.heap.size w w') (bB:je size es) (cE:w'.ownsRow w.heap.size e size v es.length (mj es)) :
  ∃g',Rel P w0 n bu g' S H a w'/\KO cc e size es g'.old v:=by
 rcases cE.2 with⟨rfl,h0⟩|⟨b,cap,cur,rfl,ja,hg,h1,h2,h3,h4⟩
 .exact⟨g,R.kP hb,hp.1,hp.2.1,hp.2.2,bB,.inl ⟨⟨_,rfl⟩,List.eq_nil_of_length_eq_zero h0⟩⟩
 .exact⟨_,R.EE hb ja hg,hp.1,hp.2.1,hp.2.2,bB,.inr ⟨b,cap,cur,rfl,aJ _ _ _,h1,h2,h3,h4⟩⟩
def KO.append (R:Rel P w0 n bu g S H a w) {i:TypeInfo} (hK:KO cc e i.size es g.old v) {o:Oper} {cl:Call} {t:TypeId} {z:Value} {x1 x2:Operand} (ho:o.op = .call cl) (jr:cl.callee = .builtin .append) (yx:cl.args = #[x1,x2]) (zL:cl.argTypes = #[t,t])
  (eI:P.underlying t=some (.slice e)) (hi:P.info? e=some i) (hz:i.zero=some z) (pE:z.cells.size=i.size) (Sk:i.bytes<=65536) (hv:a.eval x1=v) {y2:cm} (kE:du n x2=some y2) {oo:Ow} {x:AV} (hS:ev S y2=.slice oo [x]) (hx:je i.size [x]) (hlen:es.length+1<=2097152):
  ∃v' w' g',(execOp a.eval o).run P w=.ok (.value v') w'/\Rel P w0 n bu g' S H a w'/\KO cc e i.size (es++[x]) g'.old v':=by
 have hle:g.base<=w.heap.size:=by rw[R.base];exact R.below.size
 have eJ:=R.ev kE (λ_ _=>id);rw[hS]at eJ
 have run:∀v' w',(Builtin.append_ #[t,t] o.type #[v,a.eval x2]).run P w=.ok v' w'->(execOp a.eval o).run P w=.ok (.value v') w':=by
  intro v' w' h;rw[<-hv]at h;unfold execOp;simp[ho,jr,yx,zL,resolve,invoke,builtin,h]
 have bytes:∀m,m<=2097152->m*i.bytes<=140737488355328:=λm hm=>Nat.le_trans (Nat.mul_le_mul hm Sk) (by decide)
 rcases(eJ.dA rfl).ku i.size hx.elems with⟨h0,_⟩|⟨b,off,cap,news,iI,hl,hn,h1,hr⟩
 .cases h0
 have qF:news=mj [x]:=by
  apply List.ext_getElem?;intro j
  by_cases hj:j<i.size
  .have Jo:([x][0]).cells.length=i.size:=(hx x (by simp)).2.1;obtain⟨u,u1,u2⟩:=hr 0 (by simp) j (by rw[Jo];exact hj);have e1:=oy hx (j:=0) (by simp) (k:=j) (by rw[Jo];exact hj);rw[Nat.zero_mul,Nat.zero_add]at u1 e1;rw[u1,e1,u2.J1 ((hx x (by simp)).2.2 _ (List.getElem_mem _))]
  .rw[List.getElem?_eq_none (by rw[hl];simp;omega),List.getElem?_eq_none (by rw[qf hx];simp;omega)]
 have yX:je i.size (es++[x]):=hK.ok.app hx
 have uw:(es++[x]).length=es.length+1:=by simp
 rcases hK.row with⟨⟨a0,rfl⟩,rfl⟩|⟨bk,X1,cur,ZX,hk,q1,q2,q3,q4⟩
 .obtain⟨v',w',r1,r2,r3,r4,r5⟩:=vT (P:=P) (w:=w) w.heap.size t o.type e i z eI hi hz pE a0 ⟨b,off,none⟩ 1 cap news (by rw[hl];rfl) (λj u hu=>by rw[Addr.add_lit];exact hn j u hu) (by omega) (by omega) (bytes _ (by omega)) (Nat.le_refl _);rw[qF]at r2;obtain⟨g',R',D7⟩:=R.As (es:=[x]) ⟨hK.c,hK.ds,hK.bx⟩ ⟨r4.os,r4.tape,r4.output,r4.size,λk hk=>r4.block k hk (by simp)⟩ hx r2;exact⟨v',w',g',run _ _ (by rw[iI];exact r1),R',D7⟩
 .have bQ:es≠[]\/es=[]:=(Decidable.em _).symm;obtain⟨k1,k2,k3,k4,k5⟩:=R.kept bk _ hk
  have cE:w.ownsRow g.base e i.size v es.length (mj es):=⟨qf hK.ok,.inr ⟨bk,X1,cur,ZX,k1,k2,q1,q2,q3,q4⟩⟩
  obtain⟨v',w',b',r1,r2,r3,r4⟩:=tH (P:=P) (w:=w) g.base t o.type e i z eI hi hz pE v es.length (mj es) bk cE (by rw[ZX];rfl) ⟨b,off,none⟩ 1 cap news (by rw[hl];rfl) (λj u hu=>by rw[Addr.add_lit];exact hn j u hu) h1 hlen (bytes _ hlen) hle;rw[qF,<-Mg]at r2
  have nw:∃y_ Ci,v'=.slice (some ⟨b',0,none⟩) (es++[x]).length y_/\w'.heap[b']?=some (.cells Ci e (0,0))/\(es++[x]).length<=y_/\y_<=maxLen/\Ci.size=y_*i.size/\Ci.toList.take ((es++[x]).length*i.size)=mj (es++[x]):=by
   rcases r2.2 with⟨_,h0⟩|⟨gg,cp,cu,rfl,_,m1,m2,m3,m4,m5⟩
   .omega
   .have:gg=b':=by simpa[Value.ownBlock]using r3
    subst this;rw[uw];exact⟨cp,cu,rfl,m1,m2,m3,m4,m5⟩
  obtain⟨y_,Ci,nL,fg,m2,m3,m4,m5⟩:=nw
  rcases r4 with⟨rfl,jF⟩|⟨rfl,jF,aI⟩
  .obtain⟨R1,hf,_⟩:=R.LR hk;have R2:=R1.eP (M:=λc=>c=b') (w':=w') ⟨jF.os,jF.tape,jF.output,jF.size,λk hk hm=>jF.block k hk (by simpa using hm)⟩ (λc hc=>by subst hc;exact hf) (λc hc=>by subst hc;exact aJ _ _ _);have R3:=R2.C6 hf fg;exact⟨v',w',_,run _ _ (by rw[iI];exact r1),R3,hK.c,hK.ds,hK.bx,yX,.inr ⟨b',y_,Ci,nL,aJ _ _ _,m2,m3,m4,m5⟩⟩
  .have R2:=R.EE (w':=w') ⟨jF.os,jF.tape,jF.output,jF.size,λk hk=>jF.block k hk (by simp)⟩ (Nat.le_refl _) fg;exact⟨v',w',_,run _ _ (by rw[iI];exact r1),R2,hK.c,hK.ds,hK.bx,yX,.inr ⟨w.heap.size,y_,Ci,nL,aJ _ _ _,m2,m3,m4,m5⟩⟩
def KO.cell (hK:KO cc e size es g.old v) (R:Rel P w0 n bu g S H a w) {j:Nat} (hj:j < es.length) :
  ∃b cap cur,v=.slice (some ⟨b,0,none⟩) es.length cap/\g.old.keep b=some (.cells cur e (0,0))/\w.heap[b]?=some (.cells cur e (0,0))/\∀k (hk:k<(es[j]).cells.length),j*size+k<cur.size/\cur[j*size+k]?=some (Ea (es[j]).cells[k]):=by
 rcases hK.row with⟨_,rfl⟩|⟨b,cap,cur,hv,hk,h1,h2,h3,h4⟩
 .simp at hj
 refine⟨b,cap,cur,hv,hk,(R.kept b _ hk).2.1,λk zc=>?_⟩;have hg:=oy hK.ok hj zc;rw[<-h4,List.getElem?_take]at hg;split at hg
 .have n9:cur[j*size+k]?=some (Ea (es[j]).cells[k]):=by rw[<-hg,Array.getElem?_toList]
  exact⟨(Array.getElem?_eq_some_iff.1 n9).1,n9⟩
 .cases hg
def KO.set (hK:KO cc e size es g.old v) {j k:Nat} (hj:j < es.length) (hk:k < (es[j]).cells.length) {x:AV} (hx:je size [x]) {u:AV} (hu:x.cells=(es[j]).cells.set k u) {b cap:Nat} {cur zJ:Array Value} (hv:v = .slice (some ⟨b,0,none⟩) es.length cap) (hkb:g.old.keep b=some (.cells cur e (0,0)))
  (aI:zJ.size=cur.size) (hc:∀m,zJ.getD m undef=if m=j*size+k then Ea u else cur.getD m undef):KO cc e size (es.set j x) { g.old with keep:=aq g.old.keep b (some (.cells zJ e (0,0))) } v:=by
 have bB:je size (es.set j x):=λy hy=>by
  rcases List.mem_or_eq_of_mem_set hy with h|h
  .exact hK.ok y h
  .subst h;exact hx y (by simp)
 refine⟨hK.c,hK.ds,hK.bx,bB,.inr ⟨b,cap,zJ,by rw[List.length_set];exact hv,aJ _ _ _,?_⟩⟩;rw[List.length_set]
 rcases hK.row with⟨_,rfl⟩|⟨b2,aaE,aaw,eJ,lO,h1,h2,h3,h4⟩
 .simp at hj
 rw[hv]at eJ;cases eJ;rw[hkb]at lO;cases lO;refine⟨h1,h2,by rw[aI];exact h3,?_⟩
 have hle:es.length*size<=cur.size:=by rw[h3];exact Nat.mul_le_mul_right _ h1
 apply List.ext_getElem?;intro m
 by_cases hm:m<es.length*size
 case neg=>rw[List.getElem?_eq_none (by rw[List.length_take];omega),List.getElem?_eq_none (by rw[qf bB,List.length_set];omega)]
 have PQ:0<size:=by
  rcases Nat.eq_zero_or_pos size with h|h
  .rw[h,Nat.mul_zero]at hm;omega
  .exact h
 obtain⟨q,r,hr,rfl⟩:∃q r,r<size/\m=q*size+r:=⟨m/size,m % size,Nat.mod_lt _ PQ,by rw[Nat.mul_comm];exact(Nat.div_add_mod m size).symm⟩
 have hq:q<es.length:=by
  rcases Nat.lt_or_ge q es.length with h|h
  .exact h
  .have:=Nat.mul_le_mul_right size h;omega
 have Mc:q<(es.set j x).length:=by rw[List.length_set];exact hq
 have hlen:((es.set j x)[q]).cells.length=size:=(bB _ (List.getElem_mem Mc)).2.1;rw[oy bB Mc (by rw[hlen];exact hr),List.getElem?_take,if_pos hm,Array.getElem?_toList];have vA:=hc (q*size+r)
 have kd:q*size+r<zJ.size:=by rw[aI];omega
 have Ru:q*size+r<cur.size:=by omega
 rw[Array.getD_eq_getD_getElem?,Array.getElem?_eq_getElem kd,Option.getD_some,Array.getD_eq_getD_getElem?,Array.getElem?_eq_getElem Ru,Option.getD_some]at vA;rw[Array.getElem?_eq_getElem kd,vA]
 have hold:cur[q*size+r]?=some (Ea ((es[q]).cells[r]'(by rw[(hK.ok _ (List.getElem_mem hq)).2.1];exact hr))):=by
  have hg:=oy hK.ok hq (k:=r) (by rw[(hK.ok _ (List.getElem_mem hq)).2.1];exact hr);rw[<-h4,List.getElem?_take,if_pos hm,Array.getElem?_toList]at hg;exact hg
 rw[Array.getElem?_eq_getElem Ru]at hold;have hold:=Option.some.inj hold
 by_cases Y7:q=j
 .subst Y7
  have LZ:(es.set q x)[q]=x:=by simp
  by_cases hrk:r=k
  .subst hrk;rw[if_pos rfl];simp only[LZ,hu,List.getElem_set_self]
  .rw[if_neg (by omega)];simp only[LZ,hu];rw[List.getElem_set_ne (by omega),hold]
 .have LZ:(es.set j x)[q]=es[q]:=List.getElem_set_ne (by omega) _;rw[if_neg,hold]
  .simp only[LZ]
  .intro h
   have eK:k<size:=by rw[<-(hK.ok _ (List.getElem_mem hj)).2.1];exact hk
   apply Y7;have:=congrArg (·/size) h;simp only[Nat.mul_comm _ size,Nat.mul_add_div PQ,Nat.div_eq_of_lt hr,Nat.div_eq_of_lt eK]at this;simpa using this
def B5{a:Act}{t:Nat}{c:Value}(ht:t<a.tmps.size)(h:a.tmps.getD t undef=c):a.put (some t) c=a:=by
 cases a;simp only[Act.put,Act.mk.injEq,and_true]at h ht⊢;apply Array.ext
 .simp
 .intro i h1 h2;rw[Array.getElem_setIfInBounds];split
  .rename_i hi;subst hi;rw[<-h];simp[Array.getD_eq_getD_getElem?,h2]
  .rfl
def KO.done (hK:KO cc e size es g.old v) (R:Rel P w0 n bu g S H a w) {t:Nat} (ht:t < n) (hS:S t = .val v) :
  ∃g',Rel P w0 n bu g' (aq S t (.slice .view es)) H a w/\g'.old.c=cc/\g'.old.ds=[]/\∀d,¬g'.old.bx d:=by
 have hv:a.tmps.getD t undef=v:=by
  have:=R.slot t ht id;rw[hS]at this;exact this.gp
 have zf:∀{c},a.tmps.getD t undef=c->a.put (some t) c=a:=λh=>B5 (by rw[R.size];exact ht) h
 rcases hK.row with⟨⟨a0,rfl⟩,rfl⟩|⟨b,cap,cur,eJ,hk,h1,h2,h3,h4⟩
 .have df:RD g.Pr w (.slice .view []) (.slice a0 0 0):=by
   cases a0 with
   |none=>exact .gy _
   |some b=>exact .iF _ _
  have R2:=R.put t (.slice .view []) _ ht (.data _ _ df) trivial;rw[zf hv]at R2;exact⟨g,R2,hK.c,hK.ds,hK.bx⟩
 .obtain⟨k1,k2,_⟩:=R.kept b _ hk;obtain⟨g',q1,q2,R1,q3,q4⟩:=R.hand hk (es.length*size)
  have df:RD g'.Pr w (.slice .view es) v:=by
   refine RD.ofRow (base:=g.base) ⟨qf hK.ok,.inr ⟨b,cap,cur,eJ,k1,k2,h1,h2,h3,h4⟩⟩ (hK.ok.flat _ _) λb' fg k zc=>?_
   have:b=b':=by rw[eJ]at fg;simpa[Value.ownBlock]using fg
   subst this;exact q4 k zc
  have R2:=R1.put t (.slice .view es) v ht (.data _ _ df) trivial;rw[zf hv]at R2;exact⟨g',R2,by rw[q1];exact hK.c,by rw[q1];exact hK.ds,by rw[q1];exact hK.bx⟩
def KO.start(R:Rel P w0 n bu g S H a w)(hp:g.old.c=cc/\g.old.ds=[]/\∀d,¬g.old.bx d){t:Nat}(ht:t<n)(hS:S t=.slice .nil []):∃v,Rel P w0 n bu g (aq S t (.val v)) H a w/\KO cc e size [] g.old v:=by
 obtain⟨ad,hc⟩:∃ad,a.tmps.getD t undef=.slice ad 0 0:=by
  have hq:=R.slot t ht id;rw[hS]at hq;have hq:=hq.dA rfl;generalize a.tmps.getD t undef=c at hq
  cases hq with
  |gy=>exact⟨_,rfl⟩
  |iF=>exact⟨_,rfl⟩
  |slice _ _ b off cap size cs dX p_=>rw[p_ rfl];exact⟨_,rfl⟩
 have R2:=R.put t (.val (.slice ad 0 0)) (.slice ad 0 0) ht (.data _ _ (.val _ rfl)) trivial;rw[B5 (by rw[R.size];exact ht) hc]at R2;exact⟨_,R2,hp.1,hp.2.1,hp.2.2,(λx hx=>by cases hx),.inl ⟨⟨_,rfl⟩,rfl⟩⟩
end
section
variable{P:Program}{GI:World->Prop}{w0:World}{n:Nat}{g:Gh}{S:af}{H:ah}{a:Act}{w:World}{cc:Nat->Nat->Prop}{e:TypeId}{size:Nat}{es:List AV}{v:Value}
def Rel.Q6 (R:Rel P w0 n bu g S H a w) {t u:Nat} (ht:t < n) (hu:u < n) (bQ:t≠u) (hS:S t = .slice (.own e) es) (hv:a.tmps.getD u undef=a.tmps.getD t undef) :
  ∃g',g'.old=g.old/\Rel P w0 n bu g' (aq (aq S t (.slice .view es)) u (.slice (.own e) es)) H a w:=by
 let g':Gh:={ g with owner:=λb=>if g.owner b=some (.slot t)then some (.slot u)else if g.owner b=some (.slot u)then none else g.owner b }
 have oJ:g'.Pr=g.Pr:=rfl
 have cE:∀b loc,loc≠.slot t->loc≠.slot u->g.owner b=some loc->g'.owner b=some loc:=by
  intro b loc h1 h2 h;show(if g.owner b=some (.slot t)then _ else if g.owner b=some (.slot u)then none else g.owner b)=_;rw[h,if_neg (by simpa using h1),if_neg (by simpa using h2)]
 have IU:∀b,g.owner b=none->g'.owner b=none:=by
  intro b h;show(if g.owner b=some (.slot t)then _ else if g.owner b=some (.slot u)then none else g.owner b)=_;rw[h];simp
 have Oi:∀{loc:Loc}{v:AV}{c:Value},loc≠.slot t->loc≠.slot u->dD P w g loc v c->dD P w g' loc v c:=λh1 h2 h=>h.keep rfl λb hb=>⟨rfl,rfl,cE b _ h1 h2 hb⟩
 have eZ:=R.slot t ht id;have WB:=R.own t ht id;rw[hS]at eZ WB;refine⟨g',rfl,{ size:=R.size,defers:=R.defers,facts:=R.facts,slot:=?_,own:=?_,box:=?_,iB:=R.iB,ij:=R.ij,inj:=R.inj,base:=R.base,below:=R.below,fresh:=λb hb=>⟨(R.fresh b hb).1,IU b (R.fresh b hb).2⟩,still:=R.still,grown:=R.grown,kept:=λb o h=>let⟨k1,k2,k3,k4,k5⟩:=R.kept b o h;⟨k1,k2,k3,IU b k4,k5⟩ }⟩
 .intro x hx _;show RV g.Pr g.al w _ _
  by_cases L5:x=u
  .subst L5;rw[aJ,hv];exact eZ
  .rw[aG _ _ L5]
   by_cases Lx:x=t
   .subst Lx;rw[aJ];exact .data _ _ (eZ.dA rfl).aA
   .rw[aG _ _ Lx];exact R.slot x hx id
 .intro x hx _
  by_cases L5:x=u
  .subst L5;rw[aJ,hv];obtain⟨i,xs,b,k1,k2,k3,k4,k5⟩:=WB;refine⟨i,xs,b,k1,k2,k3,?_,k5⟩;show(if g.owner b=some (.slot t)then _ else _)=_;rw[if_pos k4]
  .rw[aG _ _ L5]
   by_cases Lx:x=t
   .subst Lx;rw[aJ];trivial
   .rw[aG _ _ Lx];exact Oi (by simpa using Lx) (by simpa using L5) (R.own x hx id)
 .intro i b hi;obtain⟨cs,vs,ty,h1,h2,h3,h4,h5,h6,h7,h8,h9⟩:=R.box i b hi;exact⟨cs,vs,ty,h1,h2,h3,h4,IU b h5,h6,h7,λj hj c_=>Oi (by simp) (by simp) (h8 j hj c_),h9⟩
def Bg (R:Rel P w0 n bu g S H a w) (hp:g.old.c=cc∧g.old.ds=[]∧∀ d,¬ g.old.bx d) {i:TypeInfo} (hi:P.info? e=some i) {old:Nat→Nat→Prop} {en:Ending} {w':World} (bB:je i.size es) (h:Ends P old w (.ret (.slice (.own e) es)) en w') :
  ∃v g',en=.returned v/\Rel P w0 n bu g' S H a w'/\KO cc e i.size es g'.old v:=by
 obtain⟨hb,ck,_,c,rfl,hv,i',xs,b,k1,k2,k3,_⟩:=h;rw[hi]at k1;cases k1
 have hf:=iP.Nn (hv.dA rfl) k2 (λx hx=>⟨(bB x hx).2.1,(bB x hx).1,λc hc=>Cz ((bB x hx).2.2 c hc)⟩) (λx hx c hc=>by
  have:=(bB x hx).2.2 c hc
  cases c<;>first|rfl|cases this)
 have iC:xs=mj es:=by
  apply List.ext_getElem?;intro m
  by_cases hm:m<es.length*i.size
  case neg=>rw[List.getElem?_eq_none (by rw[k2.1];omega),List.getElem?_eq_none (by rw[qf bB];omega)]
  have PQ:0<i.size:=by
   rcases Nat.eq_zero_or_pos i.size with h|h
   .rw[h,Nat.mul_zero]at hm;omega
   .exact h
  obtain⟨q,r,hr,rfl⟩:∃q r,r<i.size/\m=q*i.size+r:=⟨m/i.size,m % i.size,Nat.mod_lt _ PQ,by rw[Nat.mul_comm];exact(Nat.div_add_mod m i.size).symm⟩
  have hq:q<es.length:=by
   rcases Nat.lt_or_ge q es.length with h|h
   .exact h
   .have:=Nat.mul_le_mul_right i.size h;omega
  have hl:=(bB _ (List.getElem_mem hq)).2.1;obtain⟨u,u1,u2⟩:=hf.2 q hq r (by rw[hl];exact hr);rw[u1,oy bB hq (by rw[hl];exact hr),u2.J1 ((bB _ (List.getElem_mem hq)).2.2 _ (List.getElem_mem _))]
 rw[iC]at k2;obtain⟨g',R',hK⟩:=R.As hp hb bB k2;exact⟨c,g',rfl,R',hK⟩
end
section
variable{P:Program}{w0:World}{n:Nat}{g:Gh}{S:af}{H:ah}{a:Act}{w:World}{cc:Nat->Nat->Prop}{e:TypeId}
def KO.make(R:Rel P w0 n bu g S H a w)(hp:g.old.c=cc/\g.old.ds=[]/\∀d,¬g.old.bx d){m:Nat}(hm:m<=1000):∃g',Rel P w0 n bu g' S H a (w.alloc (.cells (madeCells #[.int .i64 0] m) e))/\KO cc e 1 (List.replicate m (.int .i64 0)) g'.old (.slice (some ⟨w.heap.size,0,none⟩) m m):=by
 refine R.As hp (Below.alloc (Below.refl _ _) (Nat.le_refl _) _) (λx hx=>?_) ⟨?_,.inr ⟨w.heap.size,m,madeCells #[.int .i64 0] m,by simp,Nat.le_refl _,(by show(w.heap.push _)[w.heap.size]?=_;simp),by simp,by simp[maxLen];omega,by simp[size_madeCells],?_⟩⟩
 .rw[List.mem_replicate]at hx;rw[hx.2];exact⟨rfl,rfl,λc hc=>by simp[AV.cells]at hc;subst hc;rfl⟩
 .simp[mj,AV.cells]
 .have hc:(madeCells #[Value.int .i64 0] m).toList=List.replicate m (.int .i64 0):=by
   apply List.ext_getElem
   .simp[size_madeCells]
   .intro j h1 h2;simp[madeCells,Nat.mod_one]
  have hr:∀k,mj (List.replicate k (AV.int .i64 0))=List.replicate k (.int .i64 0):=by
   intro k
   induction k with
   |zero=>rfl
   |succ k ih=>rw[List.replicate_succ,List.replicate_succ,<-ih];rfl
  rw[hc,hr,List.length_replicate,Nat.mul_one,List.take_of_length_le (by simp)]
end
end Go.AL
