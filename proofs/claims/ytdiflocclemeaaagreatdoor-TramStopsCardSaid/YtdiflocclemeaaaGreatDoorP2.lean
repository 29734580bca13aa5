/- A part of the proof. -/
import Derived.Test.YtdiflocclemeaaaGreatDoorP1
import Derived.Test.YtdiflocclemeaaaGreatDoorProg
set_option maxRecDepth 100000
set_option maxHeartbeats 8000000
set_option linter.all false
namespace Go.AL
open Go.RowKit
def FR(ro:Option Nat):Fence:={ Fence.wide with round:=ro }
def ig{ro:Option Nat}{m:Nat}{P:Program}{f:FuncId}{args:Array Value}{w:World}{R:Ending->World->Prop}:CallsIn (FR ro) m P f args w R↔Calls P f args w R:=
 callsIn_wide (n:=m)
def My{ro:Option Nat}{m:Nat}{P:Program}{row:String}{args:Array Value}{w:World}{R:Value->World->Prop}(h:Rows P row args w R):RowsIn (FR ro) m P row args w R:=
 λc cs _=>let⟨v,w',r,s⟩:=h c cs;⟨v,w',r,stepsIn_wide.2 s⟩
def fE{m:Nat}{P:Program}{c:Code}{Q:Exit->Act->World->Prop}{a:Act}{w:World}:c.wpIn (FR none) m P Q a w↔c.wp P Q a w:=wpIn_wide (n:=m)
def eB:Op->Bool
 |.defer _=>false
 |_=>true
section
variable{P:Program}{Q:Exit->Act->World->Prop}{ro:Option Nat}{m:Nat}
def BC{o:Oper}{a:Act}{w:World}{K:Act->World->Prop}(dF:eB o.op=true)(h:o.wp P a w K Q):o.wpIn (FR ro) m P a w K Q:=by
 refine⟨λ_ _=>trivial,?_⟩;unfold Oper.wp at h;rw[adW _ _ _ (λc hc=>by rw[hc]at dF;cases dF)]
 generalize(execOp a.eval o).run P w=r at*
 have hd:(FR ro).depth.isSome=true->1<=m:=λh=>by simp[FR,Fence.wide]at h
 cases r with
 |ok x w'=>
  cases x<;>simp only[Oper.upon,Oper.uponIn]at h⊢<;>first
   |exact h
   |exact⟨hd,ig.2 h⟩
   |exact⟨hd,My h⟩
 |halt x w'=>cases x<;>simp only[Oper.upon,Oper.uponIn]at h⊢<;>exact h
def oD{ops:Array Oper}(dF:ops.all (λo=>eB o.op)=true)(hQ:¬LetsOut Q):∀(l:List Nat)(a:Act)(w:World),wpOps P ops Q l a w->wpOpsIn (FR ro) m P ops Q l a w
 |[],_,_,h=>h
 |i::l,a,w,h=>by
  simp only[wpOps,wpOpsIn]at h⊢
  cases ho:ops[i]? with
  |none=>simp only[ho]at h⊢;exact oD dF hQ l a w h
  |some o=>
   simp only[ho]at h⊢
   have hc:eB o.op=true:=by
    have:=ads.1 dF o (adz ho);exact this
   split
   .rename_i hw;simp only[hw,ac3]at h
    rcases h with h|⟨_,h⟩
    .exact BC hc (Oper.wp_mono (λa w hh=>oD dF hQ l a w hh) h)
    .exact absurd h hQ
   .rename_i hw;simp only[hw,acI,acW]at h;exact⟨λ_ _=>trivial,oD dF hQ l _ w h⟩
def RZ{ops:Array Oper}(dF:ops.all (λo=>eB o.op)=true)(hQ:¬LetsOut Q){i:Nat}{K:Act->World->Prop}{a:Act}{w:World}(h:wpOp P ops Q i K a w):wpOpIn (FR ro) m P ops Q i K a w:=by
 unfold wpOp at h;unfold wpOpIn
 cases ho:ops[i]? with
 |none=>simp only[ho]at h⊢;exact h
 |some o=>
  simp only[ho]at h⊢
  have hc:eB o.op=true:=by
   have:=ads.1 dF o (adz ho);exact this
  split
  .rename_i hw;simp only[hw,ac3]at h
   rcases h with h|⟨_,h⟩
   .exact BC hc h
   .exact absurd h hQ
  .rename_i hw;simp only[hw,acI,acW]at h;exact⟨λ_ _=>trivial,h⟩
def xY{ops:Array Oper}{md:Region.Mode}(dF:ops.all (λo=>eB o.op)=true)(hQ:¬LetsOut Q):∀(fuel:Nat)(listed:Array Bool)(a:Act)(w:World),wpAny P md ops Q fuel listed a w->wpAnyIn (FR ro) m P md ops Q fuel listed a w
 |0,_,_,_,h=>h
 |fuel+1,listed,a,w,h=>⟨h.1,λi hi=>wpOpIn_mono (λa w hh=>xY dF hQ fuel _ a w hh) (RZ dF hQ (h.2 i hi))⟩
def iB:Code->Bool
 |.region _ ops _=>ops.all λo=>eB o.op
 |.seq x y|.cond _ x y=>iB x&&iB y
 |.block _ c|.loop c=>iB c
 |_=>true
end
section
variable{P:Program}{GI:World->Prop}{w0:World}{n:Nat}{g:Gh}{S:an}{H:aq}{a:Act}{w:World}{ro:Option Nat}{m:Nat}
def qH{old:Old}{Q:cw->an->aq->Prop}:¬LetsOut (QQ P w0 n old Q):=λ⟨_,_,h⟩=>h
def pS (hG:aw GI) (cj:GI w0) {old:Old} {ops:Array Oper} {Q:cw→an→aq→Prop} (dF:ops.all (fun o=>eB o.op)=true) (b_:(br P n false ops).all (·.ok n)=true) (cg:∀ o∈br P n false ops,∀ d∈o.jb,¬ old.bx d) (ho:g.old=old) (R:Rel P w0 n bz g S H a w)
  (h:bw P GI (br P n false ops) (Q .normal) (λv=>Q (.panic v) S H) S H):wpOpsIn (FR ro) m P ops (QQ P w0 n old Q) (List.range ops.size) a w:=by
 refine oD dF qH _ _ _ (qJ hG cj (S0:=S) (H0:=H) (List.range ops.size) ops.toList g S H a w ?_ (λo kT=>?_) (λo kT=>cg _ (afH kT)) ho R h)
 .apply adP;intro i;simp only[ac1]
  by_cases hi:i<ops.size
  .simp[hi]
  .simp[hi]
 .simp only[br,aeu,acN,Function.comp]at b_;exact b_ o kT
def EV (hG:aw GI) (cj:GI w0) {old:Old} {id:Nat} {ops:Array Oper} {Q:cw→an→aq→Prop} (dF:ops.all (fun o=>eB o.op)=true) (b_:(br P n false ops).all (·.ok n)=true) (cg:∀ o∈br P n false ops,∀ d∈o.jb,¬ old.bx d) (ho:g.old=old) (R:Rel P w0 n bz g S H a w)
  (h:bw P GI (br P n false ops) (Q .normal) (λv=>Q (.panic v) S H) S H):(Code.region id ops false).wpIn (FR ro) m P (QQ P w0 n old Q) a w:=
 ac6 (pS hG cj dF b_ cg ho R h)
def mq (hG:aw GI) (cj:GI w0) (hm:P.follows .mixedOrders=true) {old:Old} {ops:Array Oper} {Q:cw→an→aq→Prop} (dF:ops.all (fun o=>eB o.op)=true) (b_:Lx P n ops=true) (cg:∀ o∈br P n true ops,∀ d∈o.jb,¬ old.bx d) (ho:g.old=old) (R:Rel P w0 n bz g S H a w)
  (h:cq P GI (br P n true ops) (Q .normal) (eo (br P n true ops) S) (dG (br P n true ops) H)):wpAnyIn (FR ro) m P .any ops (QQ P w0 n old Q) ops.size (Array.replicate ops.size false) a { w with drawn:=w.drawn+1 }:=by
 simp only[Lx,acA,acJ]at b_;obtain⟨⟨⟨h1,h2⟩,h3⟩,h4⟩:=b_;refine xY dF qH _ _ _ _ ?_;have R0:Rel P w0 n bz g S H a { w with drawn:=w.drawn+1 }:=R.jR ((adA _ w).drew)
 obtain⟨g',e1,e2,R'⟩:=Rel.eo (br P n true ops) R0 h3 (λd hd=>by
  simp only[cW,aeC,acE]at hd;obtain⟨o,kT,⟨d',z⟩,k1,rfl⟩:=hd;rw[ho];refine cg o kT d' ?_;unfold bt at k1;split at k1
  .rename_i h1 h2;cases k1;simp[bB.jb,h1,h2,dT.jb]
  .cases k1)
 have hU:UU P n ops (Array.replicate ops.size false)=(λt=>bz t\/t∈cW (br P n true ops)):=by
  funext t
  simp only[UU,bz,afX,afn,cW,aeC,acE]
  constructor
  .rintro⟨j,o,z,k1,k2,k3⟩;rw[<-ft]at k1;exact⟨o,adR k1,(t,z),k2,rfl⟩
  .rintro⟨o,ho,⟨d,z⟩,k1,rfl⟩;obtain⟨j,hj⟩:=age ho;refine⟨j,o,z,by rw[<-ft];exact hj,k1,?_⟩
   have:j<ops.size:=by
    have:=(acT.1 hj).1;simpa[br]using this
   simp[this]
 refine GO hG cj h2 (λo kT=>?_) ops.size (Array.replicate ops.size false) g' _ _ a _ (by simp) (e2.trans ho) (by rw[hU];exact R') (λj o d z k1 k2 k3=>?_) ?_
 .simp only[br,aeu,acN,Function.comp]at h1;exact h1 o (by simpa using kT)
 .rw[<-ft]at k1;exact wD _ S H h3 o (adR k1) d z k2
 .have:=yD (QA:=Q .normal) ops.toList 0 (Array.replicate ops.size false) _ _ (by simp) (by simpa using h4) h;simpa using this
def Dk (hG:aw GI) (cj:GI w0) (hm:P.follows .mixedOrders=true) {old:Old} {id:Nat} {ops:Array Oper} {Q:cw→an→aq→Prop} (dF:ops.all (fun o=>eB o.op)=true) (b_:Lx P n ops=true) (cg:∀ o∈br P n true ops,∀ d∈o.jb,¬ old.bx d) (ho:g.old=old) (R:Rel P w0 n bz g S H a w)
  (h:cq P GI (br P n true ops) (Q .normal) (eo (br P n true ops) S) (dG (br P n true ops) H)):(Code.region id ops true).wpIn (FR ro) m P (QQ P w0 n old Q) a w:=
 aex hm (mq hG cj hm dF b_ cg ho R h)
abbrev ij:=cw->Old->an->aq->Prop
def QS(P:Program)(w0:World)(n:Nat)(Q:ij):Exit->Act->World->Prop
 |.normal,a,w=>∃g S H,Rel P w0 n bz g S H a w/\Q .normal g.old S H
 |.exit id,a,w=>∃g S H,Rel P w0 n bz g S H a w/\Q (.exit id) g.old S H
 |.ret,a,w=>∃g S H,Rel P w0 n bz g S H a w/\Q .ret g.old S H
 |.panic chain,a,w=>∃(o:Old)(v:AV)(c:Value)(hi:Nat->Nat)(S:an)(H:aq),a.defers=o.ds/\chain=[{ v:=c,recovered:=false }]/\Below w0.heap.size w0 w/\(∀b,w.heap.size<=b->hi b=0)/\RD (nZ w0.heap.size o.c hi) w v c/\Q (.panic v) o S H
 |_,_,_=>False
def SW(P:Program)(GI:World->Prop)(n:Nat)(ro:Option Nat)(c:Code)(Q:ij)(old:Old)(S:an)(H:aq):Prop:=
 ∀(w0:World)(g:Gh)(a:Act)(w:World)(m:Nat),GI w0->g.old=old->Rel P w0 n bz g S H a w->c.wpIn (FR ro) m P (QS P w0 n Q) a w
def thenS(K:Old->an->aq->Prop)(Q:ij):ij
 |.normal=>K
 |e=>Q e
def Na(id:Nat)(Q:ij):ij
 |.exit j=>if j=id then Q .normal else Q (.exit j)
 |e=>Q e
variable{old:Old}{Q Q':ij}
def QS.mono(h:∀e o S H,Q e o S H->Q' e o S H){e:Exit}{a:Act}{w:World}(hq:QS P w0 n Q e a w):QS P w0 n Q' e a w:=by
 cases e<;>simp only[QS]at hq⊢
 case normal=>obtain⟨g,S,H,h2,h3⟩:=hq;exact⟨g,S,H,h2,h _ _ _ _ h3⟩
 case exit=>obtain⟨g,S,H,h2,h3⟩:=hq;exact⟨g,S,H,h2,h _ _ _ _ h3⟩
 case ret=>obtain⟨g,S,H,h2,h3⟩:=hq;exact⟨g,S,H,h2,h _ _ _ _ h3⟩
 case panic=>obtain⟨o,v,c,hi,S,H,h1,h2,h3,h4,h5,h6⟩:=hq;exact⟨o,v,c,hi,S,H,h1,h2,h3,h4,h5,h _ _ _ _ h6⟩
def SW.mono{c:Code}(h:∀e o S H,Q e o S H->Q' e o S H)(hs:SW P GI n ro c Q old S H):SW P GI n ro c Q' old S H:=
 λw0 g a w m hG ho R=>aeA (hs w0 g a w m hG ho R) λ_ _ _ hq=>QS.mono h hq
def SW.seq{x y:Code}(hx:SW P GI n ro x (thenS (SW P GI n ro y Q) Q) old S H):SW P GI n ro (.seq x y) Q old S H:=by
 intro w0 g a w m hG ho R;refine acO (aeA (hx w0 g a w m hG ho R) ?_);intro e a' w' he
 cases e with
 |normal=>
  obtain⟨g',S',H',h2,h3⟩:=he;exact h3 w0 g' a' w' m hG rfl h2
 |exit id=>exact he
 |ret=>exact he
 |panic ch=>exact he
 |goto l=>exact he.elim
 |outgrown=>exact he.elim
def SW.block{id:Nat}{c:Code}(hc:SW P GI n ro c (Na id Q) old S H):SW P GI n ro (.block id c) Q old S H:=by
 intro w0 g a w m hG ho R;refine ad1 (aeA (hc w0 g a w m hG ho R) ?_);intro e a' w' he
 cases e with
 |normal=>exact he
 |exit j=>
  obtain⟨g',S',H',h2,h3⟩:=he;simp only[Na]at h3;simp only[Exit.inBlock];split
  .rename_i hj;rw[if_pos hj]at h3;exact⟨g',S',H',h2,h3⟩
  .rename_i hj;rw[if_neg hj]at h3;exact⟨g',S',H',h2,h3⟩
 |ret=>exact he
 |panic ch=>exact he
 |goto l=>exact he.elim
 |outgrown=>exact he.elim
def SW.cond{c:Operand}{c':cz}{x y:Code}(hc:c_ n c=some c')(b:Bool)(hb:ev S c'=.bool b)(h:SW P GI n ro (if b then x else y) Q old S H):SW P GI n ro (.cond c x y) Q old S H:=by
 intro w0 g a w m hG ho R;have hv:=R.ev hc (λ_ _=>id);rw[hb]at hv
 have:a.eval c=.bool b:=by
  generalize a.eval c=v at hv;cases hv;rename_i hv;cases hv;rfl
 exact adu this (h w0 g a w m hG ho R)
def SW.exit{id:Nat}(h:Q (.exit id) old S H):SW P GI n ro (.exit id) Q old S H:=
 λ_ g _ _ _ _ ho R=>aeY ⟨g,S,H,R,by rw[ho];exact h⟩
def SW.ret(h:Q .ret old S H):SW P GI n ro .ret Q old S H:=
 λ_ g _ _ _ _ ho R=>aeJ ⟨g,S,H,R,by rw[ho];exact h⟩
def SW.skip(h:Q .normal old S H):SW P GI n ro .skip Q old S H:=
 λ_ g _ _ _ _ ho R=>ad5 ⟨g,S,H,R,by rw[ho];exact h⟩
def SW.loop{c:Code}(I:Old->an->aq->Prop)(μ:an->aq->Nat)(h0:I old S H)(hr:∀o S H,I o S H->SW P GI n ro c (thenS (λo' S' H'=>I o' S' H'/\μ S' H'<μ S H) Q) o S H):SW P GI n ro (.loop c) Q old S H:=by
 intro w0 g a w m hG ho R;subst ho
 have key:∀ (k:Nat) (g:Gh) (S:an) (H:aq) (a:Act) (w:World),Rel P w0 n bz g S H a w→I g.old S H→μ S H=k→∀ (b:Frame) (kk:List Item) (cs:List Frame),b.roundOf=ro→(FR ro).room (cs.length+1+m) →
   ∃e a' w',QS P w0 n Q e a' w'/\ArrivesIn (Machine.fenced P (FR ro)) P (lone (b.atR a (.code c::.inLoop c::kk)) cs w) b kk cs e a' w':=by
  intro k
  induction k using Nat.strongRecOn with
  |_ k ih=>
   intro g S H a w R hI hk b kk cs uc gZ;obtain⟨e,i_,kF,hq,gu⟩:=hr g.old S H hI w0 g a w m hG rfl R b (.inLoop c::kk) cs uc trivial gZ
   cases e with
   |normal=>
    obtain⟨g',S',H',h2,h3,h4⟩:=hq;obtain⟨Bn,CK,BS,uR,pk⟩:=ih _ (by rw[<-hk];exact h4) g' S' H' i_ kF h2 h3 rfl b kk cs uc gZ;exact⟨Bn,CK,BS,uR,.of_steps (afN gu (.one (ae1 (F:=FR ro) (fr:=b.atR i_ (.inLoop c::kk)) trivial gZ rfl) agv)) pk⟩
   |exit id=>exact⟨.exit id,i_,kF,hq,.pass (x:=.inLoop c) rfl (λ_ _=>.inl (by simp)) gu⟩
   |goto l=>exact hq.elim
   |ret=>exact⟨.ret,i_,kF,hq,.pass (x:=.inLoop c) rfl (λ_ _=>.inl (by simp)) gu⟩
   |panic ch=>exact⟨.panic ch,i_,kF,hq,.pass (x:=.inLoop c) rfl (λ_ _=>.inl (by simp)) gu⟩
   |outgrown=>exact hq.elim
 intro b kk cs uc hF gZ;obtain⟨e,a',w',hq,gu⟩:=key _ g S H a w R h0 rfl b kk cs uc gZ;exact⟨e,a',w',hq,.of_steps (.one (ae1 (F:=FR ro) (fr:=b.atR a (.code (.loop c)::kk)) trivial gZ rfl) stepR_loop) gu⟩
def ij.bL(old:Old)(Q:ij):cw->an->aq->Prop
 |e,S,H=>Q e old S H
def EK{e:Exit}{a:Act}{w:World}(h:QQ P w0 n old (Q.bL old) e a w):QS P w0 n Q e a w:=by
 cases e<;>simp only[QQ,QS]at h⊢
 case normal=>obtain⟨g,S,H,h1,h2,h3⟩:=h;exact⟨g,S,H,h2,by rw[h1];exact h3⟩
 case exit=>obtain⟨g,S,H,h1,h2,h3⟩:=h;exact⟨g,S,H,h2,by rw[h1];exact h3⟩
 case ret=>obtain⟨g,S,H,h1,h2,h3⟩:=h;exact⟨g,S,H,h2,by rw[h1];exact h3⟩
 case panic=>obtain⟨h1,v,c,hi,S,H,h2,h3,h4,h5,h6⟩:=h;exact⟨old,v,c,hi,S,H,h1,h2,h3,h4,h5,h6⟩
def iu (hG:aw GI) (cj:GI w0) (hm:P.follows .mixedOrders=true) {old:Old} :
  ∀(c:Code)(Q:cw->an->aq->Prop)(g:Gh)(S:an)(H:aq)(a:Act)(w:World),iB c=true->(∀d∈(cC P n c).names,¬old.bx d)->g.old=old->Rel P w0 n bz g S H a w->bL P GI (cC P n c) Q S H->c.wpIn (FR ro) m P (QQ P w0 n old Q) a w
 |.skip,Q,g,S,H,a,w,_,cg,ho,R,h=>ad5 ⟨g,S,H,ho,R,h⟩
 |.region id ops draw,Q,g,S,H,a,w,dF,cg,ho,R,h=>by
  simp only[cC]at h cg
  cases draw with
  |true=>
   simp only[ac3]at h cg;split at h
   case isFalse=>exact h.elim
   rename_i b_;rw[if_pos b_]at cg;exact Dk hG cj hm dF b_ (λo kT d hd=>cg d (adh.2 ⟨o,kT,hd⟩)) ho R h
  |false=>
   simp only[acI,acW]at h cg;split at h
   case isFalse=>exact h.elim
   rename_i b_;rw[if_pos b_]at cg;exact EV hG cj dF b_ (λo kT d hd=>cg d (adh.2 ⟨o,kT,hd⟩)) ho R h
 |.seq x y,Q,g,S,H,a,w,dF,cg,ho,R,h=>by
  simp only[iB,acA]at dF;refine acO (aeA (iu hG cj hm x _ g S H a w dF.1 (λd hd=>cg d (by simp[cC,af.names,hd])) ho R h) ?_);intro e a' w' he
  cases e with
  |normal=>
   obtain⟨g',S',H',h1,h2,h3⟩:=he;exact iu hG cj hm y Q g' S' H' a' w' dF.2 (λd hd=>cg d (by simp[cC,af.names,hd])) h1 h2 h3
  |exit id=>exact he
  |ret=>exact he
  |panic ch=>exact he
  |goto l=>exact he.elim
  |outgrown=>exact he.elim
 |.cond c x y,Q,g,S,H,a,w,dF,cg,ho,R,h=>by
  simp only[iB,acA]at dF;simp only[cC]at h;split at h
  case h_2=>exact h.elim
  rename_i c' hc;simp only[cC,hc,af.names,acF]at cg;simp only[bL]at h;have hv:=R.ev hc (λ_ _=>id)
  have key:∀b,a.eval c=.bool b->(if b then x else y).wpIn (FR ro) m P (QQ P w0 n old Q) a w->(Code.cond c x y).wpIn (FR ro) m P (QQ P w0 n old Q) a w:=λb hb h=>adu hb h
  split at h
  .rename_i hb;rw[hb]at hv
   have:a.eval c=.bool true:=by
    generalize a.eval c=v at hv;cases hv;rename_i hv;cases hv;rfl
   exact key true this (iu hG cj hm x Q g S H a w dF.1 (λd hd=>cg d (.inl hd)) ho R h)
  .rename_i hb;rw[hb]at hv
   have:a.eval c=.bool false:=by
    generalize a.eval c=v at hv;cases hv;rename_i hv;cases hv;rfl
   exact key false this (iu hG cj hm y Q g S H a w dF.2 (λd hd=>cg d (.inr hd)) ho R h)
  .rename_i hb;rw[hb]at hv
   have:∃b,a.eval c=.bool b:=by
    generalize a.eval c=v at hv;cases hv;rename_i hv;cases hv;exact⟨_,rfl⟩
   obtain⟨b,hb⟩:=this
   cases b with
   |true=>exact key true hb (iu hG cj hm x Q g S H a w dF.1 (λd hd=>cg d (.inl hd)) ho R h.1)
   |false=>exact key false hb (iu hG cj hm y Q g S H a w dF.2 (λd hd=>cg d (.inr hd)) ho R h.2)
  .exact h.elim
 |.block id c,Q,g,S,H,a,w,dF,cg,ho,R,h=>by
  refine ad1 (aeA (iu hG cj hm c _ g S H a w dF (λd hd=>cg d (by simpa[cC,af.names]using hd)) ho R h) ?_);intro e a' w' he
  cases e with
  |normal=>exact he
  |exit j=>
   obtain⟨g',S',H',h1,h2,h3⟩:=he;simp only[dj]at h3;simp only[Exit.inBlock];split
   .rename_i hj;rw[if_pos hj]at h3;exact⟨g',S',H',h1,h2,h3⟩
   .rename_i hj;rw[if_neg hj]at h3;exact⟨g',S',H',h1,h2,h3⟩
  |ret=>exact he
  |panic ch=>exact he
  |goto l=>exact he.elim
  |outgrown=>exact he.elim
 |.loop c,Q,g,S,H,a,w,dF,cg,ho,R,h=>by
  obtain⟨I,μ,h0,hr⟩:=h
  have key:∀ (k:Nat) (g:Gh) (S:an) (H:aq) (a:Act) (w:World),g.old=old→Rel P w0 n bz g S H a w→I S H→μ S H=k→∀ (b:Frame) (kk:List Item) (cs:List Frame),b.roundOf=ro→(FR ro).room (cs.length+1+m) →
    ∃e a' w',QQ P w0 n old Q e a' w'/\ArrivesIn (Machine.fenced P (FR ro)) P (lone (b.atR a (.code c::.inLoop c::kk)) cs w) b kk cs e a' w':=by
   intro k
   induction k using Nat.strongRecOn with
   |_ k ih=>
    intro g S H a w ho R hI hk b kk cs uc gZ;obtain⟨e,i_,kF,hq,gu⟩:=iu hG cj hm c _ g S H a w dF (λd hd=>cg d (by simpa[cC,af.names]using hd)) ho R (hr S H hI) b (.inLoop c::kk) cs uc trivial gZ
    cases e with
    |normal=>
     obtain⟨g',S',H',h1,h2,h3,h4⟩:=hq;obtain⟨Bn,CK,BS,uR,pk⟩:=ih _ (by rw[<-hk];exact h4) g' S' H' i_ kF h1 h2 h3 rfl b kk cs uc gZ;exact⟨Bn,CK,BS,uR,.of_steps (afN gu (.one (ae1 (F:=FR ro) (fr:=b.atR i_ (.inLoop c::kk)) trivial gZ rfl) agv)) pk⟩
    |exit id=>exact⟨.exit id,i_,kF,hq,.pass (x:=.inLoop c) rfl (λ_ _=>.inl (by simp)) gu⟩
    |goto l=>exact hq.elim
    |ret=>exact⟨.ret,i_,kF,hq,.pass (x:=.inLoop c) rfl (λ_ _=>.inl (by simp)) gu⟩
    |panic ch=>exact⟨.panic ch,i_,kF,hq,.pass (x:=.inLoop c) rfl (λ_ _=>.inl (by simp)) gu⟩
    |outgrown=>exact hq.elim
  intro b kk cs uc hF gZ;obtain⟨e,a',w',hq,gu⟩:=key _ g S H a w ho R h0 rfl b kk cs uc gZ;exact⟨e,a',w',hq,.of_steps (.one (ae1 (F:=FR ro) (fr:=b.atR a (.code (.loop c)::kk)) trivial gZ rfl) stepR_loop) gu⟩
 |.exit id,Q,g,S,H,a,w,_,cg,ho,R,h=>aeY ⟨g,S,H,ho,R,h⟩
 |.ret,Q,g,S,H,a,w,_,cg,ho,R,h=>aeJ ⟨g,S,H,ho,R,h⟩
 |.rangeFunc ..,_,_,_,_,_,_,_,_,_,_,h=>h.elim
 |.scope _,_,_,_,_,_,_,_,_,_,_,h=>h.elim
 |.label _,_,_,_,_,_,_,_,_,_,_,h=>h.elim
 |.goto _,_,_,_,_,_,_,_,_,_,_,h=>h.elim
 |.refuse _,_,_,_,_,_,_,_,_,_,_,h=>h.elim
def SW.pF (hG:aw GI) (hm:P.follows .mixedOrders=true) {c:Code} (hc:iB c=true) (cg:∀ d∈(cC P n c).names,¬ old.bx d) {ac:af} (lD:cC P n c=ac)
  (h:bL P GI ac (Q.bL old) S H):SW P GI n ro c Q old S H:=by
 subst lD;intro w0 g a w m cj ho R
 exact aeA (iu hG cj hm c _ g S H a w hc cg ho R h) λ_ _ _ hq=>EK hq
end
def ug(g:Gh)(b:Nat):Prop:=g.base<=b/\g.hi b=0/\g.owner b=none/\∀i,g.al i≠some b
structure lh(M:Nat->Prop)(w w':World):Prop where
 os:w'.os=w.os
 tape:w'.tape=w.tape
 output:w'.output=w.output
 size:w.heap.size<=w'.heap.size
 block:∀b,b<w.heap.size->¬M b->w'.heap[b]?=w.heap[b]?
def lh.refl(M:Nat->Prop)(w:World):lh M w w:=⟨rfl,rfl,rfl,acD _,λ_ _ _=>rfl⟩
def lh.trans{M M' V_:Nat->Prop}{w w' iV:World}(h:lh M w w')(h':lh M' w' iV)(h1:∀b,M b->V_ b)(h2:∀b,M' b->b<w.heap.size->V_ b):lh V_ w iV:=
 ⟨h'.os.trans h.os,h'.tape.trans h.tape,h'.output.trans h.output,adD h.size h'.size,λb hb hm=>
  (h'.block b (adq hb h.size) λhh=>hm (h2 b hh hb)).trans (h.block b hb λhh=>hm (h1 b hh))⟩
def lh.tE{M:Nat->Prop}{w w':World}(h:Below w.heap.size w w'):lh M w w':=⟨h.os,h.tape,h.output,h.size,λb hb _=>h.block b hb⟩
def lh.below{M:Nat->Prop}{w w':World}(h:lh M w w'){k:Nat}(hk:k<=w.heap.size)(hM:∀b,M b->k<=b):Below k w w':=
 ⟨h.os,h.tape,h.output,h.size,λb hb=>h.block b (adq hb hk) λhm=>by have:=hM b hm;omega⟩
section
variable{P:Program}{w0:World}{n:Nat}{g:Gh}{S:an}{H:aq}{a:Act}{w w':World}
def Rel.dS(R:Rel P w0 n bz g S H a w){M:Nat->Prop}(ht:lh M w w')(hM:∀b,M b->ug g b)(hk:∀b,M b->g.old.aR b=none):Rel P w0 n bz g S H a w':=by
 have dX:bc g.Pr g.Pr w w':=bc.oF λb k av hp=>ht.block b av λhm=>by
  obtain⟨h1,h2,_⟩:=hM b hm;rcases hp with hp|hp
  .omega
  .rw[h2]at hp;omega
 refine R.ext rfl rfl rfl dX ?_ ?_ ?_ ?_ ?_ ht.size
 .intro i b hi;obtain⟨_,_,_,_,_,h3,_⟩:=R.box i b hi;exact⟨ht.block b (acz.1 h3).1 λhm=>(hM b hm).2.2.2 i hi,rfl,rfl⟩
 .intro b loc ho
  have av:b<w.heap.size:=by
   rcases adK b w.heap.size with h|h
   .exact h
   .rw[(R.fresh b h).2]at ho;cases ho
  exact⟨ht.block b av λhm=>(by rw[(hM b hm).2.2.1]at ho;cases ho),rfl,ho⟩
 .exact R.below.trans (ht.below (by rw[R.base];exact R.below.size) λb hm=>(hM b hm).1)
 .exact λb hb=>R.fresh b (adD ht.size hb)
 .intro b o Zu ho;exact⟨by rw[ht.block b (acz.1 ho).1 (λhm=>by rw[hk b hm]at Zu;cases Zu)];exact ho,rfl,rfl⟩
open Classical in
noncomputable def Gh.kg(g:Gh)(G:Nat->Prop)(cQ:Nat->Nat):Gh:={ g with hi:=λb=>if G b then cQ b else g.hi b }
def Rel.kg(R:Rel P w0 n bz g S H a w){G:Nat->Prop}(cQ:Nat->Nat)(hG:∀b,G b->ug g b/\b<w.heap.size/\g.old.aR b=none):Rel P w0 n bz (g.kg G cQ) S H a w:=by
 have hn:∀b,¬G b->(g.kg G cQ).hi b=g.hi b:=λb hb=>by simp[Gh.kg,hb]
 have pj:∀b k,g.Pr b k->(g.kg G cQ).Pr b k:=by
  intro b k hp
  by_cases hb:G b
  .obtain⟨⟨h1,h2,_⟩,_⟩:=hG b hb;rcases hp with hp|hp
   .omega
   .rw[h2]at hp;omega
  .rcases hp with hp|hp
   .exact .inl hp
   .exact .inr ⟨hp.1,by rw[hn b hb];exact hp.2⟩
 refine R.ext (g':=g.kg G cQ) rfl rfl rfl (bc.same λb k _ hp=>pj b k hp) ?_ ?_ R.below ?_ ?_ (acD _)
 .intro i b hi;exact⟨rfl,hn b λhb=>(hG b hb).1.2.2.2 i hi,rfl⟩
 .intro b loc ho;exact⟨rfl,hn b (λhb=>by rw[(hG b hb).1.2.2.1]at ho;cases ho),ho⟩
 .intro b hb;exact⟨by rw[hn b (λh=>by have:=(hG b h).2.1;omega)];exact(R.fresh b hb).1,(R.fresh b hb).2⟩
 .intro b o hk ho;exact⟨ho,hn b (λh=>by rw[(hG b h).2.2]at hk;cases hk),rfl⟩
def Rel.kn(R:Rel P w0 n bz g S H a w){l:Nat}{o:Obj}(hl:g.old.aR l=some o)(o':Obj):Rel P w0 n bz { g with old:={ g.old with aR:=au g.old.aR l (some o') } } S H a (w.putObj l o'):=by
 obtain⟨k1,k2,k3,k4,k5⟩:=R.kept l o hl;have av:l<w.heap.size:=(acz.1 k2).1
 have ll:∀b,b≠l->(w.putObj l o').heap[b]?=w.heap[b]?:=λb hb=>afr hb
 have bP:∀b k,g.Pr b k->b≠l:=by
  rintro b k hp rfl;rcases hp with hp|hp
  .omega
  .rw[k3]at hp;omega
 have hK:bc g.Pr g.Pr w (w.putObj l o'):=bc.oF λb k _ hp=>ll b (bP b k hp)
 have kG:(w.putObj l o').heap.size=w.heap.size:=by simp[World.putObj]
 refine{ size:=R.size,defers:=R.defers,facts:=λp hp=>(R.facts p hp).mono hK λ_ _ h=>h,slot:=λt ht hu=>(R.slot t ht hu).mono hK λ_ _ h=>h,own:=λt ht hu=>(R.own t ht hu).aR rfl λb' fS=>⟨ll b' (by rintro rfl;rw[k4]at fS;cases fS),rfl,fS⟩,box:=?_,iw:=R.iw,iE:=R.iE,inj:=R.inj,base:=R.base,below:=?_,fresh:=?_,still:=R.still.trans hK,grown:=by rw[kG];exact R.grown,kept:=?_ }
 .intro i b hi;obtain⟨cs,vs,ty,h1,h2,h3,h4,h5,h6,h7,h8,h9⟩:=R.box i b hi
  have kd:b≠l:=by rintro rfl;exact k5 i hi
  refine⟨cs,vs,ty,h1,h2,by rw[ll b kd];exact h3,h4,h5,h6,λj hj dH=>(h7 j hj dH).mono hK,λj hj dH=>(h8 j hj dH).aR rfl λb' fS=>⟨ll b' (by rintro rfl;rw[k4]at fS;cases fS),rfl,fS⟩,h9⟩
 .refine R.below.trans ⟨rfl,rfl,rfl,by rw[kG];exact acD _,λk hk=>ll k (by omega)⟩
 .intro b hb;rw[kG]at hb;exact R.fresh b hb
 .intro b ob h
  by_cases kd:b=l
  .subst kd
   have:ob=o':=by simpa[au]using h.symm
   subst this;exact⟨k1,af6 av,k3,k4,k5⟩
  .have h:g.old.aR b=some ob:=by simpa[au,kd]using h
   obtain⟨q1,q2,q3,q4,q5⟩:=R.kept b ob h;exact⟨q1,by rw[ll b kd];exact q2,q3,q4,q5⟩
def Rel.Cd (R:Rel P w0 n bz g S H a w) (o2:Old) {a2:Act} {S2:an} (hc:o2.c=g.old.c) (bg:a2.tmps.size=n) (ee:a2.defers=o2.ds)
  (hf:∀p∈o2.facts,RV g.Pr g.al w p.1 p.2) (fx:bc o2.sp g.Pr o2.sw w) (iU:o2.sw.heap.size<=w.heap.size) (hk:∀b o,o2.aR b=some o->ug g b/\w.heap[b]?=some o)
  (hS:∀t,t<n->(S2 t).aH=S2 t/\RV g.Pr g.al w (S2 t) (a2.tmps.getD t undef)):Rel P w0 n bz { g with old:=o2 } S2 H a2 w:=by
 have pj:({ g with old:=o2 }:Gh).Pr=g.Pr:=by
  funext b k
  simp only[Gh.Pr,hc]
 refine{ size:=bg,defers:=ee,facts:=by rw[pj];exact hf,slot:=λt ht _=>by rw[pj];exact(hS t ht).2,own:=λt ht _=>?_,box:=?_,iw:=R.iw,iE:=R.iE,inj:=R.inj,base:=R.base,below:=R.below,fresh:=R.fresh,still:=by rw[pj];exact fx,grown:=iU,kept:=?_ }
 .rw[<-(hS t ht).1];exact ea.aH
 .intro i b hi;obtain⟨cs,vs,ty,h1,h2,h3,h4,h5,h6,h7,h8,h9⟩:=R.box i b hi;exact⟨cs,vs,ty,h1,h2,h3,h4,h5,h6,by rw[pj];exact h7,λj hj dH=>(h8 j hj dH).aR rfl λb hb=>⟨rfl,rfl,hb⟩,h9⟩
 .intro b o h;obtain⟨⟨q1,q3,q4,q5⟩,q2⟩:=hk b o h;exact⟨q1,q2,q3,q4,q5⟩
def Ua(L:Nat->Bool):AV->Bool
 |.box i _=>L i
 |.func ..|.f_ _=>true
 |_=>false
def nO(L:Nat->Bool)(v:AV):AV:=match v with
 |.box i o=>if L i then .bm else .box i o
 |.func fn f c=>if f.any (Ua L)||c.any (Ua L)then .bm else .func fn f c
 |.f_ _=>.bm
 |v=>v.aH
def RV.nO{Pr:Nat->Nat->Prop}{al:Nat->Option Nat}{w:World}{v:AV}{c:Value}{L:Nat->Bool}(h:RV Pr al w v c):RV Pr al w (Go.AL.nO L v) c:=by
 have hd:=h.aH
 cases v<;>simp only[Go.AL.nO]<;>(try exact hd)
 .split
  .exact .bm _
  .exact h
 .split
  .exact .bm _
  .exact h
 .exact .bm _
def Rt(L:Nat->Bool)(v:AV):(nO L v).aH=nO L v:=by
 cases v<;>simp only[nO]<;>try rfl
 .rename_i o es;cases o<;>rfl
 .split<;>rfl
 .split<;>rfl
def N3(L:Nat->Bool)(v:AV):flat (nO L v)=true:=by
 cases v<;>simp only[nO]<;>try rfl
 .rename_i o es;cases o<;>rfl
 .split<;>rfl
 .split
  .rfl
  .rename_i fn f c h;simp only[ad8,aev,adH]at h;simp only[flat,acA,acN];refine⟨λv hv=>?_,λv hv=>?_⟩
   .have:=h.1 v hv
    cases v<;>first|rfl|(cases this;done)
   .have:=h.2 v hv
    cases v<;>first|rfl|(cases this;done)
def Le(L:Nat->Bool)(v:AV)(d:Nat)(hd:L d=true):bQ d (nO L v)=nO L v:=by
 have key:∀v,Ua L v=false->¬jU d v=true:=by
  intro v hv hs
  cases v<;>simp only[jU]at hs<;>(try cases hs)<;>(try cases hv)
  simp only[ac7]at hs;subst hs;simp only[Ua,hd]at hv;cases hv
 cases v<;>simp only[nO]<;>try rfl
 .rename_i o es;cases o<;>rfl
 .split
  .rfl
  .rename_i i o h;simp only[bQ];rw[if_neg];rintro rfl;exact h hd
 .split
  .rfl
  .rename_i fn f c h;simp only[ad8,aev,adH]at h;simp only[bQ];rw[if_neg];simp only[adw,ad9,not_or,not_exists,not_and];exact⟨λv hv=>key v (h.1 v hv),λv hv=>key v (h.2 v hv)⟩
end
structure Cons(P:Program)(GI:World->Prop)(l:Nat)(xs:List AV) where
 J:Nat->(Nat->Prop)->(Nat->Nat->Prop)->World->Prop
 X:(Nat->Prop)->(Nat->Nat->Prop)->World->Prop
 gi:∀{k M Pr w},J k M Pr w->GI w
 apart:∀{k M Pr w},J k M Pr w->∀b j,M b->¬Pr b j
 dS:∀{k M M' Pr w w'},J k M Pr w->lh M w w'->(∀b,M' b->b<w'.heap.size/\(M b\/w.heap.size<=b))->J k M' Pr w'
 Xt:∀{M M' Pr w w'},X M Pr w->lh M w w'->(∀b,M' b->b<w'.heap.size/\(M b\/w.heap.size<=b))->X M' Pr w'
 round:∀{k:Nat}(hk:k<xs.length){M Pr w}(G:Nat->Prop)(cQ:Nat->Nat)(c:Value),J k M Pr w->(∀b,G b->M b)->RD (λb j=>Pr b j\/(G b/\j<cQ b)) w xs[k] c->
  ∃f tmps assign body,(Instr.yield l #[c]).run P w=.ok (.round l f tmps assign body) w/\
   ∀m,RoundIn (FR none) m P l f tmps assign body w λe w'=>(∀b,M b->¬G b->w'.heap[b]?=w.heap[b]?)/\∃eC,bc Pr eC w w'/\
    ((e=.returned (.bool true)/\J (k+1) (λb=>M b/\¬G b) eC w')\/(e=.returned (.bool false)/\X (λb=>M b/\¬G b) eC w'))
def cD:Nat->Option Nat:=λ_=>none
def vv(P:Program)(GI:World->Prop)(f:Nat)(caps:List AV)(xs:List AV):Prop:=
 ∀(l:Nat)(C:Cons P GI l xs)(w:World)(Pr:Nat->Nat->Prop)(bH:Array Value),C.J 0 (λ_=>False) Pr w->caps.length=bH.size->
  (∀i (h:i<caps.length)(h':i<bH.size),RV Pr cD w caps[i] bH[i])->
  Calls P f (#[.func (.yield l) #[] #[]]++bH) w λe w'=>∃v M eC,e=.returned v/\(C.J xs.length M eC w'\/C.X M eC w')
def G9:AV->Bool
 |.box ..|.func ..|.f_ _=>false
 |_=>true
def Ms:AV->Bool
 |.box ..|.f_ _=>false
 |.func _ f c=>f.all G9&&c.all G9
 |_=>true
def RV.Nj{Pr:Nat->Nat->Prop}{al:Nat->Option Nat}{w:World}{v:AV}{c:Value}(h:RV Pr al w v c)(hv:G9 v=true):RV Pr Go.AL.cD w v c:=by
 cases h with
 |data v c h=>exact .data _ _ h
 |box=>cases hv
 |func=>cases hv
 |f_=>cases hv
 |bm c=>exact .bm c
def RV.cD{Pr:Nat->Nat->Prop}{al:Nat->Option Nat}{w:World}{v:AV}{c:Value}(h:RV Pr al w v c)(hv:Ms v=true):RV Pr Go.AL.cD w v c:=by
 cases h with
 |data v c h=>exact .data _ _ h
 |box=>cases hv
 |func fn f c vs us h1 h2 r1 r2=>
  simp only[Ms,acA,acN]at hv;exact .func _ _ _ _ _ h1 h2 (λi hi cQ=>(r1 i hi cQ).Nj (hv.1 _ (acy hi))) (λi hi cQ=>(r2 i hi cQ).Nj (hv.2 _ (acy hi)))
 |f_=>cases hv
 |bm c=>exact .bm c
def Old.mark(o:Old)(D:Nat):Old:={ o with ds:={ target:=.collected D,args:=#[] }::o.ds,aR:=au o.aR D (some (.deferred (some []))) }
def Fc:cw->Option Code
 |.exit id=>some (.exit id)
 |.ret=>some .ret
 |_=>none
def rk(I:aq->Prop)(Ix:cw->aq->Prop):cw->an->aq->Prop
 |.normal,_,H=>I H
 |.panic _,_,_=>False
 |e,_,H=>Ix e H
def aO(K:an->aq->Prop):cw->an->aq->Prop
 |.normal,S,H=>K S H
 |_,_,_=>False
section
variable{P:Program}{GI:World->Prop}{n:Nat}{S:an}{H:aq}
open Classical in
def SW.range (hG:aw GI) (hm:P.follows .mixedOrders=true) {old:Old} {Q:ij} {MJ:Operand} {y:cz} {p:Tmp} {assign body:Code} {f:Nat} {caps xs:List AV}
  (hg:c_ n MJ=some y) (hS:ev S y=.func (.func f) [] caps) (hf:ef P f=true) (nN:caps.all Ms=true) (hit:vv P GI f caps xs) (hp:p<n) (pq:∀x∈xs,x.aH=x)
  (L:Nat->Bool) {aa ab:af} (haa:cC P n assign=aa) (qF:cC P n body=ab) (hLa:∀d∈aa.names,L d=true) (hLb:∀d∈ab.names,L d=true) (hLo:∀d,L d=true->¬old.bx d)
  (wu:iB assign=true) (kh:iB body=true) (I:Nat->aq->Prop) (Ix:cw->aq->Prop) (h0:I 0 H)
  (vJ:∀k (hk:k<xs.length) H',I k H'->bL P GI aa (aO (bL P GI ab (rk (I (k+1)) Ix))) (au (λt=>nO L (S t)) p xs[k]) H')
  (Yr:∀D H',old.aR D=none->I xs.length H'->Q .normal (old.mark D) (λt=>nO L (S t)) H')
  (Yk:∀D e H',old.aR D=none->(Fc e).isSome=true->Ix e H'->Q e (old.mark D) (λt=>nO L (S t)) H'):
  SW P GI n none (.rangeFunc MJ #[p] assign body) Q old S H:=by
 subst haa qF;intro w0 g a w m cj ho R;subst ho;refine wpIn_rangeFunc ?_;intro fn UM
 obtain⟨rec,w_⟩:∃rec:LoopState->Option Code->Loop,rec=λst pe=>{ state:=st,pending:=pe,fn,tmps:=a.tmps,params:=#[p],assign,body,defers:=w.heap.size }:=⟨_,rfl⟩
 obtain⟨W1,TZ⟩:∃W1,(w.alloc (.deferred (some []))).alloc (.loop (rec .ready none))=W1:=⟨_,rfl⟩
 obtain⟨D,hD⟩:∃D,w.heap.size=D:=⟨_,rfl⟩
 have hL1:W1.heap[D+1]?=some (.loop (rec .ready none)):=by
  rw[<-TZ,<-hD];have:=adv (w.alloc (.deferred (some []))) (.loop (rec .ready none));rwa [World.size_alloc]at this
 have Sm:W1.heap[D]?=some (.deferred (some [])):=by
  rw[<-TZ,<-hD];exact(afY _ _ _ (by simp)).trans (adv w _)
 have tq:Below w.heap.size w W1:=by
  rw[<-TZ];exact(((adA _ w).alloc (acD _) _).alloc (by simp) _)
 have R1:Rel P w0 n bz g S H a W1:=R.jR tq
 have hle:g.base<=D:=by rw[<-hD,R.base];exact R.below.size
 have qg:∀b,D<=b->ug g b:=λb hb=>⟨by omega,(R.fresh b (by omega)).1,(R.fresh b (by omega)).2,λi hi=>by
  obtain⟨_,_,_,_,_,h3,_⟩:=R.box i b hi;have:=(acz.1 h3).1
  omega⟩
 have AA:∀b,D<=b->g.old.aR b=none:=λb hb=>by
  cases hk:g.old.aR b with
  |none=>rfl
  |some o=>have:=(acz.1 (R.kept b o hk).2.1).1;omega
 have lT:=R.ev hg (λ_ _=>id);rw[hS]at lT
 obtain⟨us,qy,gr,OW⟩:∃us:Array Value,a.eval MJ=.func (.func f) #[] us/\caps.length=us.size/\∀i (h:i<caps.length)(h':i<us.size),RV g.Pr cD W1 caps[i] us[i]:=by
  generalize hq:a.eval MJ=q at lT
  cases lT with
  |data _ _ h=>cases h
  |func _ _ _ vs us h1 h2 r1 r2=>
   have:vs=#[]:=ad6 (by simpa using h1.symm);subst this;refine⟨us,rfl,h2,λi h h'=>?_⟩;have:=(r2 i h h').cD (by simp only[acN]at nN;exact nN _ (acy h))
   exact this.mono (bc.iN (λb av=>tq.block b av) λ_ _ _ h=>h) λ_ _ h=>h
 let Se:an:=λt=>nO L (S t)
 let al:Act:={ tmps:=a.tmps,defers:=[] }
 let fs:List (AV×Value):=(List.range n).map λt=>(Se t,a.tmps.getD t undef)
 let kp:Nat->Option Obj:=au (au g.old.aR D (some (.deferred (some [])))) (D+1) (some (.loop (rec .ready none)))
 have b_:∀q∈fs++g.old.facts,flat q.1=true/\∀d,¬(L d=false)->bQ d q.1=q.1:=by
  intro q hq;rcases acF.1 hq with h|h
  .obtain⟨t,_,rfl⟩:=acZ.1 h;exact⟨N3 L _,λd hd=>Le L _ d (by simpa using hd)⟩
  .exact⟨(g.old.ok q h).1,λd hd=>(g.old.ok q h).2 d (hLo d (by simpa using hd))⟩
 let mk:(Nat->Option Obj)->(Nat->Nat->Prop)->World->Old:=λaR sp sw=>
  { c:=g.old.c,facts:=fs++g.old.facts,bx:=λd=>L d=false,ds:=[],aR:=aR,sp:=sp,sw:=sw,ok:=b_ }
 let Ee:Old:=mk kp g.old.sp g.old.sw
 let kx:Code->Nat->Option Obj:=λc=>au kp (D+1) (some (.loop (rec .done (some c))))
 have Wr:∀t,(Se t).aH=Se t:=λt=>Rt L _
 have bg:a.tmps.size=n:=R.size
 have Nu:∀{g':Gh}{W:World}{H':aq}{n' S' a'},Rel P w0 n' bz g' S' H' a' W->g'.old.facts=fs++g.old.facts->∀t,t<n->(Se t).aH=Se t/\RV g'.Pr g'.al W (Se t) (a.tmps.getD t undef):=by
  intro g' W H' n' S' a' R' hfa t ht;exact⟨Wr t,R'.facts (Se t,a.tmps.getD t undef) (by rw[hfa];exact aeM _ (acZ.2 ⟨t,acY.2 ht,rfl⟩))⟩
 have acd:∀b,D<=b->b≠D->b≠D+1->kp b=none:=λb hb h1 h2=>by simp[kp,au,h1,h2,AA b hb]
 have NR:kp (D+1)=some (.loop (rec .ready none)):=aK _ _ _
 let J:Nat->(Nat->Prop)->(Nat->Nat->Prop)->World->Prop:=λk M Pr W=>∃g' H',Rel P w0 n bz g' Se H' al W/\g'.old=Ee/\g'.Pr=Pr/\I k H'/\∀b,M b->ug g' b/\b<W.heap.size/\kp b=none
 let X:(Nat->Prop)->(Nat->Nat->Prop)->World->Prop:=λM Pr W=>∃e jc g' H',Rel P w0 n bz g' Se H' al W/\g'.old=mk (kx jc) g.old.sp g.old.sw/\Fc e=some jc/\g'.Pr=Pr/\Ix e H'/\∀b,M b->ug g' b/\b<W.heap.size/\kp b=none
 have sk:∀{g':Gh}{H':aq}{W:World},Rel P w0 n bz g' Se H' al W->GI W:=λR'=>by
  have hb:=R'.below;rw[R'.base]at hb;exact hG w0 _ cj hb
 have Q2:∀{g':Gh}{H':aq}{W:World}(k':Nat->Option Obj),Rel P w0 n bz g' Se H' al W->g'.old.aR=k'->(∀b,kp b=none↔k' b=none)->∀b,W.heap.size<=b->ug g' b/\kp b=none:=by
  intro g' H' W k' R' hk yb b hb;refine⟨⟨?_,(R'.fresh b hb).1,(R'.fresh b hb).2,λi hi=>?_⟩,?_⟩
  .have:=R'.below.size;rw[R'.base];omega
  .obtain⟨_,_,_,_,_,h3,_⟩:=R'.box i b hi;have:=(acz.1 h3).1;omega
  .rw[yb]
   cases hq:k' b with
   |none=>rfl
   |some o=>have:=(acz.1 (R'.kept b o (by rw[hk];exact hq)).2.1).1;omega
 have Jm:∀c b,kp b=none↔kx c b=none:=λc b=>by
  by_cases hb:b=D+1
  .subst hb;simp[NR,kx,au]
  .simp[kx,au,hb]
 let C:Cons P GI (D+1) xs:={
  J:=J
  X:=X
  gi:=λ⟨g',H',R',_⟩=>sk R'
  apart:=by
   rintro k M Pr W ⟨g',H',R',e1,rfl,e3,e4⟩ b j hb hp;obtain⟨⟨h1,h2,_⟩,_⟩:=e4 b hb;rcases hp with hp|hp
   .omega
   .rw[h2]at hp;omega
  dS:=by
   rintro k M M' Pr W W' ⟨g',H',R',e1,e2,e3,e4⟩ ht X0;have R2:=R'.dS ht (λb hb=>(e4 b hb).1) (λb hb=>by rw[e1];exact(e4 b hb).2.2);refine⟨g',H',R2,e1,e2,e3,λb hb=>?_⟩;obtain⟨q1,q2⟩:=X0 b hb;rcases q2 with q2|q2
   .exact⟨(e4 b q2).1,q1,(e4 b q2).2.2⟩
   .obtain⟨z1,z2⟩:=Q2 kp R' (by rw[e1]) (λ_=>Iff.rfl) b q2;exact⟨z1,q1,z2⟩
  Xt:=by
   rintro M M' Pr W W' ⟨e,jc,g',H',R',e1,ej,e2,e3,e4⟩ ht X0;have R2:=R'.dS ht (λb hb=>(e4 b hb).1) (λb hb=>by rw[e1];exact(Jm jc b).1 (e4 b hb).2.2);refine⟨e,jc,g',H',R2,e1,ej,e2,e3,λb hb=>?_⟩;obtain⟨q1,q2⟩:=X0 b hb;rcases q2 with q2|q2
   .exact⟨(e4 b q2).1,q1,(e4 b q2).2.2⟩
   .obtain⟨z1,z2⟩:=Q2 (kx jc) R' (by rw[e1]) (Jm jc) b q2;exact⟨z1,q1,z2⟩
  round:=by
   rintro k hk M Pr W G cQ c ⟨g',H',R',e1,rfl,e3,e4⟩ Og hx
   have hkg:∀b,M b->g'.old.aR b=none:=λb hb=>by rw[e1];exact(e4 b hb).2.2
   have Rc:=R'.kg (G:=G) cQ (λb hb=>⟨(e4 b (Og b hb)).1,(e4 b (Og b hb)).2.1,hkg b (Og b hb)⟩)
   obtain⟨gc,G1⟩:∃gc,g'.kg G cQ=gc:=⟨_,rfl⟩
   rw[G1]at Rc
   have YY:gc.old=Ee:=by rw[<-G1];exact e1
   have hKc:bc g'.Pr gc.Pr W W:=bc.same λb j _ Dv=>by
    rw[<-G1]
    by_cases hb:G b
    .obtain⟨⟨h1,h2,_⟩,_⟩:=e4 b (Og b hb);rcases Dv with hp|hp
     .omega
     .rw[h2]at hp;omega
    .rcases Dv with hp|hp
     .exact .inl hp
     .exact .inr ⟨hp.1,by simpa[Gh.kg,hb]using hp.2⟩
   have Fz:RD gc.Pr W xs[k] c:=hx.mono (bc.same λb j av Dv=>by
    rcases Dv with Dv|⟨h1,h2⟩
    .by_cases hex:∃u,W.cell? ⟨b,j,none⟩=some u
     .obtain⟨u,hu⟩:=hex;exact(hKc.cell b j Dv u hu).1
     .rw[<-G1]
      by_cases hb:G b
      .obtain⟨⟨h1,h2,_⟩,_⟩:=e4 b (Og b hb);rcases Dv with hp|hp
       .omega
       .rw[h2]at hp;omega
      .rcases Dv with hp|hp
       .exact .inl hp
       .exact .inr ⟨hp.1,by simpa[Gh.kg,hb]using hp.2⟩
    .rw[<-G1]
     exact .inr ⟨(e4 b (Og b h1)).1.1,by simpa[Gh.kg,h1]using h2⟩)
   let kr:Nat->Option Obj:=λb=>if M b/\¬G b then W.heap[b]? else kp b
   have hMl:¬M (D+1):=λhh=>by have:=(e4 _ hh).2.2;rw[NR]at this;cases this
   have krl:kr (D+1)=some (.loop (rec .ready none)):=by simp[kr,hMl,NR]
   have Rr:=Rc.Cd (mk kr gc.Pr W) (a2:={ tmps:=a.tmps.setIfInBounds p c,defers:=[] }) (S2:=au Se p xs[k]) (by rw[YY]) (by simpa using bg) rfl
    (λq hq=>Rc.facts q (by rw[YY];exact hq)) (bc.same λ_ _ _ h=>h) (acD _)
    (λb ob hb=>by
     simp only[mk,kr]at hb;split at hb
     .rename_i KX;obtain⟨h1,h2,h3,h4⟩:=(e4 b KX.1).1;exact⟨⟨by rw[<-G1];exact h1,by rw[<-G1];simpa[Gh.kg,KX.2]using h2,by rw[<-G1];exact h3,by rw[<-G1];exact h4⟩,hb⟩
     .obtain⟨h1,h2,h3,h4,h5⟩:=Rc.kept b ob (by rw[YY];exact hb)
      exact⟨⟨h1,h3,h4,h5⟩,h2⟩)
    (λt ht=>by
     by_cases Pm:t=p
     .subst Pm;rw[aK];refine⟨pq _ (acy hk),.data _ _ ?_⟩
      have:(a.tmps.setIfInBounds t c).getD t undef=c:=by simp[bg,ht]
      rw[this];exact Fz
     .rw[aN _ _ Pm]
      have:(a.tmps.setIfInBounds p c).getD t undef=a.tmps.getD t undef:=by
       simp[acB (adi Pm)]
      rw[this]
      exact⟨Wr t,(Rc.slot t ht id)⟩)
   have rq:W.heap[D+1]?=some (.loop (rec .ready none)):=(R'.kept (D+1) _ (by rw[e1];exact NR)).2.1;have hy:=run_yield (P:=P) (args:=#[c]) rq (by rw[w_];rfl);rw[w_]at hy
   have hy':(Instr.yield (D+1) #[c]).run P W=.ok (.round (D+1) fn (a.tmps.setIfInBounds p c) assign body) W:=by rw[hy];simp
   refine⟨fn,_,assign,body,hy',λm'=>roundIn_of_wpIn (F:=FR none) trivial ?_⟩;show assign.wpIn (FR (some (D+1))) m' P _ { tmps:=a.tmps.setIfInBounds p c,defers:=[] } W;refine aeA (iu hG cj hm (old:=mk kr gc.Pr W) assign _ _ _ H' _ W wu (λd hd (hh:L d=false)=>by have:=hLa d hd;rw[this]at hh;cases hh) rfl Rr (vJ k hk H' e3)) ?_;intro e a1 w1 hq
   cases e with
   |normal=>
    obtain⟨g1,S1,H1,xK,OF,hb⟩:=hq;have MF:w1.heap[D+1]?=some (.loop (rec .ready none)):=(OF.kept (D+1) _ (by rw[xK];exact krl)).2.1;have hbr:=run_beginRound (P:=P) MF (by rw[w_]);refine⟨_,hbr,?_⟩;have R2:=OF.kn (l:=D+1) (o:=.loop (rec .ready none)) (by rw[xK];exact krl) (.loop { rec .ready none with state:=.busy })
    let kb:Nat->Option Obj:=au kr (D+1) (some (.loop { rec .ready none with state:=.busy }))
    have NS:({ g1.old with aR:=au g1.old.aR (D+1) (some (.loop { rec .ready none with state:=.busy })) }:Old)=mk kb gc.Pr W:=by rw[xK]
    refine aeA (iu hG cj hm (old:=mk kb gc.Pr W) body _ _ _ _ _ _ kh (λd hd (hh:L d=false)=>by have:=hLb d hd;rw[this]at hh;cases hh) NS R2 hb) ?_;have kbl:kb (D+1)=some (.loop { rec .ready none with state:=.busy }):=aK _ _ _
    have fin:∀ (g3:Gh) (S3:an) (H3:aq) (a3:Act) (w3:World) (jump:Option Code),g3.old=mk kb gc.Pr W→Rel P w0 n bz g3 S3 H3 a3 w3 →
      ∃w4,(Instr.endRound (D+1) jump).run P w3=.ok (.bool jump.isNone) w4/\(∀b,M b->¬G b->w4.heap[b]?=W.heap[b]?)/\∃g4,bc g'.Pr g4.Pr W w4/\
       Rel P w0 n bz g4 Se H3 al w4/\g4.old=mk (au kp (D+1) (some (.loop (rec (if jump.isNone then .ready else .done) jump)))) g.old.sp g.old.sw/\∀b,M b/\¬G b->ug g4 b/\b<w4.heap.size/\kp b=none:=by
     intro g3 S3 H3 a3 w3 jump xP R3;have zR:w3.heap[D+1]?=some (.loop { rec .ready none with state:=.busy }):=(R3.kept (D+1) _ (by rw[xP];exact kbl)).2.1;have Iq:=run_endRound (P:=P) jump zR
     obtain⟨w4,lS⟩:∃w4,w3.putObj (D+1) (.loop { ({ rec .ready none with state:=.busy }:Loop)with state:=if jump.isNone then .ready else .done,pending:=jump })=w4:=⟨_,rfl⟩
     rw[lS]at Iq;have R4:=R3.kn (l:=D+1) (o:=.loop { rec .ready none with state:=.busy }) (by rw[xP];exact kbl) (.loop { ({ rec .ready none with state:=.busy }:Loop)with state:=if jump.isNone then .ready else .done,pending:=jump });rw[lS]at R4
     have G8:({ ({ rec .ready none with state:=.busy }:Loop)with state:=if jump.isNone then .ready else .done,pending:=jump })=rec (if jump.isNone then .ready else .done) jump:=by rw[w_]
     rw[G8]at R4
     have ho4:({ g3.old with aR:=au g3.old.aR (D+1) (some (.loop (rec (if jump.isNone then .ready else .done) jump))) }:Old)=mk (au kr (D+1) (some (.loop (rec (if jump.isNone then .ready else .done) jump)))) gc.Pr W:=by
      rw[xP];simp only[mk,Old.mk.injEq,agd,afZ]
      funext b
      by_cases lU:b=D+1
      .subst lU;simp[au]
      .simp[au,kb,lU]
     obtain⟨g4,hg4⟩:∃g4,({ g3 with old:={ g3.old with aR:=au g3.old.aR (D+1) (some (.loop (rec (if jump.isNone then .ready else .done) jump))) } }:Gh)=g4:=⟨_,rfl⟩
     rw[hg4]at R4
     have zh:g4.old=mk (au kr (D+1) (some (.loop (rec (if jump.isNone then .ready else .done) jump)))) gc.Pr W:=by rw[<-hg4];exact ho4
     have hKW:bc g'.Pr g4.Pr W w4:=hKc.trans (by have:=R4.still;rw[zh]at this;exact this)
     have aab:∀b,M b->b≠D+1:=by rintro b hb rfl;exact hMl hb
     have hkr:∀b,M b->¬G b->∃ob,W.heap[b]?=some ob/\g4.old.aR b=some ob:=by
      intro b hb qQ;have av:=(e4 b hb).2.1;refine⟨W.heap[b],by simp[av],?_⟩;rw[zh];simp[mk,au,aab b hb,kr,hb,qQ,av]
     have R5:=R4.Cd (mk (au kp (D+1) (some (.loop (rec (if jump.isNone then .ready else .done) jump)))) g.old.sp g.old.sw) (a2:=al) (S2:=Se) (by rw[zh]) bg rfl
      (λq hq=>R4.facts q (by rw[zh];exact hq)) (by
       have h1:=R'.still;rw[e1]at h1
       exact h1.trans hKW) (by
       have h1:=R'.grown;rw[e1]at h1;have h2:=R4.grown;rw[zh]at h2
       exact adD h1 h2)
      (λb ob hb=>by
       have hq:g4.old.aR b=some ob:=by
        rw[zh];simp only[mk]at hb⊢
        by_cases lU:b=D+1
        .subst lU;simpa[au]using hb
        .simp only[aN _ _ lU]at hb⊢;simp only[kr];rw[if_neg];exact hb;rintro⟨hMb,_⟩;rw[(e4 b hMb).2.2]at hb;cases hb
       obtain⟨h1,h2,h3,h4,h5⟩:=R4.kept b ob hq
       exact⟨⟨h1,h3,h4,h5⟩,h2⟩)
      (λt ht=>Nu R4 (by rw[zh]) t ht)
     refine⟨w4,Iq,λb hb qQ=>?_,{ g4 with old:=mk (au kp (D+1) (some (.loop (rec (if jump.isNone then .ready else .done) jump)))) g.old.sp g.old.sw },?_,R5,rfl,λb hb=>?_⟩
     .obtain⟨ob,h1,h2⟩:=hkr b hb qQ;rw[h1];exact(R4.kept b ob h2).2.1
     .have:(({ g4 with old:=mk (au kp (D+1) (some (.loop (rec (if jump.isNone then .ready else .done) jump)))) g.old.sp g.old.sw }:Gh)).Pr=g4.Pr:=by
       funext b j;simp only[Gh.Pr,zh,mk]
      rw[this];exact hKW
     .obtain⟨ob,h1,h2⟩:=hkr b hb.1 hb.2;obtain⟨q1,q2,q3,q4,q5⟩:=R4.kept b ob h2;exact⟨⟨q1,q3,q4,q5⟩,(acz.1 q2).1,(e4 b hb.1).2.2⟩
    intro e2 a3 w3 Oa
    cases e2 with
    |normal=>
     obtain⟨g3,S3,H3,xP,R3,Q3⟩:=Oa;obtain⟨w4,Iq,q1,g4,q3,R4,q4,q5⟩:=fin g3 S3 H3 a3 w3 none xP R3;refine⟨_,w4,Iq,q1,g4.Pr,q3,.inl ⟨rfl,g4,H3,R4,?_,rfl,Q3,q5⟩⟩;rw[q4];simp only[Ee,mk,Old.mk.injEq,agd,afZ,Option.isNone_none,ac3]
     funext b
     by_cases lU:b=D+1
     .subst lU;simp[au,NR]
     .simp[au,lU]
    |ret=>
     obtain⟨g3,S3,H3,xP,R3,Q3⟩:=Oa;obtain⟨w4,Iq,q1,g4,q3,R4,q4,q5⟩:=fin g3 S3 H3 a3 w3 (some .ret) xP R3;exact⟨_,w4,Iq,q1,g4.Pr,q3,.inr ⟨rfl,.ret,.ret,g4,H3,R4,q4,rfl,rfl,Q3,q5⟩⟩
    |exit id=>
     obtain⟨g3,S3,H3,xP,R3,Q3⟩:=Oa;obtain⟨w4,Iq,q1,g4,q3,R4,q4,q5⟩:=fin g3 S3 H3 a3 w3 (some (.exit id)) xP R3;exact⟨_,w4,Iq,q1,g4.Pr,q3,.inr ⟨rfl,.exit id,.exit id,g4,H3,R4,q4,rfl,rfl,Q3,q5⟩⟩
    |panic ch=>obtain⟨_,_,_,_,_,_,_,_,_,_,hh⟩:=Oa;exact hh.elim
    |goto l=>exact Oa.elim
    |outgrown=>exact Oa.elim
   |exit id=>obtain⟨_,_,_,_,_,hh⟩:=hq;exact hh.elim
   |ret=>obtain⟨_,_,_,_,_,hh⟩:=hq;exact hh.elim
   |panic ch=>obtain⟨_,_,_,_,_,_,_,_,_,_,hh⟩:=hq;exact hh.elim
   |goto l=>exact hq.elim
   |outgrown=>exact hq.elim }
 have IB:∀ (g':Gh) (H':aq) (w2:World) (st:LoopState) (pe:Option Code),st ≠ .busy→Rel P w0 n bz g' Se H' al w2→g'.old=mk (au kp (D+1) (some (.loop (rec st pe)))) g.old.sp g.old.sw →
   ∃w4 g4,(Instr.endLoop (D+1)).run P w2=.ok pe w4/\Rel P w0 n bz g4 Se H' { a with defers:=[{ target:=.collected D,args:=#[] }]++a.defers } w4/\g4.old=g.old.mark D:=by
  intro g' H' w2 st pe fx R' e1
  have jB:g'.old.aR (D+1)=some (.loop (rec st pe)):=by rw[e1];exact aK _ _ _
  have pz:=(R'.kept (D+1) _ jB).2.1;have uJ:=run_endLoop (P:=P) pz (by rw[w_];exact fx);have R2:=R'.kn jB (.loop { rec st pe with state:=.exhausted })
  obtain⟨W4,hW4⟩:∃W4,w2.putObj (D+1) (.loop { rec st pe with state:=.exhausted })=W4:=⟨_,rfl⟩
  rw[hW4]at uJ R2
  have hpe:(rec st pe).pending=pe:=by rw[w_]
  rw[hpe]at uJ
  have hold:∀b ob,(g.old.mark D).aR b=some ob->({ g' with old:={ g'.old with aR:=au g'.old.aR (D+1) (some (.loop { rec st pe with state:=.exhausted })) } }:Gh).old.aR b=some ob:=by
   intro b ob hb;simp only[Old.mark]at hb
   by_cases Yv:b=D
   .subst Yv;rw[aK]at hb;cases hb;show au g'.old.aR (b+1) _ b=_;rw[aN _ _ (by omega),e1];show au kp (b+1) _ b=_;rw[aN _ _ (by omega)];show au (au g.old.aR b _) (b+1) _ b=_;rw[aN _ _ (by omega),aK]
   .rw[aN _ _ Yv]at hb
    have av:b<D:=by
     rcases adK b D with h|h
     .exact h
     .rw[AA b h]at hb;cases hb
    show au g'.old.aR (D+1) _ b=_;rw[aN _ _ (by omega),e1];show au kp (D+1) _ b=_;rw[aN _ _ (by omega)];show au (au g.old.aR D _) (D+1) _ b=_;rw[aN _ _ (by omega),aN _ _ Yv];exact hb
  have R3:=R2.Cd (g.old.mark D) (a2:={ a with defers:=[{ target:=.collected D,args:=#[] }]++a.defers }) (S2:=Se) (by show g.old.c=g'.old.c;rw[e1]) bg (by show[_]++a.defers=_::_;rw[R.defers];rfl) (λq hq=>R2.facts q ?_) ?_ ?_ (λb ob hb=>?_) (λt ht=>Nu R2 (by show g'.old.facts=_;rw[e1]) t ht)
  .refine⟨_,_,uJ,R3,?_⟩
   rfl
  .show q∈g'.old.facts;rw[e1];exact afA _ hq
  .have h:=R2.still
   have:({ g' with old:={ g'.old with aR:=au g'.old.aR (D+1) (some (.loop { rec st pe with state:=.exhausted })) } }:Gh).old.sp=g.old.sp:=by show g'.old.sp=_;rw[e1]
   rw[this]at h
   have:({ g' with old:={ g'.old with aR:=au g'.old.aR (D+1) (some (.loop { rec st pe with state:=.exhausted })) } }:Gh).old.sw=g.old.sw:=by show g'.old.sw=_;rw[e1]
   rw[this]at h;exact h
  .have h:=R2.grown
   have:({ g' with old:={ g'.old with aR:=au g'.old.aR (D+1) (some (.loop { rec st pe with state:=.exhausted })) } }:Gh).old.sw=g.old.sw:=by show g'.old.sw=_;rw[e1]
   rw[this]at h;exact h
  .obtain⟨h1,h2,h3,h4,h5⟩:=R2.kept b ob (hold b ob hb);exact⟨⟨h1,h3,h4,h5⟩,h2⟩
 refine⟨D+1,[{ target:=.collected D,args:=#[] }],W1,{ target:=.fn (.func f) us,args:=#[.func (.yield (D+1)) #[] #[]] },W1,f,#[.func (.yield (D+1)) #[] #[]]++us,W1,?_,?_,λ_ _=>trivial,?_,λh=>by simp[FR,Fence.wide]at h,?_⟩
 .rw[<-TZ,w_,<-hD];exact run_enterLoop_outer _ _ _ _ _
 .simp only[resolve,qy];simp[go_sem]
 .simp[invoke,go_sem,fG hf]
 .refine ig.2 ((hit (D+1) C W1 g.Pr us ?_ gr OW).mono ?_)
  .refine⟨{ g with old:=Ee },H,R1.Cd Ee rfl bg rfl (λq hq=>?_) R1.still R1.grown (λb ob hb=>?_) (λt ht=>⟨Wr t,(R1.slot t ht id).nO⟩),rfl,rfl,h0,λb hb=>hb.elim⟩
   .rcases acF.1 hq with h|h
    .obtain⟨t,ht,rfl⟩:=acZ.1 h;exact(R1.slot t (acY.1 ht) id).nO
    .exact R1.facts q h
   .simp only[Ee,mk,kp]at hb
    by_cases h1:b=D+1
    .subst h1;rw[aK]at hb;cases hb;exact⟨qg _ (by omega),hL1⟩
    .rw[aN _ _ h1]at hb
     by_cases h2:b=D
     .subst h2;rw[aK]at hb;cases hb;exact⟨qg _ (by omega),Sm⟩
     .rw[aN _ _ h2]at hb;obtain⟨q1,q2,q3,q4,q5⟩:=R1.kept b ob hb;exact⟨⟨q1,q3,q4,q5⟩,q2⟩
  .rintro e w2 ⟨v,M,eC,rfl,hJ|hX⟩
   .obtain⟨g',H',R',e1,_,hI,_⟩:=hJ
    have Bz:au kp (D+1) (some (.loop (rec .ready none)))=kp:=by
     funext b
     by_cases hb:b=D+1
     .subst hb;rw[aK,NR]
     .rw[aN _ _ hb]
    obtain⟨w4,g4,h1,R4,h2⟩:=IB g' H' w2 .ready none (by simp) R' (by rw[Bz];exact e1);exact⟨none,w4,h1,g4,Se,H',R4,by rw[h2];exact Yr D H' (AA D (acD _)) hI⟩
   .obtain⟨e,jc,g',H',R',e1,ej,_,hI,_⟩:=hX;obtain⟨w4,g4,h1,R4,h2⟩:=IB g' H' w2 .done (some jc) (by simp) R' e1;refine⟨some jc,w4,h1,?_⟩;have hq:=Yk D e H' (AA D (acD _)) (by rw[ej];rfl) hI
    cases e<;>simp only[Fc]at ej<;>cases ej
    .exact aeY ⟨g4,Se,H',R4,by rw[h2];exact hq⟩
    .exact aeJ ⟨g4,Se,H',R4,by rw[h2];exact hq⟩
end
def eA(o:Old):Prop:=∃Ds:List Nat,Ds.Nodup/\o.ds=Ds.map (λD=>{ target:=.collected D,args:=#[] })/\∀D∈Ds,o.aR D=some (.deferred (some []))
def eA.plain{o:Old}(h:o.ds=[]):eA o:=⟨[],.nil,by simpa using h,by simp⟩
def eA.mark{o:Old}{D:Nat}(h:eA o)(hD:o.aR D=none):eA (o.mark D):=by
 obtain⟨Ds,h1,h2,h3⟩:=h
 have hn:D∉Ds:=λhm=>by rw[h3 D hm]at hD;cases hD
 refine⟨D::Ds,aew.2 ⟨hn,h1⟩,by simp[Old.mark,h2],λE hE=>?_⟩;rcases adl.1 hE with rfl|hE
 .exact aK _ _ _
 .show au o.aR D _ E=_;rw[aN _ _ (λe:E=D=>hn (by rw[<-e];exact hE))];exact h3 E hE
section
variable{P:Program}{GI:World->Prop}{w0:World}{n:Nat}{g:Gh}{S:an}{H:aq}{a:Act}{w:World}
def uf {F:Fence} {m:Nat} {fn:Func} {tmps:Array Value} {R:Ending→World→Prop}:∀ (Ds:List Nat) {g:Gh} {w:World},Rel P w0 n bz g S H a w→Ds.Nodup→(∀ D∈Ds,g.old.aR D=some (.deferred (some []))) →
  (∀g' w',Rel P w0 n bz g' S H a w'->g'.old.c=g.old.c->∃v,(results fn tmps).run P w'=.ok v w'/\R (.returned v) w')->
  LeavesInM F m P fn tmps R (Ds.map λD=>{ target:=.collected D,args:=#[] }) .returning w
 |[],g,w,R',_,_,BN=>BN g w R' rfl
 |D::Ds,g,w,R',dF,hk,BN=>by
  obtain⟨h1,h2⟩:=aew.1 dF;have hD:=hk D acS;have R2:=R'.kn hD (.deferred none);refine⟨by simp,.inl ⟨D,_,rfl,run_takeDeferred (R'.kept D _ hD).2.1,?_⟩⟩;refine uf Ds R2 h2 (λE hE=>?_) (λg' w' R3 hc=>BN g' w' R3 hc);show au g.old.aR D _ E=_;rw[aN _ _ (λe:E=D=>h1 (by rw[<-e];exact hE))];exact hk E (acH _ hE)
def Rel.begin {fn:Func} {args:List AV} {old:Nat→Nat→Prop} {bH:Array Value} (hn:fn.ntmps=n) (hl:args.length≤n) (hlen:args.length=bH.size)
  (hr:∀i (h:i<args.length)(h':i<bH.size),RV old (λ_=>none) w args[i] bH[i]):
  Rel P w n bz { base:=w.heap.size,old:=Old.plain old w,al:=λ_=>none,hi:=λ_=>0,owner:=λ_=>none } (start args) (λ_=>none) { tmps:=bH++Array.replicate (fn.ntmps-bH.size) undef,defers:=[] } w:=by
 have bg:(bH++Array.replicate (fn.ntmps-bH.size) undef).size=n:=by simp;omega
 refine{ size:=bg,defers:=rfl,facts:=λ_ h=>(by cases h),slot:=?_,own:=?_,box:=?_,iw:=?_,iE:=?_,inj:=?_,base:=rfl,below:=adA _ _,fresh:=λb _=>⟨rfl,rfl⟩,still:=⟨λ_ _ h=>h.elim,λ_ h=>h.elim⟩,grown:=acD _,kept:=λ_ _ h=>(by cases h) }
 .intro t ht _
  by_cases Mj:t<args.length
  .have h1:start args t=args[t].aH:=by simp[start,Mj]
   have h2:(bH++Array.replicate (fn.ntmps-bH.size) undef).getD t undef=bH[t]'(by omega):=by
    have:t<bH.size:=by omega
    simp[aeH,this]
   rw[h1,h2];refine((hr t Mj (by omega)).mono (bc.same λb k av hp=>.inl ⟨av,hp⟩) (λ_ _ h=>h)).aH
  .have h1:start args t=bO:=by simp[start,Mj,bO,AV.aH]
   have h2:(bH++Array.replicate (fn.ntmps-bH.size) undef).getD t undef=undef:=by
    have:¬t<bH.size:=by omega
    simp only[acG,aeH,this,acW]
    by_cases hh:t-bH.size<fn.ntmps-bH.size
    .simp[hh]
    .simp[hh]
   rw[h1,h2];exact .data _ _ (wK _ _)
 .intro t ht _;exact gj _ _ _
 .intro i b h;cases h
 .intro i cs h;cases h
 .intro i h;rfl
 .intro i j b h;cases h
def MW(P:Program)(n:Nat)(rs:List ResultVar)(out:eE)(c:Nat->Nat->Prop):ij
 |.normal,o,S,H|.ret,o,S,H=>eA o/\o.c=c/\∃v,cL P n rs S H=some v/\out=.ret v
 |.panic v,o,_,_=>o.ds=[]/\o.c=c/\out=.panic v
 |_,_,_,_=>False
def AC.jw {f:Nat} {fn:Func} {c:Code} {args:List AV} {out:eE} (hf:P.funcs[f]? = some fn) (hb:fn.body=some c) (hn:fn.ntmps=n) (hl:args.length≤n)
  (h:∀cc w,SW P GI n none c (MW P n fn.results.toList out cc) (Old.plain cc w) (start args) (λ_=>none)):AC P GI f args out:=by
 intro w old bH gm hlen hr;refine(ig (ro:=none) (m:=0)).1 (callsIn_of_wp_marks hf hb trivial ?_);have R:Rel P w n bz _ (start args) (λ_=>none) { tmps:=bH++Array.replicate (fn.ntmps-bH.size) undef,defers:=[] } w:=Rel.begin hn hl hlen hr;refine aeA (h old w w _ _ w 0 gm rfl R) ?_;intro e a' w' he
 have fin:(∃ g' S H,Rel P w n bz g' S H a' w'∧eA g'.old∧g'.old.c=old∧∃ v,cL P n fn.results.toList S H=some v∧out = .ret v) →
   LeavesInM (FR none) 0 P fn a'.tmps (Ends P old w out) a'.defers .returning w':=by
  rintro⟨g',S,H,R',⟨Ds,h1,h2,h3⟩,hc,v,hv,rfl⟩;rw[R'.defers,h2]
  refine uf Ds R' h1 h3 λg2 w2 R2 jv=>?_
  obtain⟨c,r1,r2,r3⟩:=tj R2 hv;refine⟨c,r1,?_,g2.hi,λb hb=>(R2.fresh b hb).1,c,rfl,?_,?_⟩
  .have:=R2.below;rwa [R2.base]at this
  .have:g2.Pr=nZ w.heap.size old g2.hi:=by
    funext b k
    simp only[Gh.Pr,nZ,R2.base,jv,hc]
   rw[this]at r2;exact .data _ _ r2
  .rwa [R2.base]at r3
 cases e with
 |normal=>exact fin he
 |ret=>exact fin he
 |exit id=>obtain⟨_,_,_,_,h⟩:=he;exact h.elim
 |panic chain=>
  obtain⟨o,v,c,hi,S,H,h1,h2,h3,h4,h5,h6,rfl,rfl⟩:=he;subst h2;show LeavesInM (FR none) 0 P fn a'.tmps _ a'.defers _ w';rw[h1,h6];exact⟨h3,hi,h4,c,rfl,h5⟩
 |goto l=>exact he.elim
 |outgrown=>exact he.elim
def YN(n:Nat)(rs:List ResultVar)(out:eE):cw->an->aq->Prop
 |.normal,S,H|.ret,S,H=>∃t fn fi ca,rs=[.tmp t]/\t<n/\S t=.func fn fi ca/\out=.ret (fz H (S t))
 |_,_,_=>False
open Classical in
def AC.Et (hG:aw GI) (hm:P.follows .mixedOrders=true) {f:Nat} {fn:Func} {c:Code} {args:List AV} {out:eE} (hf:P.funcs[f]? = some fn) (hb:fn.body=some c) (hn:fn.ntmps=n) (hl:args.length≤n) {ac:af} (hc:cC P n c=ac)
  (h:bL P GI ac (YN n fn.results.toList out) (start args) (λ_=>none)):AC P GI f args out:=by
 intro w old bH gm hlen hr;refine afc hf hb ?_;subst hc;have R:Rel P w n bz _ (start args) (λ_=>none) { tmps:=bH++Array.replicate (fn.ntmps-bH.size) undef,defers:=[] } w:=Rel.begin hn hl hlen hr;refine afU (lJ hG gm hm c _ _ _ _ _ w (λ_ _ h=>h) rfl R h) ?_;intro e a' w' he
 have fin:(∃ g' S H,g'.old=Old.plain old w∧Rel P w n bz g' S H a' w'∧∃ t f' fi ca,fn.results.toList=[.tmp t]∧t < n∧S t = .func f' fi ca∧out = .ret (fz H (S t))) →
   a'.defers=[]/\∃v,(results fn a'.tmps).run P w'=.ok v w'/\Ends P old w out (.returned v) w':=by
  rintro⟨g',S,H,e1,R',t,f',fi,ca,hrs,ht,hS,rfl⟩
  have aa1:fn.results=#[.tmp t]:=by
   rw[<-Array.toArray_toList (xs:=fn.results),hrs]
  have hv:=R'.fz (R'.slot t ht id) true (λ_=>rfl)
  have DH:∀b,(∃i,g'.al i=some b)->g'.base<=b/\g'.hi b=0/\∃vs ty,w'.heap[b]?=some (.cells vs ty (0,0)):=by
   rintro b ⟨i,hi⟩;obtain⟨cs,vs,ty,h1,h2,h3,h4,_⟩:=R'.box i b hi;exact⟨h2,h4,vs,ty,h3⟩
  let cQ:Nat->Nat:=λb=>if∃i,g'.al i=some b then(match w'.heap[b]? with|some (.cells vs _ _)=>vs.size|_=>0)else g'.hi b
  have pj:∀b k,g'.Pr b k->nZ w.heap.size old cQ b k:=by
   intro b k hp
   rcases hp with⟨q1,q2⟩|⟨q1,q2⟩
   .exact .inl ⟨by rw[<-R'.base];exact q1,by rw[e1]at q2;exact q2⟩
   .refine .inr ⟨by rw[<-R'.base];exact q1,?_⟩;show k<(if∃i,g'.al i=some b then _ else g'.hi b);rw[if_neg]
    .exact q2
    .intro hex;rw[(DH b hex).2.1]at q2;omega
  refine⟨by rw[R'.defers,e1];rfl,a'.tmps.getD t undef,by simp[results,aa1],?_,cQ,λb hb=>?_,_,rfl,?_,?_⟩
  .have:=R'.below;rwa [R'.base]at this
  .show(if∃i,g'.al i=some b then _ else g'.hi b)=0;rw[if_neg]
   .exact(R'.fresh b hb).1
   .intro hex;obtain⟨_,_,vs,ty,h3⟩:=DH b hex;have:=(acz.1 h3).1;omega
  .refine hv.mono ?_ (λ_ _ h=>h);refine{ cell:=λb k hp u hu=>⟨?_,hu⟩,map:=λb hp es cc Ab=>⟨?_,Ab⟩ }
   .rcases hp with hp|⟨_,hex⟩
    .exact pj b k hp
    .obtain⟨h1,h2,vs,ty,h3⟩:=DH b hex;refine .inr ⟨by rw[<-R'.base];exact h1,?_⟩;show k<(if∃i,g'.al i=some b then _ else g'.hi b);rw[if_pos hex,h3];simp[World.cell?,h3]at hu;exact(acz.1 hu).1
   .rcases hp with hp|⟨_,hex⟩
    .exact pj b 0 hp
    .obtain⟨h1,h2,vs,ty,h3⟩:=DH b hex;rw[h3]at Ab;cases Ab
  .rw[hS];simp only[fz]
   trivial
 cases e with
 |normal=>exact fin he
 |ret=>exact fin he
 |exit id=>obtain⟨_,_,_,_,_,h⟩:=he;exact h.elim
 |panic chain=>obtain⟨_,_,_,_,_,_,_,_,_,_,h⟩:=he;exact h.elim
 |goto l=>exact he.elim
 |outgrown=>exact he.elim
end
def oc{α:Type}{p A b s:α->Prop}{o:α}(h:A o)(k:s o)(hp:p o:=by kernel_rfl)(hb:b o:=by simp[da,au]):∃o,p o/\A o/\b o/\s o:=⟨o,hp,h,hb,k⟩
inductive TT(α:Type) where
 |lf (v:α)
 |nd (a b c d:TT α)
namespace TT
variable{α:Type}
noncomputable def G(z:α)(k:Nat):TT α->Nat->α:=
 Nat.rec (motive:=λ_=>TT α->Nat->α) (λt _=>match t with|.lf v=>v|.nd ..=>z)
  (λ_ ih t i=>match t with
   |.lf v=>v
   |.nd a b c d=>bif Nat.beq (i % 4) 0 then ih a (i/4)else bif Nat.beq (i % 4) 1 then ih b (i/4)else bif Nat.beq (i % 4) 2 then ih c (i/4)else ih d (i/4)) k
noncomputable def P(k:Nat):TT α->Nat->α->TT α:=
 Nat.rec (motive:=λ_=>TT α->Nat->α->TT α) (λ_ _ v=>.lf v)
  (λ_ ih t i v=>match t with
   |.lf x=>bif Nat.beq (i % 4) 0 then .nd (ih (.lf x) (i/4) v) (.lf x) (.lf x) (.lf x)else bif Nat.beq (i % 4) 1 then .nd (.lf x) (ih (.lf x) (i/4) v) (.lf x) (.lf x)else bif Nat.beq (i % 4) 2 then .nd (.lf x) (.lf x) (ih (.lf x) (i/4) v) (.lf x)else .nd (.lf x) (.lf x) (.lf x) (ih (.lf x) (i/4) v)
   |.nd a b c d=>bif Nat.beq (i % 4) 0 then .nd (ih a (i/4) v) b c d else bif Nat.beq (i % 4) 1 then .nd a (ih b (i/4) v) c d else bif Nat.beq (i % 4) 2 then .nd a b (ih c (i/4) v) d else .nd a b c (ih d (i/4) v)) k
noncomputable def M(f:α->α)(k:Nat):TT α->TT α:=
 Nat.rec (motive:=λ_=>TT α->TT α) (λt=>match t with|.lf v=>.lf (f v)|t=>t)
  (λ_ ih t=>match t with
   |.lf v=>.lf (f v)
   |.nd a b c d=>.nd (ih a) (ih b) (ih c) (ih d)) k
def M9(z x:α):∀k i,G z k (.lf x) i=x
 |0,_=>rfl
 |_+1,_=>rfl
def QL(z:α)(k:Nat)(a b c d:TT α)(i:Nat):G z (k+1) (.nd a b c d) i=bif Nat.beq (i % 4) 0 then G z k a (i/4)else bif Nat.beq (i % 4) 1 then G z k b (i/4)else bif Nat.beq (i % 4) 2 then G z k c (i/4)else G z k d (i/4):=rfl
def four(i:Nat):i % 4=0\/i % 4=1\/i % 4=2\/i % 4=3:=by omega
def G_P(z:α):∀(k:Nat)(t:TT α)(i j:Nat)(v:α),i<4^k->j<4^k->G z k (P k t i v) j=if j=i then v else G z k t j
 |0,t,i,j,v,hi,hj=>by
  have:i=0:=by simpa using hi
  have:j=0:=by simpa using hj
  subst_vars;rfl
 |k+1,t,i,j,v,hi,hj=>by
  have P6:i/4<4^k:=by rw[Nat.pow_succ]at hi;omega
  have hj4:j/4<4^k:=by rw[Nat.pow_succ]at hj;omega
  have ih:=λt=>G_P z k t (i/4) (j/4) v P6 hj4
  have hd:j=i↔(j % 4=i % 4/\j/4=i/4):=⟨λh=>by subst h;exact⟨rfl,rfl⟩,λ⟨h1,h2⟩=>by omega⟩
  cases t with
  |lf x=>
   show G z (k+1) (bif Nat.beq (i % 4) 0 then .nd (P k (.lf x) (i/4) v) (.lf x) (.lf x) (.lf x)else bif Nat.beq (i % 4) 1 then .nd (.lf x) (P k (.lf x) (i/4) v) (.lf x) (.lf x)else bif Nat.beq (i % 4) 2 then .nd (.lf x) (.lf x) (P k (.lf x) (i/4) v) (.lf x)else .nd (.lf x) (.lf x) (.lf x) (P k (.lf x) (i/4) v)) j=_;rw[M9];have ih:=ih (.lf x);rw[M9]at ih
   rcases four i with h|h|h|h<;>rcases four j with h'|h'|h'|h'<;>simp[h,h',QL,hd,ih,M9,Nat.beq]
  |nd a b c d=>
   show G z (k+1) (bif Nat.beq (i % 4) 0 then .nd (P k a (i/4) v) b c d else bif Nat.beq (i % 4) 1 then .nd a (P k b (i/4) v) c d else bif Nat.beq (i % 4) 2 then .nd a b (P k c (i/4) v) d else .nd a b c (P k d (i/4) v)) j=_
   rcases four i with h|h|h|h<;>rcases four j with h'|h'|h'|h'<;>simp[h,h',QL,hd,ih,Nat.beq]
def X4(z:α)(f:α->α)(hz:f z=z):∀(k:Nat)(t:TT α)(j:Nat),G z k (M f k t) j=f (G z k t j)
 |0,t,j=>by cases t<;>first|rfl|exact hz.symm
 |k+1,t,j=>by
  cases t with
  |lf x=>rfl
  |nd a b c d=>
   show G z (k+1) (.nd (M f k a) (M f k b) (M f k c) (M f k d)) j=_
   rcases four j with h|h|h|h<;>simp[h,QL,X4 z f hz k,Nat.beq]
end TT
abbrev TS:=TT AV
abbrev TH:=TT (Option (List AV))
noncomputable def gT(s:TS):an:=λt=>bif Nat.ble 256 t then bO else s.G bO 4 t
noncomputable def gU(h:TH):aq:=λt=>bif Nat.ble 256 t then none else h.G none 4 t
noncomputable def kH{α:Type}(s:TT α)(i:Nat)(v:α):Option (TT α):=bif Nat.ble 256 i then none else some (s.P 4 i v)
def DN{α:Type}{s s':TT α}{i:Nat}{v:α}(z:α)(h:kH s i v=some s'):(λt=>bif Nat.ble 256 t then z else s'.G z 4 t)=au (λt=>bif Nat.ble 256 t then z else s.G z 4 t) i v:=by
 unfold kH at h
 cases hb:Nat.ble 256 i with
 |true=>rw[hb]at h;cases h
 |false=>
  rw[hb]at h;cases h
  have hi:i<256:=by
   have:¬256<=i:=λhh=>by rw[aga hh]at hb;cases hb
   omega
  funext t
  unfold au
  cases ht:Nat.ble 256 t with
  |true=>
   have:256<=t:=aen ht;rw[if_neg (by omega)];simp[ht]
  |false=>
   have:t<256:=by
    have:¬256<=t:=λhh=>by rw[aga hh]at ht;cases ht
    omega
   simp only[ht,cond_false];exact TT.G_P z 4 s i t v hi this
def mV{s s':TS}{i:Nat}{v:AV}(h:kH s i v=some s'):gT s'=au (gT s) i v:=DN bO h
def ql{s s':TH}{i:Nat}{v:Option (List AV)}(h:kH s i v=some s'):gU s'=au (gU s) i v:=DN none h
noncomputable def rP(d:Nat)(s:TS):TS:=s.M (bQ d) 4
def tm(d:Nat)(s:TS):gT (rP d s)=λt=>bQ d (gT s t):=by
 funext t
 unfold gT rP
 cases Nat.ble 256 t with
 |true=>rfl
 |false=>exact TT.X4 bO (bQ d) rfl 4 s t
noncomputable def vL(s:TS):Option Nat->AV->Option TS
 |some d,v=>kH s d v
 |none,_=>some s
def tM{s s':TS}{d:Option Nat}{v:AV}(h:vL s d v=some s'):gT s'=aY (gT s) d v:=by
 cases d with
 |none=>cases h;rfl
 |some d=>exact mV h
noncomputable def ND(e:aQ)(dst:Option Nat)(s:TS)(h:TH):Option (TS×TH):=
 match(match e.dm with|some t=>kH s t (gT s t).aH|none=>some s)with
 |none=>none
 |some s1=>match vL s1 dst e.v with
  |none=>none
  |some s2=>match e.hw with
   |some (i,cs)=>match kH h i (some cs)with
    |some h'=>some (s2,h')
    |none=>none
   |none=>some (s2,h)
def O9{e:aQ}{dst:Option Nat}{s s':TS}{h h':TH}(hh:ND e dst s h=some (s',h')):gT s'=e.S (gT s) dst/\gU h'=e.H (gU h):=by
 unfold ND at hh;split at hh
 .cases hh
 rename_i s1 h1
 have e1:gT s1=(match e.dm with|some t=>au (gT s) t (gT s t).aH|none=>gT s):=by
  cases hd:e.dm with
  |none=>rw[hd]at h1;cases h1;rfl
  |some t=>rw[hd]at h1;exact mV h1
 split at hh
 .cases hh
 rename_i s2 h2;have e2:=tM h2;unfold aQ.S aQ.H;rw[e1]at e2;split at hh
 .rename_i i cs hw
  split at hh<;>cases hh
  rename_i h3;exact⟨e2,by rw[hw];exact ql h3⟩
 .rename_i hw;cases hh;exact⟨e2,by rw[hw]⟩
inductive te where
 |go (s:TS) (h:TH)|panic (v:AV)
noncomputable def te.on(K:an->aq->Prop)(Qp:AV->Prop):te->Prop
 |.go s h=>K (gT s) (gU h)
 |.panic v=>Qp v
noncomputable def j6(dst:Option Nat)(s:TS)(h:TH):eE->Option te
 |.ret v=>(vL s dst v).map λs'=>.go s' h
 |.panic v=>some (.panic v)
noncomputable def stepT(P:Program)(call:eS)(op:dT)(dst:Option Nat)(s:TS)(h:TH):Option te:=
 match op with
 |.alloc _ zero=>match dst with
  |some d=>match kH (rP d s) d (.box d 0),kH h d (some zero)with
   |some s',some h'=>some (.go s' h')
   |_,_=>none
  |none=>none
 |.box _ size x=>match dst with
  |some d=>if (ev (gT s) x).cells.length=size∧(ev (gT s) x).storable=true then
    match kH (rP d s) d (.box d 0),kH h d (some ((ev (gT s) x).cells.map AV.aH))with
    |some s',some h'=>some (.go s' h')
    |_,_=>none
   else none
  |none=>none
 |.call f args=>match x_ P call f (args.map λy=>fz (gU h) (ev (gT s) y)) (args.any λy=>da (ev (gT s) y))with
  |some out=>j6 dst s h out
  |none=>none
 |.fc f args=>match ev (gT s) f with
  |.func (.func k) first cap=>match x_ P call k ((first++args.map (ev (gT s))++cap).map (fz (gU h))) ((first++args.map (ev (gT s))++cap).any da)with
   |some out=>j6 dst s h out
   |none=>none
  |_=>none
 |.panic x=>match ev (gT s) x with
  |.iface t v=>some (.panic (.iface t v))
  |_=>none
 |op=>match aD (gT s) (gU h) op with
  |some e=>(ND e dst s h).map λ(s',h')=>.go s' h'
  |none=>none
noncomputable def CG(P:Program)(call:eS):List bB->TS->TH->Option te
 |[],s,h=>some (.go s h)
 |o::rest,s,h=>match aG (gT s) o.guard with
  |some true=>match stepT P call o.op o.dst s h with
   |some (.go s' h')=>CG P call rest s' h'
   |r=>r
  |some false=>match vL s o.dst bO with
   |some s'=>CG P call rest s' h
   |none=>none
  |none=>none
noncomputable def vp:List bB->TS->TH->Option (TS×TH)
 |[],s,h=>some (s,h)
 |o::l,s,h=>match bt o with
  |some (d,z)=>match kH (rP d s) d (.box d 0),kH h d (some z)with
   |some s',some h'=>vp l s' h'
   |_,_=>none
  |none=>vp l s h
noncomputable def pD(P:Program)(call:eS)(op:dT)(dst:Option Nat)(s:TS)(h:TH):Option (TS×TH):=
 match op with
 |.alloc _ _=>match dst with
  |some d=>(kH s d (.box d 0)).map λs'=>(s',h)
  |none=>none
 |.box ..|.panic _|.other=>none
 |.call f args=>if(args.any λy=>da (ev (gT s) y))then none else match stepT P call (.call f args) dst s h with
  |some (.go s' h')=>some (s',h')
  |_=>none
 |.fc f args=>if(match ev (gT s) f with|.func _ first cap=>(first++args.map (ev (gT s))++cap).any da|_=>true)then none else match stepT P call (.fc f args) dst s h with
  |some (.go s' h')=>some (s',h')
  |_=>none
 |op=>match stepT P call op dst s h with
  |some (.go s' h')=>some (s',h')
  |_=>none
noncomputable def vy(P:Program)(call:eS):List bB->TS->TH->Option (TS×TH)
 |[],s,h=>some (s,h)
 |o::rest,s,h=>match aG (gT s) o.guard with
  |some true=>match pD P call o.op o.dst s h with
   |some (s',h')=>vy P call rest s' h'
   |none=>none
  |some false=>match vL s o.dst bO with
   |some s'=>vy P call rest s' h
   |none=>none
  |none=>none
noncomputable def yG(body:TS->TH->Option (cw×TS×TH)):Nat->TS->TH->Option (cw×TS×TH)
 |0,_,_=>none
 |k+1,s,h=>match body s h with
  |some (.normal,s',h')=>yG body k s' h'
  |r=>r
noncomputable def kE(P:Program)(call:eS)(m:Nat):af->TS->TH->Option (cw×TS×TH)
 |.skip,s,h=>some (.normal,s,h)
 |.ops l,s,h=>match CG P call l s h with
  |some (.go s' h')=>some (.normal,s',h')
  |some (.panic v)=>some (.panic v,s,h)
  |none=>none
 |.cq l,s,h=>match vp l s h with
  |some (s1,h1)=>match vy P call l s1 h1 with
   |some (s',h')=>some (.normal,s',h')
   |none=>none
  |none=>none
 |.seq x y,s,h=>match kE P call m x s h with
  |some (.normal,s',h')=>kE P call m y s' h'
  |r=>r
 |.cond c x y,s,h=>match ev (gT s) c with
  |.bool true=>kE P call m x s h
  |.bool false=>kE P call m y s h
  |_=>none
 |.block id c,s,h=>match kE P call m c s h with
  |some (.exit j,s',h')=>if j=id then some (.normal,s',h')else some (.exit j,s',h')
  |r=>r
 |.loop c,s,h=>yG (kE P call m c) m s h
 |.exit id,s,h=>some (.exit id,s,h)
 |.ret,s,h=>some (.ret,s,h)
 |.bad,_,_=>none
section
variable{P:Program}{GI:World->Prop}{call:eS}(d_:∀f args out,call f args=some out->AC P GI f args out)
include d_
omit d_ in
def IF {dst:Option Nat} {s:TS} {h:TH} {out:eE} {r:te} (hr:j6 dst s h out=some r) {K:an→aq→Prop} {Qp:AV→Prop}
  (hk:r.on K Qp):j0 out (λv=>K (aY (gT s) dst v) (gU h)) Qp:=by
 cases out with
 |ret v=>
  simp only[j6,acE]at hr;obtain⟨s',h1,rfl⟩:=hr;show K _ _;rw[<-tM h1];exact hk
 |panic v=>cases hr;exact hk
def mm {op:dT} {dst:Option Nat} {s:TS} {h:TH} {r:te} (hr:stepT P call op dst s h=some r) {K:an→aq→Prop} {Qp:AV→Prop}
  (hk:r.on K Qp):bh P GI op dst K Qp (gT s) (gU h):=by
 cases op
 case alloc t z=>
  cases dst with
  |none=>cases hr
  |some d=>
   simp only[stepT]at hr
   split at hr<;>cases hr
   rename_i h1 h2;simp only[bh];rw[<-tm,<-mV h1,<-ql h2];exact hk
 case box t size x=>
  cases dst with
  |none=>cases hr
  |some d=>
   simp only[stepT]at hr;split at hr
   case isFalse=>cases hr
   rename_i hc
   split at hr<;>cases hr
   rename_i h1 h2;simp only[bh];rw[<-tm,<-mV h1,<-ql h2];exact⟨hc.1,hc.2,hk⟩
 case call f args=>
  simp only[stepT]at hr;split at hr
  case h_2=>cases hr
  rename_i out ho;exact wM d_ ho (IF hr hk)
 case fc f args=>
  simp only[stepT]at hr;simp only[bh];split at hr
  case h_2=>cases hr
  rename_i k first cap hf;rw[hf];split at hr
  case h_2=>cases hr
  rename_i out ho;exact wM d_ ho (IF hr hk)
 case panic x=>
  simp only[stepT]at hr;split at hr
  case h_2=>cases hr
  rename_i t v hx;cases hr;simp only[bh,hx];exact hk
 case other=>cases hr
 all_goals
  simp only[stepT]at hr;simp only[bh];split at hr
  case h_2=>cases hr
  rename_i e he;simp only[acE,Prod.exists]at hr;obtain⟨s',h',h1,rfl⟩:=hr;rw[he];obtain⟨e1,e2⟩:=O9 h1;simp only;rw[<-e1,<-e2];exact hk
def pJ:∀ {l:List bB} {s:TS} {h:TH} {r:te},CG P call l s h=some r→∀ {K:an→aq→Prop} {Qp:AV→Prop},
  r.on K Qp->bw P GI l K Qp (gT s) (gU h)
 |[],s,h,r,hr,K,Qp,hk=>by cases hr;exact hk
 |o::l,s,h,r,hr,K,Qp,hk=>by
  simp only[CG]at hr;simp only[bw];split at hr
  .rename_i hw;rw[hw];simp only;split at hr
   .rename_i s' h' hs;exact mm d_ hs (r:=.go s' h') (pJ hr hk)
   .rename_i bP
    cases r with
    |go s' h'=>exact absurd hr (bP s' h')
    |panic v=>exact mm d_ hr hk
  .rename_i hw;rw[hw];simp only;split at hr
   case h_2=>cases hr
   rename_i s' hs;rw[<-tM hs];exact pJ hr hk
  .cases hr
omit d_ in
def uI:∀{l:List bB}{s s':TS}{h h':TH},vp l s h=some (s',h')->gT s'=eo l (gT s)/\gU h'=dG l (gU h)
 |[],s,s',h,h',hh=>by cases hh;exact⟨rfl,rfl⟩
 |o::l,s,s',h,h',hh=>by
  simp only[vp]at hh;simp only[eo,dG];split at hh
  .rename_i d z ha
   try rw[ha]
   try simp only
   split at hh
   case h_2=>cases hh
   rename_i s1 h1 e1 e2;rw[<-tm,<-mV e1,<-ql e2];exact uI hh
  .rename_i ha
   try rw[ha]
   exact uI hh
def C3{op:dT}{dst:Option Nat}{s s':TS}{h h':TH}(hr:pD P call op dst s h=some (s',h')){K:an->aq->Prop}(hk:K (gT s') (gU h')):jf P GI op dst K (gT s) (gU h):=by
 cases op
 case alloc t z=>
  simp only[pD]at hr;split at hr
  case h_2=>cases hr
  simp only[acE]at hr;obtain⟨s1,h1,h2⟩:=hr;cases h2;simp only[jf];rw[<-mV h1];exact hk
 case box=>cases hr
 case panic=>cases hr
 case other=>cases hr
 case call f args=>
  simp only[pD]at hr;split at hr
  case isTrue=>cases hr
  rename_i hb;split at hr
  case h_2=>cases hr
  rename_i s1 h1 hs;cases hr;exact⟨by simpa using hb,mm d_ hs (r:=.go s' h') hk⟩
 case fc f args=>
  unfold pD at hr;simp only at hr
  by_cases hb:(match ev (gT s) f with|.func _ first cap=>(first++args.map (ev (gT s))++cap).any da|_=>true)=true
  .rw[if_pos hb]at hr;cases hr
  .rw[if_neg hb]at hr;split at hr
   case h_2=>cases hr
   rename_i s1 h1 hs;cases hr;refine⟨?_,mm d_ hs (r:=.go s' h') hk⟩;generalize ev (gT s) f=q at hb
   cases q<;>first|exact absurd trivial hb|exact absurd rfl hb|(exact Bool.eq_false_iff.2 hb)
 all_goals
  simp only[pD]at hr;split at hr
  case h_2=>cases hr
  rename_i s1 h1 hs;cases hr;exact mm d_ hs (r:=.go s' h') (Qp:=λ_=>False) hk
def rJ:∀{l:List bB}{s s':TS}{h h':TH},vy P call l s h=some (s',h')->∀{K:an->aq->Prop},K (gT s') (gU h')->cq P GI l K (gT s) (gU h)
 |[],s,s',h,h',hr,K,hk=>by cases hr;exact hk
 |o::l,s,s',h,h',hr,K,hk=>by
  simp only[vy]at hr;simp only[cq];split at hr
  .rename_i hw;rw[hw];simp only;split at hr
   case h_2=>cases hr
   rename_i s1 h1 hs;exact C3 d_ hs (rJ hr hk)
  .rename_i hw;rw[hw];simp only;split at hr
   case h_2=>cases hr
   rename_i s1 hs;rw[<-tM hs];exact rJ hr hk
  .cases hr
def fJ{m:Nat}:∀{c:af}{s s':TS}{h h':TH}{e:cw},kE P call m c s h=some (e,s',h')->∀{Q:cw->an->aq->Prop},Q e (gT s') (gU h')->bL P GI c Q (gT s) (gU h)
 |.skip,s,s',h,h',e,hr,Q,hq=>by cases hr;exact hq
 |.ops l,s,s',h,h',e,hr,Q,hq=>by
  simp only[kE]at hr;simp only[bL]
  split at hr<;>cases hr
  .rename_i hs;exact pJ d_ hs (r:=.go s' h') hq
  .rename_i v hs;exact pJ d_ hs (r:=.panic v) hq
 |.cq l,s,s',h,h',e,hr,Q,hq=>by
  simp only[kE]at hr;simp only[bL];split at hr
  case h_2=>cases hr
  rename_i s1 h1 hp
  split at hr<;>cases hr
  rename_i hs;obtain⟨e1,e2⟩:=uI hp;rw[<-e1,<-e2];exact rJ d_ hs hq
 |.seq x y,s,s',h,h',e,hr,Q,hq=>by
  simp only[kE]at hr;simp only[bL];split at hr
  .rename_i s1 h1 hx;exact fJ hx (show dE _ _ _ _ _ from fJ hr hq)
  .rename_i bP;refine fJ hr ?_
   cases e with
   |normal=>exact absurd hr (bP _ _)
   |exit id=>exact hq
   |ret=>exact hq
   |panic v=>exact hq
 |.cond c x y,s,s',h,h',e,hr,Q,hq=>by
  simp only[kE]at hr;simp only[bL];split at hr
  .rename_i hc;rw[hc];exact fJ hr hq
  .rename_i hc;rw[hc];exact fJ hr hq
  .cases hr
 |.block id c,s,s',h,h',e,hr,Q,hq=>by
  simp only[kE]at hr;simp only[bL];split at hr
  .rename_i j s1 h1 hx;refine fJ hx ?_;simp only[dj];split at hr
   .rename_i hj;cases hr;rw[if_pos hj];exact hq
   .rename_i hj;cases hr;rw[if_neg hj];exact hq
  .rename_i bP;refine fJ hr ?_
   cases e with
   |normal=>exact hq
   |exit j=>exact absurd hr (bP _ _ _)
   |ret=>exact hq
   |panic v=>exact hq
 |.loop c,s,s',h,h',e,hr,Q,hq=>by
  simp only[kE]at hr;simp only[bL]
  let p:an->aq->Nat->Prop:=λS H k=>∃s h,gT s=S/\gU h=H/\yG (kE P call m c) k s h=some (e,s',h')
  refine⟨λS H=>∃k,p S H k,λS H=>least (p S H),⟨m,s,h,rfl,rfl,hr⟩,?_⟩;intro S H hI;obtain⟨⟨s1,h1,rfl,rfl,hl⟩,_⟩:=zu hI;generalize hk:least (p (gT s1) (gU h1))=k at hl
  cases k with
  |zero=>cases hl
  |succ k=>
   simp only[yG]at hl;split at hl
   .rename_i s2 h2 hb;refine fJ hb ?_
    have hp:p (gT s2) (gU h2) k:=⟨s2,h2,rfl,rfl,hl⟩
    refine⟨⟨k,hp⟩,?_⟩;have:=(zu ⟨k,hp⟩).2 k hp;show least (p (gT s2) (gU h2))<least (p (gT s1) (gU h1));omega
   .rename_i bP;refine fJ hl ?_
    cases e with
    |normal=>exact absurd hl (bP _ _)
    |exit id=>exact hq
    |ret=>exact hq
    |panic v=>exact hq
 |.exit id,s,s',h,h',e,hr,Q,hq=>by cases hr;exact hq
 |.ret,s,s',h,h',e,hr,Q,hq=>by cases hr;exact hq
 |.bad,s,s',h,h',e,hr,Q,hq=>by cases hr
end
noncomputable def wP:TS->Nat->List AV->TS
 |s,_,[]=>s
 |s,i,v::vs=>wP (s.P 4 i v.aH) (i+1) vs
def zm:∀(args:List AV)(s:TS)(i:Nat),i+args.length<=256->gT (wP s i args)=λt=>if t<i then gT s t else if t<i+args.length then(args.getD (t-i) bO).aH else gT s t
 |[],s,i,_=>by
  funext t
  simp only[wP,List.length_nil,Nat.add_zero];split
  .rfl
  .rfl
 |v::vs,s,i,hl=>by
  simp only[List.length_cons]at hl;rw[wP,zm vs _ (i+1) (by omega)]
  have hs:kH s i v.aH=some (s.P 4 i v.aH):=by
   unfold kH
   have:Nat.ble 256 i=false:=by
    cases h:Nat.ble 256 i with
    |false=>rfl
    |true=>have:=aen h;omega
   rw[this];rfl
  rw[mV hs]
  funext t
  by_cases h1:t<i
  .rw[if_pos (by omega),if_pos h1,aN _ _ (by omega)]
  .by_cases h2:t=i
   .subst h2;rw[if_pos (by omega),if_neg (by omega),if_pos (by simp),aK];simp
   .rw[if_neg (by omega),if_neg h1]
    by_cases h3:t<i+1+vs.length
    .rw[if_pos h3,if_pos (by simp;omega)]
     have:t-i=(t-(i+1))+1:=by omega
     rw[this];rfl
    .rw[if_neg h3,if_neg (by simp;omega),aN _ _ h2]
noncomputable def tP(args:List AV):TS:=wP (.lf bO) 0 args
def zN(args:List AV)(h:args.length<=256):gT (tP args)=start args:=by
 unfold tP;rw[zm args _ 0 (by omega)]
 funext t
 simp only[af4,acW,ac_,start]
 by_cases ht:t<args.length
 .simp[ht]
 .have:args[t]?=none:=acU (by omega);simp only[ht,acW];unfold gT
  cases Nat.ble 256 t<;>simp[TT.M9,this,bO,AV.aH,ht]
def Ig:gU (.lf none)=λ_=>none:=by
 funext t
 unfold gU
 cases Nat.ble 256 t<;>rfl
noncomputable def BM(P:Program)(call:eS)(m:Nat)(fn:td)(args:List AV):Option eE:=
 bif Nat.ble args.length fn.n&&Nat.ble args.length 256 then
  match kE P call m fn.code (tP args) (.lf none)with
  |some (.normal,s,h)|some (.ret,s,h)=>(cL P fn.n fn.res (gT s) (gU h)).map .ret
  |some (.panic v,_,_)=>some (.panic v)
  |_=>none
 else none
noncomputable def runT(P:Program)(ki:eS)(qq:Nat->Option td)(m:Nat)(d:Nat):eS:=
 Nat.rec (motive:=λ_=>eS) (λ_ _=>none) (λ_ ih f args=>match qq f with
  |some fn=>BM P ih m fn args
  |none=>ki f args) d
def yP {P:Program} {GI:World→Prop} (hG:aw GI) (hm:P.follows .mixedOrders=true) {ki:eS} {qq:Nat→Option td} {m:Nat} (hp:∀ f args out,ki f args=some out→AC P GI f args out) (ht:Kg P qq) :
  ∀(d:Nat)(f:Nat)(args:List AV)(out:eE),runT P ki qq m d f args=some out->AC P GI f args out
 |0,_,_,_,h=>by cases h
 |d+1,f,args,out,h=>by
  have h:(match qq f with|some fn=>BM P (runT P ki qq m d) m fn args|none=>ki f args)=some out:=h;split at h
  case h_2=>exact hp _ _ _ h
  rename_i fn hf;obtain⟨F,c,h1,h2,h3,h4,h5⟩:=ht f fn hf;unfold BM at h
  cases hb:(Nat.ble args.length fn.n&&Nat.ble args.length 256)with
  |false=>rw[hb]at h;cases h
  |true=>
  rw[hb]at h;simp only[cond_true]at h;rw[acA]at hb;have hl:=aen hb.1;have pz:=aen hb.2
  have hs:=λ(e:cw)(s:TS)(hh:TH)=>@fJ P GI (runT P ki qq m d) (λf args out=>yP hG hm hp ht d f args out) m fn.code (tP args) s (.lf none) hh e
  simp only[zN args pz,Ig]at hs;refine AC.Hg hG hm h1 h2 h3 hl h5 ?_;rw[h4];split at h
  .rename_i s hh hc;simp only[acE]at h;obtain⟨v,hv,rfl⟩:=h;exact hs _ _ _ hc ⟨v,hv,rfl⟩
  .rename_i s hh hc;simp only[acE]at h;obtain⟨v,hv,rfl⟩:=h;exact hs _ _ _ hc ⟨v,hv,rfl⟩
  .rename_i v s hh hc;cases h;exact hs _ _ _ hc rfl
  .cases h
end Go.AL
namespace Go.AL
open Go.RowKit
def M7:dT->an->aq->Option aQ
 |.mv take x=>λS H=>if take then some { v:=ev S x,dm:=bG x }else some { v:=(ev S x).aH }
 |.pick c a b=>λS H=>match ev S c with
  |.bool t=>some { v:=(if t then ev S a else ev S b).aH }
  |_=>none
 |.build zero parts=>λS H=>(bV zero (parts.map λ(o,s,x)=>(o,s,ev S x))).map λcs=>{ v:=.agg cs }
 |.buildSlice _ e size parts=>λS H=>
  if aJ size (parts.map (ev S))&&parts.length*size<=16777216 then some { v:=.slice (.own e) ((parts.map (ev S)).map AV.vw) }else none
 |.load hr agg size x=>λS H=>match ev S x with
  |.box i off=>if hr.okB i then match H i with
   |some cs=>(b0 agg size (cs.drop off)).map λv=>{ v:=v }
   |none=>none
   else none
  |.ref cs=>(b0 agg size cs).map λv=>{ v:=v }
  |_=>none
 |.loadT hr x=>λS H=>match ev S x with
  |.box i off=>if hr.okB i then match H i with
   |some cs=>match cs[off]? with
    |some v=>some { v:=v,hw:=some (i,cs.set off v.aH) }
    |none=>none
   |none=>none
   else none
  |_=>none
 |.store hr size x y=>λS H=>match ev S x with
  |.box i off=>if hr.okB i then match H i with
   |some cs=>if (ev S y).cells.length=size∧off+size≤cs.length∧(ev S y).storable=true then
     some { v:=bO,dm:=bG y,hw:=some (i,bu cs off (ev S y).bZ) }else none
   |none=>none
   else none
  |_=>none
 |.bin op x y=>λS H=>(eF op (ev S x) (ev S y)).map λv=>{ v:=v }
 |.Bp neg x y=>λS H=>match ev S x,ev S y with
  |.bool a,.bool b=>some { v:=.bool (if neg then a !=b else a==b) }
  |_,_=>none
 |.eqs neg k x y=>λS H=>match ev S x,ev S y with
  |.agg xs,.agg ys=>match kU xs,kU ys with
   |some a,some b=>if a.length=k/\b.length=k then some { v:=.bool (if neg then a !=b else a==b) }else none
   |_,_=>none
  |_,_=>none
 |.lK ag len size x i=>λS H=>match ev S x,ev S i with
  |.agg cs,.int .i64 k=>if 0<=k/\k<len then(b0 ag size (cs.drop (k.toNat*size))).map λv=>{ v:=v }else none
  |_,_=>none
 |.mZ xs=>λS H=>if(xs.map (ev S)).all zy then some { v:=.f_ (xs.map (ev S)) }else none
 |.ng len x i=>λS H=>match ev S x,ev S i with
  |.f_ fs,.int .i64 k=>if 0≤k∧k < len then match fs[k.toNat]? with
    |some v=>if zy v then some { v:=v }else none
    |none=>none
   else none
  |_,_=>none
 |.v_ x=>λS H=>match ev S x with
  |.slice _ es=>(bytesOf es).map λl=>{ v:=.str l }
  |_=>none
 |.lookup k z x i=>λS H=>match ev S x,ev S i with
  |.map ks vs,.agg c=>match kU c with
   |some key=>if key.length=k then match mO key ks vs with
     |some (some v)=>some { v:=.dR [v.aH,.bool true] }
     |some none=>some { v:=.dR [z,.bool false] }
     |none=>none
    else none
   |none=>none
  |_,_=>none
 |.not x=>λS H=>match ev S x with
  |.bool b=>some { v:=.bool !b }
  |_=>none
 |.conv k x=>λS H=>match ev S x with
  |.int _ n=>some { v:=.int k (k.wrap n) }
  |_=>none
 |.iface t x=>λS H=>if(ev S x).storable then some { v:=.iface t (ev S x).vw }else none
 |.Dz fn first cap=>λS H=>some { v:=.func fn (first.map λx=>(ev S x).aH) (cap.map λx=>(ev S x).aH) }
 |.nc x lo hi=>λS H=>match ev S x with
  |.str l=>match bound (lo.map (ev S)) 0,bound (hi.map (ev S)) l.length with
   |some a,some b=>if 0<=a/\a<=b/\b<=l.length then some { v:=.str ((l.take b.toNat).drop a.toNat) }else none
   |_,_=>none
  |_=>none
 |.ou len x=>λS H=>match ev S x with
  |.ref cs=>if cs.length=len then some { v:=.slice .view cs }else none
  |_=>none
 |.lH size x lo hi=>λS H=>match ev S x with
  |.slice _ es=>match bound (lo.map (ev S)) 0,bound (hi.map (ev S)) es.length with
   |some a,some b=>if 0<=a/\a<=b/\b<=es.length/\aJ size es=true then some { v:=.slice .view ((es.take b.toNat).drop a.toNat) }else none
   |_,_=>none
  |_=>none
 |.fieldAddr off x=>λS H=>match ev S x with
  |.box i o=>some { v:=.box i (o+off) }
  |.ref cs=>some { v:=.ref (cs.drop off) }
  |_=>none
 |.indexAddr size x i=>λS H=>match ev S x,ev S i with
  |.slice _ es,.int .i64 k=>if 0≤k then match es[k.toNat]? with
    |some v=>if v.cells.length=size then some { v:=.ref v.cells }else none
    |none=>none
   else none
  |_,_=>none
 |.m_ x i=>λS H=>match ev S x,ev S i with
  |.str l,.int .i64 k=>if 0≤k then match l[k.toNat]? with
    |some b=>some { v:=.int .u8 b.toNat }
    |none=>none
   else none
  |_,_=>none
 |.extract x i=>λS H=>match ev S x with
  |.dR vs=>(vs[i]?).map λv=>{ v:=v.aH }
  |_=>none
 |.wU x=>λS H=>match ev S x with
  |.str l=>some { v:=.int .i64 l.length }
  |_=>none
 |.iW x=>λS H=>match ev S x with
  |.slice _ es=>some { v:=.int .i64 es.length }
  |_=>none
 |.isNil neg x=>λS H=>match ev S x with
  |.slice _ es=>some { v:=if es.isEmpty then .lk else .bool neg }
  |_=>none
 |.empty _=>λS H=>some { v:=.slice .nil [] }
 |.append _ e size _ x y=>λS H=>match ev S x,ev S y with
  |.slice .nil [],.slice _ ys=>if aJ size ys&&ys.length<1048576 then some { v:=.slice (if ys.isEmpty then .nil else .own e) ys }else none
  |.slice (.own e') xs,.slice _ ys=>if e'=e/\(aJ size ys&&aJ size xs&&(xs.length+ys.length<1048576))=true then some { v:=.slice (.own e) (xs++ys),dm:=bG x }else none
  |_,_=>none
 |.max x y=>λS H=>match ev S x,ev S y with
  |.int .i64 a,.int .i64 b=>some { v:=.int .i64 (max a b) }
  |_,_=>none
 |.min x y=>λS H=>match ev S x,ev S y with
  |.int .i64 a,.int .i64 b=>some { v:=.int .i64 (min a b) }
  |_,_=>none
 |.assert t zero x=>λS H=>match ev S x with
  |.iface t' v=>some { v:=if t'=t then .dR [v,.bool true]else .dR [zero,.bool false] }
  |.nW=>some { v:=.dR [zero,.bool false] }
  |_=>none
 |_=>λS H=>none
def Kt(S:an)(H:aq)(op:dT):M7 op S H=aD S H op:=by
 cases op<;>rfl
noncomputable def jt:dT->(P:Program)->(call:eS)->(dst:Option Nat)->(s:TS)->(h:TH)->Option te
 |.alloc _ zero=>λ_ _ dst s h=>match dst with
  |some d=>match kH (rP d s) d (.box d 0),kH h d (some zero)with
   |some s',some h'=>some (.go s' h')
   |_,_=>none
  |none=>none
 |.box _ size x=>λ_ _ dst s h=>match dst with
  |some d=>if (ev (gT s) x).cells.length=size∧(ev (gT s) x).storable=true then
    match kH (rP d s) d (.box d 0),kH h d (some ((ev (gT s) x).cells.map AV.aH))with
    |some s',some h'=>some (.go s' h')
    |_,_=>none
   else none
  |none=>none
 |.call f args=>λP call dst s h=>match x_ P call f (args.map λy=>fz (gU h) (ev (gT s) y)) (args.any λy=>da (ev (gT s) y))with
  |some out=>j6 dst s h out
  |none=>none
 |.fc f args=>λP call dst s h=>match ev (gT s) f with
  |.func (.func k) first cap=>match x_ P call k ((first++args.map (ev (gT s))++cap).map (fz (gU h))) ((first++args.map (ev (gT s))++cap).any da)with
   |some out=>j6 dst s h out
   |none=>none
  |_=>none
 |.panic x=>λ_ _ _ s _=>match ev (gT s) x with
  |.iface t v=>some (.panic (.iface t v))
  |_=>none
 |op=>λ_ _ dst s h=>match M7 op (gT s) (gU h)with
  |some e=>(ND e dst s h).map λ(s',h')=>.go s' h'
  |none=>none
def Ew(op:dT)(P:Program)(call:eS)(dst:Option Nat)(s:TS)(h:TH):jt op P call dst s h=stepT P call op dst s h:=by
 cases op<;>first|rfl|(simp only[jt,stepT,Kt])
noncomputable def DR(P:Program)(call:eS)(l:List bB):TS->TH->Option te:=
 List.rec (motive:=λ_=>TS->TH->Option te) (λs h=>some (.go s h)) (λo _ ih s h=>match aG (gT s) o.guard with
  |some true=>match jt o.op P call o.dst s h with
   |some (.go s' h')=>ih s' h'
   |r=>r
  |some false=>match vL s o.dst bO with
   |some s'=>ih s' h
   |none=>none
  |none=>none) l
def Jv(P:Program)(call:eS):∀(l:List bB)(s:TS)(h:TH),DR P call l s h=CG P call l s h
 |[],_,_=>rfl
 |o::l,s,h=>by
  have e:DR P call (o::l) s h=(match aG (gT s) o.guard with
   |some true=>match jt o.op P call o.dst s h with
    |some (.go s' h')=>DR P call l s' h'
    |r=>r
   |some false=>match vL s o.dst bO with
    |some s'=>DR P call l s' h
    |none=>none
   |none=>none):=rfl
  rw[e];simp only[CG,Ew,Jv P call l]
  try rfl
noncomputable def As:dT->(P:Program)->(call:eS)->(dst:Option Nat)->(s:TS)->(h:TH)->Option (TS×TH)
 |.alloc _ _=>λ_ _ dst s h=>match dst with
  |some d=>(kH s d (.box d 0)).map λs'=>(s',h)
  |none=>none
 |.box ..|.panic _|.other=>λ_ _ _ _ _=>none
 |.call f args=>λP call dst s h=>if(args.any λy=>da (ev (gT s) y))then none else match jt (.call f args) P call dst s h with
  |some (.go s' h')=>some (s',h')
  |_=>none
 |.fc f args=>λP call dst s h=>if(match ev (gT s) f with|.func _ first cap=>(first++args.map (ev (gT s))++cap).any da|_=>true)then none else match jt (.fc f args) P call dst s h with
  |some (.go s' h')=>some (s',h')
  |_=>none
 |op=>λP call dst s h=>match jt op P call dst s h with
  |some (.go s' h')=>some (s',h')
  |_=>none
def Lo(op:dT)(P:Program)(call:eS)(dst:Option Nat)(s:TS)(h:TH):As op P call dst s h=pD P call op dst s h:=by
 cases op<;>first|rfl|(simp only[As,pD,Ew])
noncomputable def yC(P:Program)(call:eS)(l:List bB):TS->TH->Option (TS×TH):=
 List.rec (motive:=λ_=>TS->TH->Option (TS×TH)) (λs h=>some (s,h)) (λo _ ih s h=>match aG (gT s) o.guard with
  |some true=>match As o.op P call o.dst s h with
   |some (s',h')=>ih s' h'
   |none=>none
  |some false=>match vL s o.dst bO with
   |some s'=>ih s' h
   |none=>none
  |none=>none) l
def Ef(P:Program)(call:eS):∀(l:List bB)(s:TS)(h:TH),yC P call l s h=vy P call l s h
 |[],_,_=>rfl
 |o::l,s,h=>by
  have e:yC P call (o::l) s h=(match aG (gT s) o.guard with
   |some true=>match As o.op P call o.dst s h with
    |some (s',h')=>yC P call l s' h'
    |none=>none
   |some false=>match vL s o.dst bO with
    |some s'=>yC P call l s' h
    |none=>none
   |none=>none):=rfl
  rw[e];simp only[vy,Lo,Ef P call l]
  try rfl
abbrev sK:=TS->TH->Option (cw×TS×TH)
noncomputable def BR(body:sK)(k:Nat):sK:=
 Nat.rec (motive:=λ_=>sK) (λ_ _=>none) (λ_ ih s h=>match body s h with
  |some (.normal,s',h')=>ih s' h'
  |r=>r) k
def Ed(body:sK):∀(k:Nat)(s:TS)(h:TH),BR body k s h=yG body k s h
 |0,_,_=>rfl
 |k+1,s,h=>by
  have e:BR body (k+1) s h=(match body s h with
   |some (.normal,s',h')=>BR body k s' h'
   |r=>r):=rfl
  rw[e];simp only[yG,Ed body k]
  try rfl
noncomputable def codeF(P:Program)(call:eS)(m:Nat)(c:af):sK:=
 af.rec (motive:=λ_=>sK) (λs h=>some (.normal,s,h))
  (λl s h=>match DR P call l s h with
   |some (.go s' h')=>some (.normal,s',h')
   |some (.panic v)=>some (.panic v,s,h)
   |none=>none)
  (λl s h=>match vp l s h with
   |some (s1,h1)=>match yC P call l s1 h1 with
    |some (s',h')=>some (.normal,s',h')
    |none=>none
   |none=>none)
  (λ_ _ Xz YZ s h=>match Xz s h with
   |some (.normal,s',h')=>YZ s' h'
   |r=>r)
  (λc _ _ Xz YZ s h=>match ev (gT s) c with
   |.bool true=>Xz s h
   |.bool false=>YZ s h
   |_=>none)
  (λid _ ih s h=>match ih s h with
   |some (.exit j,s',h')=>if j=id then some (.normal,s',h')else some (.exit j,s',h')
   |r=>r)
  (λ_ ih s h=>BR ih m s h)
  (λid s h=>some (.exit id,s,h))
  (λs h=>some (.ret,s,h))
  (λ_ _=>none) c
def codeF_eq(P:Program)(call:eS)(m:Nat):∀(c:af),codeF P call m c=kE P call m c
 |.skip=>rfl
 |.ops l=>by
  funext s h
  show(match DR P call l s h with
   |some (.go s' h')=>some (cw.normal,s',h')
   |some (.panic v)=>some (.panic v,s,h)
   |none=>none)=_
  rw[Jv];rfl
 |.cq l=>by
  funext s h
  show(match vp l s h with
   |some (s1,h1)=>match yC P call l s1 h1 with
    |some (s',h')=>some (cw.normal,s',h')
    |none=>none
   |none=>none)=_
  simp only[Ef,kE]
  try rfl
 |.seq x y=>by
  funext s h
  show(match codeF P call m x s h with
   |some (.normal,s',h')=>codeF P call m y s' h'
   |r=>r)=_
  rw[codeF_eq P call m x,codeF_eq P call m y];rfl
 |.cond c x y=>by
  funext s h
  show(match ev (gT s) c with
   |.bool true=>codeF P call m x s h
   |.bool false=>codeF P call m y s h
   |_=>none)=_
  rw[codeF_eq P call m x,codeF_eq P call m y];rfl
 |.block id c=>by
  funext s h
  show(match codeF P call m c s h with
   |some (cw.exit j,s',h')=>if j=id then some (cw.normal,s',h')else some (cw.exit j,s',h')
   |r=>r)=_
  rw[codeF_eq P call m c];rfl
 |.loop c=>by
  funext s h
  show BR (codeF P call m c) m s h=_;rw[Ed,codeF_eq P call m c];rfl
 |.exit id=>rfl
 |.ret=>rfl
 |.bad=>rfl
noncomputable def G0(P:Program)(call:eS)(m:Nat)(fn:td)(args:List AV):Option eE:=
 bif Nat.ble args.length fn.n&&Nat.ble args.length 256 then
  match codeF P call m fn.code (tP args) (.lf none)with
  |some (.normal,s,h)|some (.ret,s,h)=>(cL P fn.n fn.res (gT s) (gU h)).map .ret
  |some (.panic v,_,_)=>some (.panic v)
  |_=>none
 else none
def OA(P:Program)(call:eS)(m:Nat)(fn:td)(args:List AV):G0 P call m fn args=BM P call m fn args:=by
 unfold G0 BM;rw[codeF_eq]
 try rfl
noncomputable def Nq(P:Program)(ki:eS)(qq:Nat->Option td)(m:Nat)(d:Nat):eS:=
 Nat.rec (motive:=λ_=>eS) (λ_ _=>none) (λ_ ih f args=>match qq f with
  |some fn=>G0 P ih m fn args
  |none=>ki f args) d
def IN(P:Program)(ki:eS)(qq:Nat->Option td)(m:Nat):∀d,Nq P ki qq m d=AL.runT P ki qq m d
 |0=>rfl
 |d+1=>by
  funext f args
  show(match qq f with|some fn=>G0 P (Nq P ki qq m d) m fn args|none=>ki f args)=_;rw[IN P ki qq m d];simp only[OA]
  try rfl
def Jb {P:Program} {GI:World→Prop} (hG:aw GI) (hm:P.follows .mixedOrders=true) {ki:eS} {qq:Nat→Option td} {m:Nat} (hp:∀ f args out,ki f args=some out→AC P GI f args out) (ht:Kg P qq)
  (d:Nat) (f:Nat) (args:List AV) (out:eE) (h:Nq P ki qq m d f args=some out):AC P GI f args out:=by
 rw[IN]at h;exact yP hG hm hp ht d f args out h
section
variable{P:Program}{GI:World->Prop}{n:Nat}{S:an}{H:aq}{a:Act}{w:World}{ro:Option Nat}{m:Nat}{Q:Exit->Act->World->Prop}
def Rel.RW (c:Nat→Nat→Prop) (bg:a.tmps.size=n) (ee:a.defers=[]) (hS:∀ t,t < n→(S t).aH=S t∧RV c cD w (S t) (a.tmps.getD t undef)) :
  Rel P w n bz { base:=w.heap.size,old:=Old.plain c w,al:=cD,hi:=λ_=>0,owner:=λ_=>none } S (λ_=>none) a w:={
 size:=bg
 defers:=ee
 facts _ h:=by cases h
 slot t ht _:=(hS t ht).2.mono (bc.same λb k av hp=>.inl ⟨av,hp⟩) (λ_ _ h=>h)
 own t ht _:=by rw[<-(hS t ht).1];exact ea.aH
 box i b h:=by cases h
 iw i cs h:=by cases h
 iE i _:=rfl
 inj i j b h:=by cases h
 base:=rfl
 below:=adA _ _
 fresh b _:=⟨rfl,rfl⟩
 still:=⟨λ_ _ h=>h.elim,λ_ h=>h.elim⟩
 grown:=acD _
 kept _ _ h:=by cases h }
def aV {ops:Array Oper} {i:Nat} {rest:List Nat} {o:Oper} (ho:ops[i]? = some o) (hg:o.guard=none) (dF:eB o.op=true) {v:Value} {w':World}
  (hr:(execOp a.eval o).run P w=.ok (.value v) w') (hk:wpOpsIn (FR ro) m P ops Q rest (a.put o.dst v) w'):wpOpsIn (FR ro) m P ops Q (i::rest) a w:=by
 simp only[wpOpsIn,ho]
 have:Region.wanted o (yielded ops a.tmps)=true:=by simp[Region.wanted,hg]
 rw[if_pos this];refine⟨λ_ _=>trivial,?_⟩;rw[adW _ _ _ (λc hc=>by rw[hc]at dF;cases dF),hr];exact hk
def dU {ops:Array Oper} {i:Nat} {rest:List Nat} {o:Oper} (ho:ops[i]? = some o) (hg:o.guard=none) (dF:eB o.op=true) {w':World}
  (hr:(execOp a.eval o).run P w=.ok .skip w') (hk:wpOpsIn (FR ro) m P ops Q rest (a.put o.dst undef) w'):wpOpsIn (FR ro) m P ops Q (i::rest) a w:=by
 simp only[wpOpsIn,ho]
 have:Region.wanted o (yielded ops a.tmps)=true:=by simp[Region.wanted,hg]
 rw[if_pos this];refine⟨λ_ _=>trivial,?_⟩;rw[adW _ _ _ (λc hc=>by rw[hc]at dF;cases dF),hr];exact hk
def gE {ops:Array Oper} {i:Nat} {rest:List Nat} {o:Oper} (ho:ops[i]? = some o) (hg:o.guard=none) (dF:eB o.op=true) {f:Nat} {args:Array Value} {w':World}
  (hr:(execOp a.eval o).run P w=.ok (.enter f args) w') {R:Ending->World->Prop} (hc:Calls P f args w' R) (hk:∀e iV,R e iV->∃v,e=.returned v/\wpOpsIn (FR ro) m P ops Q rest (a.put o.dst v) iV):wpOpsIn (FR ro) m P ops Q (i::rest) a w:=by
 simp only[wpOpsIn,ho]
 have:Region.wanted o (yielded ops a.tmps)=true:=by simp[Region.wanted,hg]
 rw[if_pos this];refine⟨λ_ _=>trivial,?_⟩;rw[adW _ _ _ (λc hc=>by rw[hc]at dF;cases dF),hr];refine⟨λh=>by simp[FR,Fence.wide]at h,ig.2 (hc.mono λe iV hh=>?_)⟩;obtain⟨v,rfl,h⟩:=hk e iV hh;exact h
def Ih {ops:Array Oper} {i:Nat} {rest:List Nat} {o:Oper} (ho:ops[i]? = some o) (hg:o.guard=none) (dF:eB o.op=true) {l f:Nat} {tmps:Array Value} {zZ bd:Code} {w':World}
  (hr:(execOp a.eval o).run P w=.ok (.round l f tmps zZ bd) w') {R:Ending->World->Prop} (hc:∀m,RoundIn (FR none) m P l f tmps zZ bd w' R) (hk:∀e iV,R e iV->∃v,e=.returned v/\wpOpsIn (FR none) m P ops Q rest (a.put o.dst v) iV):wpOpsIn (FR none) m P ops Q (i::rest) a w:=by
 simp only[wpOpsIn,ho]
 have:Region.wanted o (yielded ops a.tmps)=true:=by simp[Region.wanted,hg]
 rw[if_pos this];refine⟨λ_ _=>trivial,?_⟩;rw[adW _ _ _ (λc hc=>by rw[hc]at dF;cases dF),hr];refine⟨λh=>by simp[FR,Fence.wide]at h,(hc (m-1)).mono λe iV hh=>?_⟩;obtain⟨v,rfl,h⟩:=hk e iV hh;exact h
def H_(K:Act->World->Prop)(Q:Exit->Act->World->Prop):Exit->Act->World->Prop
 |.normal,a,w=>K a w
 |e,a,w=>Q e a w
def AT{F:Fence}{o:Oper}{K K':Act->World->Prop}(h:o.wpIn F m P a w K' (H_ K Q)):o.wpIn F m P a w K' Q:=by
 unfold Oper.wpIn at*
 refine⟨h.1,?_⟩;have h2:=h.2
 generalize(o.semAt F.round a.eval).run P w=r at*
 cases r with
 |ok x w'=>
  cases x<;>simp only[Oper.uponIn]at h2⊢<;>first
   |exact h2
   |exact⟨h2.1,afB h2.2 (λe iV he=>by cases e<;>exact he)⟩
   |exact⟨h2.1,afL h2.2 (λ_ _ he=>he)⟩
   |exact⟨h2.1,afC h2.2 (λe iV he=>by cases e<;>exact he)⟩
 |halt x w'=>cases x<;>simp only[Oper.uponIn]at h2⊢<;>exact h2
def nj(ops:Array Oper):Nat->Nat->Array Bool->Bool
 |0,_,listed=>Region.ready .any ops listed==[]
 |k+1,i,listed=>Region.ready .any ops listed==[i]&&nj ops k (i+1) (listed.setIfInBounds i true)
def Bf(ops:Array Oper)(p:Nat):Nat->Array Bool->Array Bool->Bool
 |0,la,l=>(Region.ready .any (ops.extract 0 p) la==[])&&nj ops (ops.size-p) p l
 |k+1,la,l=>let r:=Region.ready .any ops l
  r !=[]&&r==Region.ready .any (ops.extract 0 p) la&&r.all (λi=>decide (i<p)&&Bf ops p k (la.setIfInBounds i true) (l.setIfInBounds i true))
def cutAt(ops:Array Oper)(p:Nat):Bool:=
 decide (p<=ops.size)&&ops.all (λo=>o.guard.isNone)&&Bf ops p p (Array.replicate p false) (Array.replicate ops.size false)
def uw{F:Fence}{ops:Array Oper}(hg:ops.all (λo=>o.guard.isNone)=true):∀(k i:Nat)(l:Array Bool)(a:Act)(w:World),nj ops k i l=true->wpOpsIn F m P ops Q (List.range' i k) a w->wpAnyIn F m P .any ops Q k l a w
 |0,i,l,a,w,h,hh=>⟨by simpa[nj]using h,hh⟩
 |k+1,i,l,a,w,h,hh=>by
  simp only[nj,acA,ac7]at h;refine⟨λhr=>(by rw[hr]at h;cases h.1),λj hj=>?_⟩;rw[h.1,ac4]at hj;subst hj;simp only[ad_]at hh;rw[wpOpsIn_cons]at hh;exact wpOpIn_mono (λa w hq=>uw hg k _ _ a w h.2 hq) hh
def rC {F:Fence} {ops:Array Oper} {p:Nat} (hp:p≤ops.size) (hg:ops.all (fun o=>o.guard.isNone)=true):∀ (k:Nat) (la l:Array Bool) (a:Act) (w:World),Bf ops p k la l=true →
  wpAnyIn F m P .any (ops.extract 0 p) (H_ (wpOpsIn F m P ops Q (List.range' p (ops.size-p))) Q) k la a w->wpAnyIn F m P .any ops Q (k+(ops.size-p)) l a w
 |0,la,l,a,w,h,hh=>by
  simp only[Bf,acA]at h;rw[ac_];exact uw hg _ _ _ a w h.2 hh.2
 |k+1,la,l,a,w,h,hh=>by
  simp only[Bf,acA,afm,ne_eq,ac7,acN,acJ]at h;obtain⟨⟨h1,h2⟩,h3⟩:=h;rw[show k+1+(ops.size-p)=(k+(ops.size-p))+1 by omega];refine⟨λhr=>absurd hr h1,λi hi=>?_⟩
  have cQ:i∈Region.ready .any (ops.extract 0 p) la:=by rw[<-h2];exact hi
  obtain⟨Ag,hc⟩:=h3 i hi;have hs:=hh.2 i cQ;unfold wpOpIn at hs⊢
  have ib:(ops.extract 0 p)[i]?=ops[i]?:=by
   rw[aek]
   have:i<min p ops.size-0:=by omega
   rw[if_pos this,ac_]
  rw[ib]at hs
  cases ho:ops[i]? with
  |none=>rw[ho]at hs;exact rC hp hg k _ _ a w hc hs
  |some o=>
   rw[ho]at hs
   have nx:o.guard=none:=by
    have:=ads.1 hg o (adz ho);simpa using this
   have hw:∀y,Region.wanted o y=true:=λy=>by simp[Region.wanted,nx]
   simp only[hw,ac3]at hs⊢;exact afp (λa w hq=>rC hp hg k _ _ a w hc hq) (AT hs)
def Od (hm:P.follows .mixedOrders=true) {F:Fence} {id:Nat} {ops:Array Oper} {p:Nat} (h:cutAt ops p=true)
  (hh:wpAnyIn F m P .any (ops.extract 0 p) (H_ (wpOpsIn F m P ops Q (List.range' p (ops.size-p))) Q) p (Array.replicate p false) a { w with drawn:=w.drawn+1 }):(Code.region id ops true).wpIn F m P Q a w:=by
 simp only[cutAt,acA,acJ]at h;refine aex hm ?_;have:=rC h.1.1 h.1.2 p _ _ a _ h.2 hh;rwa [show p+(ops.size-p)=ops.size by omega]at this
def fF{F:Fence}{md:Region.Mode}{ops:Array Oper}{Q':Exit->Act->World->Prop}(hQ:∀e a w,Q e a w->Q' e a w):∀(fuel:Nat)(l:Array Bool)(a:Act)(w:World),wpAnyIn F m P md ops Q fuel l a w->wpAnyIn F m P md ops Q' fuel l a w
 |0,_,_,_,h=>⟨h.1,hQ _ _ _ h.2⟩
 |k+1,l,a,w,h=>⟨fun hr=>hQ _ _ _ (h.1 hr),fun i hi=>by
   have hs:=h.2 i hi;unfold wpOpIn at hs⊢
   cases ho:ops[i]? with
   |none=>rw[ho]at hs;exact fF hQ k _ a w hs
   |some o=>
    rw[ho]at hs;simp only at hs⊢;split
    .rename_i hw;rw[if_pos hw]at hs;have hs:=afp (λa w hq=>fF hQ k _ a w hq) hs
     unfold Oper.wpIn at*
     refine⟨hs.1,?_⟩;have h2:=hs.2
     generalize(o.semAt F.round a.eval).run P w=r at*
     cases r with
     |ok x w'=>
      have so:LetsOut Q->LetsOut Q':=λ⟨a,w,h⟩=>⟨a,w,hQ _ _ _ h⟩
      cases x<;>simp only[Oper.uponIn]at h2⊢<;>first
       |exact h2
       |exact⟨h2.1,afB h2.2 (λe iV he=>by cases e<;>first|exact he|exact hQ _ _ _ he|exact so he)⟩
       |exact⟨h2.1,afL h2.2 (λ_ _ he=>he)⟩
       |exact⟨h2.1,afC h2.2 (λe iV he=>by cases e<;>first|exact he|exact hQ _ _ _ he|exact so he)⟩
     |halt x w'=>cases x<;>simp only[Oper.uponIn]at h2⊢<;>first|exact h2|exact hQ _ _ _ h2
    .rename_i hw;rw[if_neg hw]at hs
     exact⟨hs.1,fF hQ k _ _ w hs.2⟩⟩
end
def iQ(Pr:Nat->Nat->Prop)(w:World)(size:Nat)(es:List AV)(xs:List Value):Prop:=
 (∀x∈es,x.cells.length=size/\x.storable=true/\∀c∈x.cells,c.one=true)/\∀j (h:j<es.length) k (hk:k<(es[j]).cells.length),∃u,xs[j*size+k]?=some u/\RD Pr w ((es[j]).cells[k]) u
def iQ.mono{Pr eC:Nat->Nat->Prop}{w w':World}{size:Nat}{es:List AV}{xs:List Value}(h:iQ Pr w size es xs)(hk:bc Pr eC w w'):iQ eC w' size es xs:=
 ⟨h.1,λj hj k yb=>let⟨u,h1,h2⟩:=h.2 j hj k yb;⟨u,h1,h2.mono hk⟩⟩
def RD.ofRow {Pr:Nat→Nat→Prop} {w:World} {base:Nat} {e:TypeId} {size:Nat} {v:Value} {es:List AV} {xs:List Value} (cI:w.ownsRow base e size v es.length xs) (hf:iQ Pr w size es xs)
  (R9:∀b,v.ownBlock=some b->∀k,k<es.length*size->Pr b k):RD Pr w (.slice .view es) v:=by
 rcases cI.2 with⟨rfl,hn⟩|⟨g,cap,cur,rfl,nC,hg,Iz,vS,pC,yK⟩
 .have:es=[]:=adb hn;subst this;exact .gx _
 .refine .slice _ es g 0 cap size (λk=>xs.getD k undef) Iz (λh=>by cases h) (λi h=>(hf.1 _ (acy h)).1) (λi h j hj=>(hf.1 _ (acy h)).2.2 _ (acy hj)) (λk hk=>⟨?_,?_⟩) (λi h j hj=>?_)
  .rw[ac_];exact R9 g rfl k hk
  .have av:k<xs.length:=by rw[cI.1];exact hk
   have:=cI.cells (g:=g) rfl k _ (acx av);rw[adt]at this;simp only[ac2,acx av,Option.getD_some];exact this
  .obtain⟨u,h1,h2⟩:=hf.2 i h j hj;simpa[h1]using h2
def RD.Y4{Pr:Nat->Nat->Prop}{w:World}{o:Ow}{es:List AV}{c:Value}(h:RD Pr w (.slice o es) c)(e:TypeId):RD Pr w (.slice (.own e) es) c:=by
 cases h with
 |gx=>exact .gx _
 |ja _ a=>exact .ja _ a
 |slice _ _ b off cap size cs eT hn bg h1 hc hr=>exact .slice _ es b off cap size cs eT (λh=>by cases h) bg h1 hc hr
def me(e:TypeId)(v:Value)(es:List AV):AV:=match v.ownBlock with
 |some _=>.slice (.own e) es
 |none=>.slice .nil []
def RD.Ch{Pr eC:Nat->Nat->Prop}{w:World}{o:Ow}{c:Value}(h:RD Pr w (.slice o []) c):RD eC w (.slice .view []) c:=by
 cases h with
 |gx=>exact .gx _
 |ja _ a=>exact .ja _ a
 |slice _ _ b off cap size cs eT hn bg h1 hc hr=>exact .slice _ [] b off cap size cs eT (λh=>by cases h) (λi h=>by simp at h) (λi h=>by simp at h) (λk h=>by simp at h) (λi h=>by simp at h)
def iQ.Me {Pr:Nat→Nat→Prop} {w:World} {base:Nat} {e:TypeId} {size:Nat} {o:Ow} {c:Value} {es:List AV} {xs:List Value} (hr:RD Pr w (.slice o es) c) (cI:w.ownsRow base e size c es.length xs)
  (mb:∀x∈es,x.cells.length=size/\x.storable=true/\∀c∈x.cells,c.one=true) (Bx:∀x∈es,∀c∈x.cells,gQ c=true):iQ (λ_ _=>False) w size es xs:=by
 refine⟨mb,λj hj k hk=>?_⟩
 rcases hr.kM size (by simp only[aJ,acN,acA,ac7];exact λx hx=>⟨(mb x hx).2.1,(mb x hx).1⟩)with⟨rfl,_⟩|⟨b2,off,cap,news,jz,hl,hn,lj,G8⟩
 .simp at hj
 .obtain⟨u,u1,u2⟩:=G8 j hj k hk;refine⟨u,?_,u2.gQ (Bx _ (acy hj) _ (acy hk))⟩
  have av:j*size+k<xs.length:=by
   rw[cI.1,<-hl];exact(acT.1 u1).1
  rcases cI.2 with⟨rV,h0⟩|⟨gg,J5,cur,CV,_⟩
  .rw[adb h0]at hj;simp at hj
  .have e1:=cI.cells (g:=gg) (by rw[CV];rfl) _ _ (acx av);have e2:=hn _ _ u1;rw[CV]at jz;cases jz;rw[adt,ac_]at e1;rw[ac_]at e2;rw[e2]at e1;rw[acx av,acX e1]
section
variable{P:Program}{n:Nat}{S:an}{a:Act}{w:World}
def lX(pr:Nat->Nat->Prop)(w:World)(bN:Nat)(v:Value):Old:=
 { c:=pr,facts:=[],bx:=λ_=>False,ds:=[],aR:=λb=>if bN<b/\v.ownBlock≠some b then w.heap[b]? else none,sp:=λ_ _=>False,sw:=w,ok:=λ_ h=>by cases h }
def Rel.stack (pr:Nat→Nat→Prop) {bN nm:Nat} {v:Value} {e ty:TypeId} {i:TypeInfo} {es:List AV} {xs:List Value} (bg:a.tmps.size=n) (ee:a.defers=[])
  (hN:w.heap[bN]?=some (.cells #[v] ty (0,0))) (hi:P.info? e=some i) (cI:w.ownsRow (bN+1) e i.size v es.length xs) (hf:iQ (λb k=>b<bN/\pr b k) w i.size es xs)
  (hS:∀t,t<n->(S t).aH=S t/\((S t=.box nm 0/\a.tmps.getD t undef=.pointer (some ⟨bN,0,none⟩))\/RV (λb k=>b<bN/\pr b k) cD w (S t) (a.tmps.getD t undef))):
  ∃g,g.old=lX pr w bN v/\g.base=bN/\g.al=(λj=>if j=nm then some bN else none)/\
   Rel P { w with heap:=w.heap.extract 0 bN } n bz g S (λj=>if j=nm then some [me e v es]else none) a w:=by
 have av:=(acz.1 hN).1
 let g:Gh:={ base:=bN,old:=lX pr w bN v,al:=λj=>if j=nm then some bN else none,hi:=λb=>if v.ownBlock=some b then es.length*i.size else 0,owner:=λb=>if v.ownBlock=some b then some (.cell nm 0)else none }
 have pj:∀b k,b<bN/\pr b k->g.Pr b k:=λb k h=>.inl h
 have mr:∀b,v.ownBlock=some b->bN<b/\b<w.heap.size:=λb hb=>cI.lt b hb
 have Bi:v.ownBlock≠some bN:=λh=>by have:=mr _ h;omega
 have lj:v.oneCell'=true:=by
  rcases cI.2 with⟨rfl,_⟩|⟨_,_,_,rfl,_⟩<;>rfl
 have cP:RD g.Pr w (me e v es) v:=by
  unfold me
  rcases cI.2 with⟨rfl,hn⟩|⟨gg,cap,cur,rfl,nC,hg,Iz,vS,pC,yK⟩
  .exact .gx _
  .simp only[Value.ownBlock]
   have h1:RD g.Pr w (.slice .view es) (.slice (some ⟨gg,0,none⟩) es.length cap):=RD.ofRow cI (hf.mono (bc.same λb k _ h=>pj b k h)) (λb hb k hk=>by
    refine .inr ⟨by have:=(mr b hb).1;show bN<=b;omega,?_⟩;show k<(if _=some b then es.length*i.size else 0)
    rw[if_pos hb];exact hk)
   exact h1.Y4 e
 refine⟨g,rfl,rfl,rfl,{ size:=bg,defers:=ee,facts:=λ_ h=>(by cases h),slot:=?_,own:=?_,box:=?_,iw:=?_,iE:=λi h=>h.elim,inj:=?_,base:=?_,below:=?_,fresh:=?_,still:=⟨λ_ _ h=>h.elim,λ_ h=>h.elim⟩,grown:=acD _,kept:=?_ }⟩
 .intro t ht _;rcases(hS t ht).2 with⟨h1,h2⟩|h
  .rw[h1,h2];exact .box _ _ _ (by simp[g])
  .exact h.mono (bc.same λb k _ h=>pj b k h) (λ_ _ h=>by cases h)
 .intro t ht _;rw[<-(hS t ht).1];exact ea.aH
 .intro j b hj
  by_cases sO:j=nm
  .subst sO
   have hb:b=bN:=by simpa[g]using hj.symm
   subst hb;refine⟨[me e v es],#[v],ty,by simp,acD _,hN,by simp[g,Bi],by simp[g,Bi],rfl,λk hk dN=>?_,λk hk dN=>?_,λk hk=>?_⟩
   .have:k=0:=by simpa using hk
    subst this;exact cP
   .have:k=0:=by simpa using hk
    subst this;simp only[List.getElem_cons_zero,List.getElem_toArray];unfold me
    cases BJ:v.ownBlock with
    |none=>trivial
    |some b'=>
     refine⟨i,xs,b',hi,?_,BJ,by simp[g,BJ],by simp[g,BJ]⟩;refine⟨cI.1,?_⟩
     rcases cI.2 with h|⟨gg,cap,cur,rfl,nC,rest⟩
     .exact .inl h
     .exact .inr ⟨gg,cap,cur,rfl,adD (Nat.le_succ _) nC,rest⟩
   .have:k=0:=by simpa using hk
    subst this;simp only[List.getElem_cons_zero];unfold me
    cases v.ownBlock<;>rfl
  .simp[g,sO]at hj
 .intro j cs hj _
  by_cases sO:j=nm
  .subst sO;simp[g]
  .simp[sO]at hj
 .intro j k b hj hk
  by_cases sO:j=nm<;>by_cases uz:k=nm
  .rw[sO,uz]
  .simp[g,uz]at hk
  .simp[g,sO]at hj
  .simp[g,sO]at hj
 .show bN=(w.heap.extract 0 bN).size;simp;omega
 .refine⟨rfl,rfl,rfl,by simp;omega,λk hk=>?_⟩;have dN:k<bN:=hk;show w.heap[k]?=(w.heap.extract 0 bN)[k]?;rw[aek,if_pos (by omega),ac_]
 .intro b hb
  have:v.ownBlock≠some b:=λh=>by have:=mr b h;omega
  simp[g,this]
 .intro b o h;simp only[g,lX]at h;split at h
  case isFalse=>cases h
  rename_i hc;refine⟨by show bN<=b;omega,h,by simp[g,hc.2],by simp[g,hc.2],λj hj=>?_⟩
  by_cases sO:j=nm
  .simp[g,sO]at hj;omega
  .simp[g,sO]at hj
def Rel.OQ {w0 w':World} {g':Gh} {S':an} {H':aq} {a':Act} (pr:Nat→Nat→Prop) {bN nm:Nat} {v:Value} {e:TypeId} {i:TypeInfo} {es':List AV} (hi:P.info? e=some i)
  (R:Rel P w0 n bz g' S' H' a' w') (hold:g'.old=lX pr w bN v) (fT:g'.base=bN) (sq:∀b,b<bN->w0.heap[b]?=w.heap[b]?) (gw:g'.al nm=some bN) (hH:H' nm=some [.slice (.own e) es'])
  (mb:∀x∈es',x.cells.length=i.size/\x.storable=true/\∀c∈x.cells,c.one=true) (Bx:∀x∈es',∀c∈x.cells,gQ c=true):
  ∃v' Aj tU,w'.heap[bN]?=some (.cells #[v'] Aj (0,0))/\w'.ownsRow (bN+1) e i.size v' es'.length tU/\iQ (λ_ _=>False) w' i.size es' tU/\
   (∀b,b<w.heap.size->b≠bN->v.ownBlock≠some b->w'.heap[b]?=w.heap[b]?)/\∀b,v'.ownBlock=some b->v.ownBlock=some b\/w.heap.size<=b:=by
 obtain⟨cs,vs,ty,h1,h2,h3,h4,h5,h6,h7,h8,h9⟩:=R.box nm bN gw;rw[hH]at h1;cases h1;have n_:vs.size=1:=h6.symm
 obtain⟨v',nM⟩:∃v',vs=#[v']:=⟨vs[0],by
  apply aea
  .simpa using n_
  .intro j hj dH
   have:j=0:=by omega
   subst this;rfl⟩
 subst nM;have hr:=h7 0 (by simp) (by simp);have ho:=h8 0 (by simp) (by simp);simp only[List.getElem_cons_zero,List.getElem_toArray]at hr ho;obtain⟨i',xs,b,k1,k2,k3,k4,k5⟩:=ho;rw[hi]at k1;cases k1
 have bP:b≠bN:=by
  rintro rfl;rw[h5]at k4;cases k4
 refine⟨v',ty,xs,h3,?_,⟨mb,λj hj k hk=>?_⟩,λb' fS SK T7=>?_,λb' fS=>?_⟩
 .refine⟨k2.1,?_⟩
  rcases k2.2 with h|⟨gg,cap,cur,rfl,nC,rest⟩
  .exact .inl h
  .have:gg=b:=by simpa[Value.ownBlock]using k3
   subst this;exact .inr ⟨gg,cap,cur,rfl,by rw[fT]at nC;omega,rest⟩
 .rcases hr.kM i.size (by simp only[aJ,acN,acA,ac7];exact λx hx=>⟨(mb x hx).2.1,(mb x hx).1⟩)with⟨rfl,_⟩|⟨b2,off,cap,news,jz,hl,hn,lj,G8⟩
  .simp at hj
  .obtain⟨u,u1,u2⟩:=G8 j hj k hk;refine⟨u,?_,u2.gQ (Bx _ (acy hj) _ (acy hk))⟩
   have av:j*i.size+k<xs.length:=by
    rw[k2.1,<-hl];exact(acT.1 u1).1
   have e1:=k2.cells k3 _ _ (acx av);have e2:=hn _ _ u1
   rcases k2.2 with⟨rV,_⟩|⟨gg,J5,cur,CV,_⟩
   .rw[rV]at k3;cases k3
   .rw[CV]at jz k3
    have qQ:gg=b:=by simpa[Value.ownBlock]using k3
    subst qQ;cases jz;rw[adt,ac_]at e1;rw[ac_]at e2;rw[e2]at e1;rw[acx av,acX e1]
 .rcases adK b' bN with av|AY
  .have:=R.below.block b' (by rw[fT];exact av);rw[this];exact sq b' av
  .have FN:g'.old.aR b'=w.heap[b']? := by
    rw[hold];simp only[lX];rw[if_pos ⟨by omega,T7⟩]
   have:w.heap[b']?=some (w.heap[b']):=by simp[fS]
   rw[this]at FN;rw[(R.kept b' _ FN).2.1,this]
 .rw[k3]at fS;cases fS;rcases adK b w.heap.size with av|AY
  .by_cases T7:v.ownBlock=some b
   .exact .inl T7
   .exfalso
    have lU:bN<=b:=by
     have:=(k2.lt b k3).1;rw[fT]at this;exact this
    have FN:g'.old.aR b=w.heap[b]?:=by
     rw[hold];simp only[lX];rw[if_pos ⟨by omega,T7⟩]
    have:w.heap[b]?=some (w.heap[b]):=by simp[av]
    rw[this]at FN;have:=(R.kept b _ FN).2.2.2.1;rw[k4]at this;cases this
  .exact .inr AY
end
section
variable{P:Program}{GI:World->Prop}{n:Nat}{S:an}{H:aq}{a:Act}{w:World}{ro:Option Nat}{m:Nat}{Q Q':Exit->Act->World->Prop}{F:Fence}
def mc{o:Oper}{K K':Act->World->Prop}(hK:∀a w,K a w->K' a w)(hQ:∀e a w,e≠.normal->Q e a w->Q' e a w)(hs:o.wpIn F m P a w K Q):o.wpIn F m P a w K' Q':=by
 have hs:=afp hK hs
 unfold Oper.wpIn at*
 refine⟨hs.1,?_⟩;have h2:=hs.2
 generalize(o.semAt F.round a.eval).run P w=r at*
 have so:LetsOut Q->LetsOut Q':=λ⟨a,w,h⟩=>⟨a,w,hQ _ _ _ (by simp) h⟩
 cases r with
 |ok x w'=>
  cases x<;>simp only[Oper.uponIn]at h2⊢<;>first
   |exact h2
   |exact⟨h2.1,afB h2.2 (λe iV he=>by cases e<;>first|exact he|exact hQ _ _ _ (by simp) he|exact so he)⟩
   |exact⟨h2.1,afL h2.2 (λ_ _ he=>he)⟩
   |exact⟨h2.1,afC h2.2 (λe iV he=>by cases e<;>first|exact he|exact hQ _ _ _ (by simp) he|exact so he)⟩
 |halt x w'=>cases x<;>simp only[Oper.uponIn]at h2⊢<;>first|exact h2|exact hQ _ _ _ (by simp) h2
def fH{ops:Array Oper}(hQ:∀e a w,Q e a w->Q' e a w):∀(l:List Nat)(a:Act)(w:World),wpOpsIn F m P ops Q l a w->wpOpsIn F m P ops Q' l a w
 |[],a,w,h=>hQ _ _ _ h
 |i::l,a,w,h=>by
  simp only[wpOpsIn]at h⊢
  cases ho:ops[i]? with
  |none=>simp only[ho]at h⊢;exact fH hQ l a w h
  |some o=>
   simp only[ho]at h⊢;split
   .rename_i hw;rw[if_pos hw]at h;exact mc (λa w hh=>fH hQ l a w hh) (λe a w _ hh=>hQ e a w hh) h
   .rename_i hw;rw[if_neg hw]at h;exact⟨h.1,fH hQ l _ w h.2⟩
def dZ(W:Nat->Bool)(a a':Act):Prop:=∀t,W t=false->a'.tmps.getD t undef=a.tmps.getD t undef
def dZ.refl(W:Nat->Bool)(a:Act):dZ W a a:=λ_ _=>rfl
def dZ.trans{W:Nat->Bool}{a a' X2:Act}(h:dZ W a a')(h':dZ W a' X2):dZ W a X2:=λt ht=>(h' t ht).trans (h t ht)
def dZ.put{W:Nat->Bool}{a:Act}{d:Option Nat}(hd:∀t,d=some t->W t=true)(v:Value):dZ W a (a.put d v):=by
 intro t ht
 cases d with
 |none=>rfl
 |some k=>
  have:t≠k:=by rintro rfl;rw[hd t rfl]at ht;cases ht
  simp[Act.put,acB (adi this)]
def pU{W:Nat->Bool}{o:Oper}{K:Act->World->Prop}(hd:∀t,o.dst=some t->W t=true)(h:o.wpIn F m P a w K Q):o.wpIn F m P a w (λa' w'=>K a' w'/\dZ W a a') Q:=by
 unfold Oper.wpIn at*
 refine⟨h.1,?_⟩;have h2:=h.2
 generalize(o.semAt F.round a.eval).run P w=r at*
 cases r with
 |ok x w'=>
  cases x<;>simp only[Oper.uponIn]at h2⊢<;>first
   |exact⟨h2,dZ.put hd _⟩
   |exact⟨h2,(dZ.put (a:={ a with defers:=_ }) hd _:dZ W { a with defers:=_ } _)⟩
   |exact⟨h2.1,afB h2.2 (λe iV he=>by cases e<;>first|exact⟨he,dZ.put hd _⟩|exact he)⟩
   |exact⟨h2.1,afL h2.2 (λ_ _ he=>⟨he,dZ.put hd _⟩)⟩
   |exact⟨h2.1,afC h2.2 (λe iV he=>by cases e<;>first|exact⟨he,dZ.put hd _⟩|exact he)⟩
 |halt x w'=>cases x<;>simp only[Oper.uponIn]at h2⊢<;>exact h2
def jq(ops:Array Oper)(W:Nat->Bool):Bool:=ops.all λo=>match o.dst with|some t=>W t|none=>true
def jq.spec{ops:Array Oper}{W:Nat->Bool}(h:jq ops W=true){i:Nat}{o:Oper}(ho:ops[i]?=some o):∀t,o.dst=some t->W t=true:=by
 intro t ht;have:=ads.1 h o (adz ho);simpa[ht]using this
def yj(W:Nat->Bool)(a:Act)(Q:Exit->Act->World->Prop):Exit->Act->World->Prop
 |.normal,a',w'=>Q .normal a' w'/\dZ W a a'
 |e,a',w'=>Q e a' w'
def yj.next{W:Nat->Bool}{VL i_:Act}(h:dZ W VL i_):∀e a w,yj W i_ Q e a w->yj W VL Q e a w:=by
 intro e a w hh
 cases e<;>first|exact hh|exact⟨hh.1,h.trans hh.2⟩
def iG{ops:Array Oper}{W:Nat->Bool}(hW:jq ops W=true):∀(l:List Nat)(a:Act)(w:World),wpOpsIn F m P ops Q l a w->wpOpsIn F m P ops (yj W a Q) l a w
 |[],a,w,h=>⟨h,dZ.refl _ _⟩
 |i::l,a,w,h=>by
  simp only[wpOpsIn]at h⊢
  cases ho:ops[i]? with
  |none=>simp only[ho]at h⊢;exact iG hW l a w h
  |some o=>
   simp only[ho]at h⊢;split
   .rename_i hw;rw[if_pos hw]at h;refine mc (λa' w' hh=>fH (yj.next hh.2) l a' w' (iG hW l a' w' hh.1)) (λe a w bP hh=>?_) (pU (jq.spec hW ho) h)
    cases e<;>first|exact hh|exact absurd rfl bP
   .rename_i hw;rw[if_neg hw]at h;exact⟨h.1,fH (yj.next (dZ.put (jq.spec hW ho) _)) l _ w (iG hW l _ w h.2)⟩
def iA{ops:Array Oper}{md:Region.Mode}{W:Nat->Bool}(hW:jq ops W=true):∀(fuel:Nat)(l:Array Bool)(a:Act)(w:World),wpAnyIn F m P md ops Q fuel l a w->wpAnyIn F m P md ops (yj W a Q) fuel l a w
 |0,l,a,w,h=>⟨h.1,h.2,dZ.refl _ _⟩
 |k+1,l,a,w,h=>⟨fun hr=>⟨h.1 hr,dZ.refl _ _⟩,fun i hi=>by
   have hs:=h.2 i hi;unfold wpOpIn at hs⊢
   cases ho:ops[i]? with
   |none=>rw[ho]at hs;exact iA hW k _ a w hs
   |some o=>
    rw[ho]at hs;simp only at hs⊢;split
    .rename_i hw;rw[if_pos hw]at hs;refine mc (λa' w' hh=>fF (yj.next hh.2) k _ a' w' (iA hW k _ a' w' hh.1)) (λe a w bP hh=>?_) (pU (jq.spec hW ho) hs)
     cases e<;>first|exact hh|exact absurd rfl bP
    .rename_i hw;rw[if_neg hw]at hs
     exact⟨hs.1,fF (yj.next (dZ.put (jq.spec hW ho) _)) k _ _ w (iA hW k _ _ w hs.2)⟩⟩
def cm (hG:aw GI) (hm:P.follows .mixedOrders=true) {id:Nat} {ops:Array Oper} {draw:Bool} (hc:iB (.region id ops draw)=true) {ac:af} (lD:cC P n (.region id ops draw)=ac) {W:Nat→Bool} (hW:jq ops W=true) (gm:GI w) (pr:Nat→Nat→Prop) (S:an)
  (bg:a.tmps.size=n) (ee:a.defers=[]) (hS:∀t,t<n->(S t).aH=S t/\RV pr cD w (S t) (a.tmps.getD t undef)) {K:an->aq->Prop} (h:bL P GI ac (aO K) S (λ_=>none))
  (hk:∀g S' H' a' w',g.old=Old.plain pr w->Rel P w n bz g S' H' a' w'->K S' H'->dZ W a a'->Q .normal a' w'):(Code.region id ops draw).wpIn (FR ro) m P Q a w:=by
 subst lD;have R:=Rel.RW (P:=P) pr bg ee hS
 have fin:∀e a' w',yj W a (QQ P w n (Old.plain pr w) (aO K)) e a' w'->Q e a' w':=by
  intro e a' w' hq
  cases e with
  |normal=>
   obtain⟨⟨g',S',H',h1,h2,h3⟩,h4⟩:=hq;exact hk g' S' H' a' w' h1 h2 h3 h4
  |exit id=>obtain⟨_,_,_,_,_,h⟩:=hq;exact h.elim
  |ret=>obtain⟨_,_,_,_,_,h⟩:=hq;exact h.elim
  |panic ch=>obtain⟨_,_,_,_,_,_,_,_,_,_,h⟩:=hq;exact h.elim
  |goto l=>exact hq.elim
  |outgrown=>exact hq.elim
 simp only[cC]at h
 cases draw with
 |true=>
  simp only[ac3]at h;split at h
  case isFalse=>exact h.elim
  rename_i b_;exact aex hm (fF fin _ _ _ _ (iA hW _ _ _ _ (mq hG gm hm (old:=Old.plain pr w) hc b_ (λ_ _ _ _ h=>h) rfl R h)))
 |false=>
  simp only[acI,acW]at h;split at h
  case isFalse=>exact h.elim
  rename_i b_;exact ac6 (fH fin _ _ _ (iG hW _ _ _ (pS hG gm (old:=Old.plain pr w) hc b_ (λ_ _ _ _ h=>h) rfl R h)))
def ue (hm:P.follows .mixedOrders=true) {id:Nat} {ops:Array Oper} {draw:Bool} (hc:iB (.region id ops draw)=true) {ac:af} (lD:cC P n (.region id ops draw)=ac) (uC:ac.names=[]) {W:Nat→Bool} (hW:jq ops W=true) (pr:Nat→Nat→Prop) (S:an)
  {bN nm tp:Nat} {v:Value} {e ty:TypeId} {i:TypeInfo} {es es':List AV} {xs:List Value} (Pm:tp<n) (UN:W tp=false) (abi:a.tmps.getD tp undef=.pointer (some ⟨bN,0,none⟩)) (bg:a.tmps.size=n) (ee:a.defers=[])
  (hN:w.heap[bN]?=some (.cells #[v] ty (0,0))) (hi:P.info? e=some i) (cI:w.ownsRow (bN+1) e i.size v es.length xs) (hf:iQ (λb k=>b<bN/\pr b k) w i.size es xs)
  (hS:∀t,t<n->(S t).aH=S t/\((S t=.box nm 0/\a.tmps.getD t undef=.pointer (some ⟨bN,0,none⟩))\/RV (λb k=>b<bN/\pr b k) cD w (S t) (a.tmps.getD t undef)))
  (h:bL P (λ_=>True) ac (aO λS' H'=>S' tp=.box nm 0/\H' nm=some [.slice (.own e) es']) S (λj=>if j=nm then some [me e v es]else none))
  (mb:∀x∈es',x.cells.length=i.size/\x.storable=true/\∀c∈x.cells,c.one=true) (Bx:∀x∈es',∀c∈x.cells,gQ c=true)
  (hk:∀a' w' v' Aj tU,a'.tmps.size=n->a'.defers=[]->dZ W a a'->w'.heap[bN]?=some (.cells #[v'] Aj (0,0))->w'.ownsRow (bN+1) e i.size v' es'.length tU->iQ (λ_ _=>False) w' i.size es' tU->
   lh (λb=>b=bN\/v.ownBlock=some b) w w'->(∀b,v'.ownBlock=some b->v.ownBlock=some b\/w.heap.size<=b)->Q .normal a' w'):(Code.region id ops draw).wpIn (FR ro) m P Q a w:=by
 subst lD;obtain⟨g,lq,nR,hg3,R⟩:=Rel.stack (P:=P) (nm:=nm) (S:=S) (a:=a) pr bg ee hN hi cI hf hS;have av:=(acz.1 hN).1
 have fin:∀e1 a' w',yj W a (QQ P { w with heap:=w.heap.extract 0 bN } n (lX pr w bN v) (aO λS' H'=>S' tp=.box nm 0/\H' nm=some [.slice (.own e) es'])) e1 a' w'->Q e1 a' w':=by
  intro e1 a' w' hq
  cases e1 with
  |normal=>
   obtain⟨⟨g',S',H',h1,h2,h3⟩,h4⟩:=hq
   have qQ:g'.base=bN:=by rw[h2.base];simp;omega
   have gw:g'.al nm=some bN:=by
    have hs:=h2.slot tp Pm (λhh=>hh);rw[h3.1,h4 tp UN,abi]at hs
    cases hs with
    |data _ _ h=>cases h
    |box _ _ b h=>exact h
   obtain⟨v',Aj,tU,k1,k2,k3,k4,k5⟩:=Rel.OQ (w:=w) pr hi h2 h1 qQ (λb hb=>by
    show(w.heap.extract 0 bN)[b]?=w.heap[b]?
    rw[aek,if_pos (by omega),ac_]) gw h3.2 mb Bx
   have iU:=h2.grown;rw[h1]at iU;refine hk a' w' v' Aj tU h2.size (by rw[h2.defers,h1];rfl) h4 k1 k2 k3 ⟨h2.below.os,h2.below.tape,h2.below.output,iU,λb hb hM=>?_⟩ k5;exact k4 b hb (λh=>hM (.inl h)) (λh=>hM (.inr h))
  |exit id=>obtain⟨_,_,_,_,_,h⟩:=hq;exact h.elim
  |ret=>obtain⟨_,_,_,_,_,h⟩:=hq;exact h.elim
  |panic ch=>obtain⟨_,_,_,_,_,_,_,_,_,_,h⟩:=hq;exact h.elim
  |goto l=>exact hq.elim
  |outgrown=>exact hq.elim
 simp only[cC]at h uC
 have hb:∀(b:Nat),(lX pr w bN v).bx b->False:=λ_ h=>h
 cases draw with
 |true=>
  simp only[ac3]at h;split at h
  case isFalse=>exact h.elim
  rename_i b_;exact aex hm (fF fin _ _ _ _ (iA hW _ _ _ _ (mq (GI:=λ_=>True) (λ_ _ _ _=>trivial) trivial hm hc b_ (λ_ _ _ _ h=>h) lq R h)))
 |false=>
  simp only[acI,acW]at h;split at h
  case isFalse=>exact h.elim
  rename_i b_;exact ac6 (fH fin _ _ _ (iG hW _ _ _ (pS (GI:=λ_=>True) (λ_ _ _ _=>trivial) trivial hc b_ (λ_ _ _ _ h=>h) lq R h)))
def Rel.zz {w0 w':World} {g:Gh} {S':an} {H':aq} {a':Act} (R:Rel P w0 n bz g S' H' a' w') {t:Nat} (ht:t < n) {e:TypeId} {i:TypeInfo} (hi:P.info? e=some i) {es:List AV} (hS:S' t = .slice (if es.isEmpty then .nil else .own e) es)
  (mb:∀x∈es,x.cells.length=i.size/\x.storable=true/\∀c∈x.cells,c.one=true) (Bx:∀x∈es,∀c∈x.cells,gQ c=true):
  RD (λb j=>(g.base<=b/\b<w'.heap.size)/\j<g.hi b) w' (.slice .view es) (a'.tmps.getD t undef):=by
 have h1:=(R.slot t ht id)
 have h2:=(R.own t ht id)
 rw[hS]at h1 h2;have h1:=h1.dL rfl
 cases es with
 |nil=>exact h1.Ch
 |cons x es=>
  simp only[List.isEmpty_cons,acI,acW]at h1 h2;obtain⟨i',xs,b,k1,k2,k3,k4,k5⟩:=h2;rw[hi]at k1;cases k1;have hf:=iQ.Me h1 k2 mb Bx
  refine RD.ofRow k2 (hf.mono (bc.same λ_ _ _ h=>h.elim)) λb' fS k hk=>?_
  rw[k3]at fS;cases fS;exact⟨k2.lt b k3,by rw[k5];exact hk⟩
end
section
variable{P:Program}{GI:World->Prop}{n:Nat}{S:an}{H:aq}{a:Act}{w:World}{ro:Option Nat}{m:Nat}{Q Q':Exit->Act->World->Prop}{F:Fence}
def wZ(ops:Array Oper)(j d:Nat)(T:List Nat):Nat->Array Bool->Bool
 |0,l=>l.getD j false
 |k+1,l=>(Region.ready .any ops l != [] || l.getD j false) && (Region.ready .any ops l).all fun i =>
   (!l.getD j false||(match(ops[i]?).bind (·.dst)with|some t=>t !=d&&!T.contains t|none=>true))&&wZ ops j d T k (l.setIfInBounds i true)
def Yd(N:Act->Prop)(Q:Exit->Act->World->Prop):Exit->Act->World->Prop
 |.normal,a,w=>Q .normal a w/\N a
 |e,a,w=>Q e a w
def ni {ops:Array Oper} {j d:Nat} {oj:Oper} {T:List Nat} (hj:ops[j]? = some oj) (Pk:oj.guard=none) (dF:eB oj.op=true) (N:Act→Prop)
  (OT:∀a a':Act,a'.tmps.getD d undef=a.tmps.getD d undef->(∀t∈T,a'.tmps.getD t undef=a.tmps.getD t undef)->N a->N a') (cM:∀(a:Act)(w:World),a.tmps.size=n->match(execOp a.eval oj).run P w with|.ok (.value v) _=>N (a.put oj.dst v)|.ok _ _=>False|.halt _ _=>True) (hW:jq ops (λt=>decide (t<n))=true):
  ∀(fuel:Nat)(l:Array Bool)(a:Act)(w:World),wZ ops j d T fuel l=true->(l.getD j false=true->N a)->l.size=ops.size->a.tmps.size=n->
   wpAnyIn (FR ro) m P .any ops Q fuel l a w->wpAnyIn (FR ro) m P .any ops (Yd N Q) fuel l a w
 |0,l,a,w,h,hN,hl,bg,hh=>⟨hh.1,hh.2,hN (by simpa[wZ]using h)⟩
 |k+1,l,a,w,h,hN,hl,bg,hh=>by
  simp only[wZ,acA,acN,adw,afm,ne_eq]at h;refine⟨λhr=>⟨hh.1 hr,hN (h.1.resolve_left (λbP=>bP hr))⟩,λi hi=>?_⟩;obtain⟨h2,h3⟩:=h.2 i hi;have hs:=hh.2 i hi;unfold wpOpIn at hs⊢
  cases ho:ops[i]? with
  |none=>exact absurd (aeD.1 hi).2 (by rw[ho];rintro⟨o,h,_⟩;cases h)
  |some o=>
   rw[ho]at hs h2;simp only[Option.bind_some]at h2 hs⊢
   have Qm:i<l.size:=by rw[hl];exact(acz.1 ho).1
   have nJ:(l.setIfInBounds i true).size=ops.size:=by simpa using hl
   have next:∀(a':Act),a'.tmps.size=n->dZ (λt=>o.dst==some t) a a'->i≠j->((l.setIfInBounds i true).getD j false=true->N a'):=by
    intro a' _ bj bP Ra
    have No:l.getD j false=true:=by
     rw[acG,acB bP]at Ra;rwa [acG]
    rcases h2 with h2|h2
    .rw[No]at h2;cases h2
    .have B_:(o.dst==some d)=false∧∀ t∈T,(o.dst==some t)=false:=by
      cases hod:o.dst with
      |none=>simp
      |some t=>
       rw[hod]at h2;simp only[acA,afm,ne_eq,adx,ae6,adQ]at h2;refine⟨by simpa using h2.1,λt' tc=>?_⟩;simp only[adj,ne_eq,ac0];rintro rfl;exact h2.2 tc
     exact OT a a' (bj d B_.1) (λt ht=>bj t (B_.2 t ht)) (hN No)
   have kG:∀(d':Option Nat)(v:Value)(a:Act),(a.put d' v).tmps.size=a.tmps.size:=by
    intro d' v a;cases d'<;>simp[Act.put]
   split
   .rename_i hw;rw[if_pos hw]at hs
    by_cases py:i=j
    .subst py;rw[hj]at ho;cases ho;unfold Oper.wpIn at hs⊢;refine⟨λ_ _=>trivial,?_⟩;have h4:=hs.2;rw[adW _ _ _ (λc hc=>by rw[hc]at dF;cases dF)]at h4⊢;have h5:=cM a w bg;generalize(execOp a.eval oj).run P w=r at h4 h5⊢
     cases r with
     |ok x w'=>
      cases x<;>simp only at h5
      case value v=>
       simp only[Oper.uponIn]at h4⊢;exact ni hj Pk dF N OT cM hW k _ _ w' h3 (λ_=>h5) nJ (by rw[kG];exact bg) h4
     |halt x w'=>cases x<;>simp only[Oper.uponIn]at h4⊢<;>exact h4
    .have si:=pU (W:=λt=>o.dst==some t) (λt ht=>by simp[ht]) hs
     have BG:o.wpIn (FR ro) m P a w (λa' w'=>(wpAnyIn (FR ro) m P .any ops Q k (l.setIfInBounds i true) a' w'/\dZ (λt=>o.dst==some t) a a')/\a'.tmps.size=n) Q:=by
      unfold Oper.wpIn at si⊢;refine⟨si.1,?_⟩;have h4:=si.2
      generalize(o.semAt (FR ro).round a.eval).run P w=r at*
      cases r with
      |ok x w'=>
       cases x<;>simp only[Oper.uponIn]at h4⊢<;>first
        |exact⟨h4,by rw[kG];exact bg⟩
        |exact⟨h4.1,afB h4.2 (λe iV he=>by cases e<;>first|exact⟨he,by rw[kG];exact bg⟩|exact he)⟩
        |exact⟨h4.1,afL h4.2 (λ_ _ he=>⟨he,by rw[kG];exact bg⟩)⟩
        |exact⟨h4.1,afC h4.2 (λe iV he=>by cases e<;>first|exact⟨he,by rw[kG];exact bg⟩|exact he)⟩
      |halt x w'=>cases x<;>simp only[Oper.uponIn]at h4⊢<;>exact h4
     refine mc (λa' w' hh=>?_) (λe a w bP hh=>?_) BG
     .exact ni hj Pk dF N OT cM hW k _ a' w' h3 (next a' hh.2 hh.1.2 py) nJ hh.2 hh.1.1
     .cases e<;>first|exact hh|exact absurd rfl bP
   .rename_i hw;rw[if_neg hw]at hs
    have py:i≠j:=by
     rintro rfl;rw[hj]at ho;cases ho;simp[Region.wanted,Pk]at hw
    refine⟨hs.1,ni hj Pk dF N OT cM hW k _ _ w h3 (next _ (by rw[kG];exact bg) (dZ.put (λt ht=>by simp[ht]) _) py) nJ (by rw[kG];exact bg) hs.2⟩
def OP (hG:aw GI) (hm:P.follows .mixedOrders=true) {id:Nat} {ops:Array Oper} {p:Nat} (zI:cutAt ops p=true) (dF:(ops.extract 0 p).all (fun o=>eB o.op)=true) (b_:Lx P n (ops.extract 0 p)=true)
  {l:List bB} (hl:br P n true (ops.extract 0 p)=l) (iS:(ops.extract 0 p).size=p) {W:Nat->Bool} (hW:jq (ops.extract 0 p) W=true) (gm:GI w) (pr:Nat->Nat->Prop) (S:an)
  {j d:Nat} {oj:Oper} {T:List Nat} (hj:(ops.extract 0 p)[j]?=some oj) (Pk:oj.guard=none) (aaC:eB oj.op=true) (N:Act->Prop)
  (OT:∀a a':Act,a'.tmps.getD d undef=a.tmps.getD d undef->(∀t∈T,a'.tmps.getD t undef=a.tmps.getD t undef)->N a->N a') (cM:∀(a:Act)(w:World),a.tmps.size=n->match(execOp a.eval oj).run P w with|.ok (.value v) _=>N (a.put oj.dst v)|.ok _ _=>False|.halt _ _=>True) (hWn:jq (ops.extract 0 p) (λt=>decide (t<n))=true)
  (gX:wZ (ops.extract 0 p) j d T p (Array.replicate p false)=true)
  (bg:a.tmps.size=n) (ee:a.defers=[]) (hS:∀t,t<n->(S t).aH=S t/\RV pr cD w (S t) (a.tmps.getD t undef)) {K:an->aq->Prop}
  (h:cq P GI l K (eo l S) (dG l (λ_=>none)))
  (hk:∀g S' H' a' w',g.old=Old.plain pr w->Rel P w n bz g S' H' a' w'->K S' H'->dZ W a a'->N a'->wpOpsIn (FR ro) m P ops Q (List.range' p (ops.size-p)) a' w'):
  (Code.region id ops true).wpIn (FR ro) m P Q a w:=by
 refine Od hm zI ?_;have key:=mq (ro:=ro) (m:=m) (a:=a) (w:=w) hG gm hm (old:=Old.plain pr w) (ops:=ops.extract 0 p) (Q:=aO K) dF b_ (λ_ _ _ _ h=>h) rfl (Rel.RW pr bg ee hS) (by subst hl;exact h);rw[iS]at key
 have abA:=ni hj Pk aaC N OT cM hWn p _ a _ gX (λhh=>by
  have:(Array.replicate p false).getD j false=false:=by
   rw[acG]
   by_cases hjp:j<p
   .simp[hjp]
   .simp[hjp]
  rw[this]at hh;cases hh) (by simpa using iS.symm) bg (iA hW _ _ _ _ key)
 refine fF ?_ _ _ _ _ abA;intro e a' w' hq
 cases e with
 |normal=>
  obtain⟨⟨⟨g',S',H',h1,h2,h3⟩,h4⟩,h5⟩:=hq;exact hk g' S' H' a' w' h1 h2 h3 h4 h5
 |exit id=>obtain⟨_,_,_,_,_,h⟩:=hq;exact h.elim
 |ret=>obtain⟨_,_,_,_,_,h⟩:=hq;exact h.elim
 |panic ch=>obtain⟨_,_,_,_,_,_,_,_,_,_,h⟩:=hq;exact h.elim
 |goto l=>exact hq.elim
 |outgrown=>exact hq.elim
end
section
variable{P:Program}{n:Nat}{a:Act}{w:World}{m:Nat}{Q:Exit->Act->World->Prop}
def kS {o:Oper} {t:TypeId} {x:Operand} {b off:Nat} {v:Value} {d:TypeDesc} (ho:o.op = .load t x) (hx:a.eval x = .pointer (some ⟨b,off,none⟩)) (hu:P.underlying t=some d) (hd:eh d=false) (hc:w.cell? ⟨b,off,none⟩=some v) :
  (execOp a.eval o).run P w=.ok (.value v) w:=by
 have lA:(isAgg t).run P w=.ok false w:=by
  unfold isAgg;rw[acK,acR hu w]
  cases d<;>simp_all[eh]
 unfold execOp;simp[ho,hx,Instr.loadAt,Instr.sureAddr,loadVar,acK,lA,hc]
def il {o:Oper} {t:TypeId} {x y:Operand} {b:Nat} {v u:Value} {ty:TypeId} {i:TypeInfo} (ho:o.op = .store t x y) (hx:a.eval x = .pointer (some ⟨b,0,none⟩)) (hi:P.info? t=some i) (hs:i.size=1) (hb:w.heap[b]? = some (.cells #[u] ty (0,0)))
  (hv:(a.eval y)=v) (h1:v.oneCell'=true):(execOp a.eval o).run P w=.ok .skip (w.setRow b #[v]):=by
 have jz:v.cells=#[v]:=by cases v<;>first|rfl|cases h1
 have cM:=afs P b 0 ty [v] 0 #[u] w hb (by simp) (λx hx=>by simp at hx;subst hx;exact h1);unfold execOp;simp only[ho,hx,hv,Instr.storeAt,Instr.sureAddr,storeVar,sizeOf,typeInfo,acK,Sem.run_pure,Result.andThen_ok,run_program,hi,hs,jz,ne_eq,aef,acW];simp only[Nat.add_zero,List.take_zero,List.nil_append,List.length_singleton,ae4,ac_]at cM
 have e:(w.setRow b ([v]++List.drop 1 #[u].toList).toArray)=w.setRow b #[v]:=by simp
 rw[e]at cM;have bg:(#[v]:Array Value).size=1:=rfl;simp only[bg,aef,acW];rw[show storeCells ⟨b,0,none⟩ (#[v]:Array Value).toList=storeCells ⟨b,0,none⟩ [v] 0 from rfl,cM]
 rfl
def D1 {o:Oper} {cl:Call} {t:TypeId} {x:Operand} {ad:Option Addr} {k cap:Nat} {el:TypeId} (ho:o.op = .call cl) (gr:cl.callee = .builtin .len) (ha:cl.args = #[x]) (ht:cl.argTypes = #[t]) (hu:P.underlying t=some (.slice el)) (hx:a.eval x = .slice ad k cap) :
  (execOp a.eval o).run P w=.ok (.value (.int .i64 k)) w:=by
 unfold execOp
 have hm:(Builtin.len_ #[t] o.type #[.slice ad k cap]).run P w=.ok (.int .i64 k) w:=by simp[Builtin.len_,acR hu,goInt]
 simp[ho,gr,ha,ht,resolve,invoke,builtin,hx,hm]
def Ip {o:Oper} {t:TypeId} {x y:Operand} {g k cap:Nat} {el:TypeId} {i:TypeInfo} (ho:o.op = .slice t x none (some y) none) (hu:P.underlying t=some (.slice el)) (hi:P.info? el=some i) (hx:a.eval x = .slice (some ⟨g,0,none⟩) (k+1) cap) (hy:a.eval y = .int .i64 k) (hk:k≤cap) :
  (execOp a.eval o).run P w=.ok (.value (.slice (some ⟨g,0,none⟩) k cap)) w:=by
 have hb:=run_sliceBound (P:=P) (w:=w) (x:=.int .i64 k) (i:=k) (y:=cap) (code:=.sliceAcap) rfl (by omega) (by omega)
 have hbs:(Instr.sliceBounds true (k+1) cap none (some (.int .i64 k)) none).run P w=.ok (0,k,cap) w:=by
  unfold Instr.sliceBounds;simp[acK,hb]
 unfold execOp;simp[ho,hx,hy,Instr.sliceAt,acR hu,Instr.slice,hbs,sizeOf,typeInfo,hi,adt]
def Eu {o:Oper} {t t':TypeId} {x y:Operand} {p q:Int} (ho:o.op = .binOp .sub t x y t') (hx:a.eval x = .int .i64 p) (hy:a.eval y = .int .i64 q) :
  (execOp a.eval o).run P w=.ok (.value (.int .i64 (IntKind.i64.wrap (p-q)))) w:=by
 have h0:(eqGuard .sub t x y (.int .i64 p) (.int .i64 q)).run P w=.ok () w:=gk _ _ _ _ _ _ rfl
 have h1:(binOp .sub t (.int .i64 p) (.int .i64 q)).run P w=.ok (.int .i64 (IntKind.i64.wrap (p-q))) w:=by
  simp[binOp,Op.intArith]
 simp[execOp,ho,hx,hy,h0,h1]
def JT {ops:Array Oper} {T el ti ti':TypeId} {p t1 t2 t3 t4 t5 bN:Nat} {o0 o1 o2 o3 o4 o5:Oper} {cl:Call} {i iT:TypeInfo} {v:Value} {ty:TypeId} {k:Nat} {xs last:List Value}
  (h0:ops[0]?=some o0) (h1:ops[1]?=some o1) (h2:ops[2]?=some o2) (h3:ops[3]?=some o3) (h4:ops[4]?=some o4) (h5:ops[5]?=some o5)
  (q0:o0.op=.load T (.tmp p)/\o0.dst=some t1/\o0.guard=none) (q1:o1.op=.load T (.tmp p)/\o1.dst=some t2/\o1.guard=none) (q2:o2.op=.call cl/\o2.dst=some t3/\o2.guard=none) (q3:o3.op=.binOp .sub ti (.tmp t3) (.const (.int .i64 1)) ti'/\o3.dst=some t4/\o3.guard=none)
  (q4:o4.op=.slice T (.tmp t1) none (some (.tmp t4)) none/\o4.dst=some t5/\o4.guard=none) (q5:o5.op=.store T (.tmp p) (.tmp t5)/\o5.dst=none/\o5.guard=none)
  (gr:cl.callee=.builtin .len) (wu:cl.args=#[.tmp t2]) (pw:cl.argTypes=#[T]) (hu:P.underlying T=some (.slice el)) (QM:P.info? T=some iT) (Qo:iT.size=1) (hi:P.info? el=some i)
  (hd:p≠t1/\p≠t2/\p≠t3/\p≠t4/\p≠t5/\t1≠t2/\t1≠t3/\t1≠t4/\t2≠t3/\t3≠t4/\t4≠t5) (bg:a.tmps.size=n) (hn:t1<n/\t2<n/\t3<n/\t4<n/\t5<n)
  (hp:a.tmps.getD p undef=.pointer (some ⟨bN,0,none⟩)) (hN:w.heap[bN]?=some (.cells #[v] ty (0,0))) (cI:w.ownsRow (bN+1) el i.size v (k+1) (xs++last)) (pq:xs.length=k*i.size) (hk:k<1000000)
  (hq:∀a' v',a'.tmps.size=n->a'.defers=a.defers->(∀t,t≠t1->t≠t2->t≠t3->t≠t4->t≠t5->a'.tmps.getD t undef=a.tmps.getD t undef)->v'.ownBlock=v.ownBlock->v.ownBlock.isSome=true->w.ownsRow (bN+1) el i.size v' k xs->Q .normal a' (w.setRow bN #[v'])):
  wpOpsIn (FR none) m P ops Q [0,1,2,3,4,5] a w:=by
 obtain⟨d1,d2,d3,d4,d5,d6,d7,d8,d9,d10,d11⟩:=hd;obtain⟨n1,n2,n3,n4,n5⟩:=hn
 have hc:w.cell? ⟨bN,0,none⟩=some v:=by simp[World.cell?,hN]
 obtain⟨g,cap,rfl⟩:∃g cap,v=.slice (some ⟨g,0,none⟩) (k+1) cap:=by
  rcases cI.2 with⟨_,h⟩|⟨g,cap,cur,h,_⟩
  .omega
  .exact⟨g,cap,h⟩
 have eT:k<=cap:=by
  rcases cI.2 with⟨h,_⟩|⟨g',J5,cur,h,_,_,Iz,_⟩
  .cases h
  .cases h;omega
 have ab8:w.ownsRow (bN+1) el i.size (.slice (some ⟨g,0,none⟩) k cap) k xs:=by
  obtain⟨_,h2⟩:=cI
  rcases h2 with⟨h0,_⟩|⟨g',J5,cur,hv,hg,hh,hn,eT,bg,yK⟩
  .cases h0
  .cases hv;refine⟨pq,.inr ⟨g,cap,cur,rfl,hg,hh,by omega,eT,bg,?_⟩⟩
   have h3:(cur.toList.take ((k+1)*i.size)).take (k*i.size)=(xs++last).take (k*i.size):=by rw[yK]
   rw[List.take_take,Nat.min_eq_left (adJ _ (by omega))]at h3;rw[h3,<-pq,afJ]
 have eY:∀(a:Act)(d t:Nat)(c:Value),t≠d->(a.put (some d) c).tmps.getD t undef=a.tmps.getD t undef:=λa d t c h=>by
  simp[Act.put,acB (adi h)]
 have jy:∀(a:Act)(d:Nat)(c:Value),a.tmps.size=n->d<n->(a.put (some d) c).tmps.getD d undef=c:=λa d c h hd=>by
  simp[Act.put,h,hd]
 have jo:∀(a:Act)(d:Option Nat)(c:Value),(a.put d c).tmps.size=a.tmps.size:=λa d c=>by cases d<;>simp[Act.put]
 have qB:∀(a:Act)(d:Option Nat)(c:Value),(a.put d c).defers=a.defers:=λa d c=>by cases d<;>rfl
 refine aV h0 q0.2.2 (by rw[q0.1];rfl) (kS q0.1 hp hu rfl hc) ?_;rw[q0.2.1]
 obtain⟨a1,pA⟩:∃a1,a.put (some t1) (.slice (some ⟨g,0,none⟩) (k+1) cap)=a1:=⟨_,rfl⟩
 have z1:a1.tmps.size=n:=by rw[<-pA,jo];exact bg
 have v1:a1.tmps.getD t1 undef=.slice (some ⟨g,0,none⟩) (k+1) cap:=by rw[<-pA];exact jy a t1 _ bg n1
 have p1:a1.tmps.getD p undef=.pointer (some ⟨bN,0,none⟩):=by rw[<-pA,eY _ _ _ _ d1];exact hp
 rw[pA];refine aV h1 q1.2.2 (by rw[q1.1];rfl) (kS q1.1 p1 hu rfl hc) ?_;rw[q1.2.1]
 obtain⟨a2,je⟩:∃a2,a1.put (some t2) (.slice (some ⟨g,0,none⟩) (k+1) cap)=a2:=⟨_,rfl⟩
 have z2:a2.tmps.size=n:=by rw[<-je,jo];exact z1
 have v2:a2.tmps.getD t2 undef=.slice (some ⟨g,0,none⟩) (k+1) cap:=by rw[<-je];exact jy a1 t2 _ z1 n2
 have v1:a2.tmps.getD t1 undef=.slice (some ⟨g,0,none⟩) (k+1) cap:=by rw[<-je,eY _ _ _ _ d6];exact v1
 have p2:a2.tmps.getD p undef=.pointer (some ⟨bN,0,none⟩):=by rw[<-je,eY _ _ _ _ d2];exact p1
 rw[je];refine aV h2 q2.2.2 (by rw[q2.1];rfl) (D1 q2.1 gr wu pw hu v2) ?_;rw[q2.2.1]
 obtain⟨a3,qz⟩:∃a3,a2.put (some t3) (.int .i64 ((k+1:Nat):Int))=a3:=⟨_,rfl⟩
 have z3:a3.tmps.size=n:=by rw[<-qz,jo];exact z2
 have v3:a3.tmps.getD t3 undef=.int .i64 ((k+1:Nat):Int):=by rw[<-qz];exact jy a2 t3 _ z2 n3
 have v1:a3.tmps.getD t1 undef=.slice (some ⟨g,0,none⟩) (k+1) cap:=by rw[<-qz,eY _ _ _ _ d7];exact v1
 have p3:a3.tmps.getD p undef=.pointer (some ⟨bN,0,none⟩):=by rw[<-qz,eY _ _ _ _ d3];exact p2
 rw[qz];refine aV h3 q3.2.2 (by rw[q3.1];rfl) (Eu q3.1 v3 rfl) ?_;rw[q3.2.1]
 have hw:IntKind.i64.wrap (((k+1:Nat):Int)-1)=(k:Int):=by
  have key:∀m:Int,m=(((k+1:Nat):Int)-1) % 18446744073709551616->(if decide (m>=9223372036854775808)=true then m-18446744073709551616 else m)=(k:Int):=by
   intro m hm;split
   .rename_i hd;have:=aez hd;omega
   .omega
  exact key _ rfl
 rw[hw]
 obtain⟨a4,lx⟩:∃a4,a3.put (some t4) (.int .i64 (k:Int))=a4:=⟨_,rfl⟩
 have z4:a4.tmps.size=n:=by rw[<-lx,jo];exact z3
 have v4:a4.tmps.getD t4 undef=.int .i64 (k:Int):=by rw[<-lx];exact jy a3 t4 _ z3 n4
 have v1:a4.tmps.getD t1 undef=.slice (some ⟨g,0,none⟩) (k+1) cap:=by rw[<-lx,eY _ _ _ _ d8];exact v1
 have p4:a4.tmps.getD p undef=.pointer (some ⟨bN,0,none⟩):=by rw[<-lx,eY _ _ _ _ d4];exact p3
 rw[lx];refine aV h4 q4.2.2 (by rw[q4.1];rfl) (Ip q4.1 hu hi v1 v4 eT) ?_;rw[q4.2.1]
 obtain⟨a5,pv⟩:∃a5,a4.put (some t5) (.slice (some ⟨g,0,none⟩) k cap)=a5:=⟨_,rfl⟩
 have z5:a5.tmps.size=n:=by rw[<-pv,jo];exact z4
 have v5:a5.tmps.getD t5 undef=.slice (some ⟨g,0,none⟩) k cap:=by rw[<-pv];exact jy a4 t5 _ z4 n5
 have p5:a5.tmps.getD p undef=.pointer (some ⟨bN,0,none⟩):=by rw[<-pv,eY _ _ _ _ d5];exact p4
 rw[pv];refine dU h5 q5.2.2 (by rw[q5.1];rfl) (il q5.1 p5 QM Qo hN v5 rfl) ?_;rw[q5.2.1];refine hq a5 _ z5 ?_ (λt e1 e2 e3 e4 e5=>?_) rfl rfl ab8
 .rw[<-pv,qB,<-lx,qB,<-qz,qB,<-je,qB,<-pA,qB]
 .rw[<-pv,eY _ _ _ _ e5,<-lx,eY _ _ _ _ e4,<-qz,eY _ _ _ _ e3,<-je,eY _ _ _ _ e2,<-pA,eY _ _ _ _ e1]
def gL {F:Fence} {ops:Array Oper} {Q1:Exit→Act→World→Prop} {l2:List Nat} (hQ:∀ e a w,e ≠ .normal→Q1 e a w→Q e a w) (hn:∀ a w,Q1 .normal a w→wpOpsIn F m P ops Q l2 a w) :
  ∀(l1:List Nat)(a:Act)(w:World),wpOpsIn F m P ops Q1 l1 a w->wpOpsIn F m P ops Q (l1++l2) a w
 |[],a,w,h=>hn a w h
 |i::l,a,w,h=>by
  simp only[List.cons_append,wpOpsIn]at h⊢
  cases ho:ops[i]? with
  |none=>simp only[ho]at h⊢;exact gL hQ hn l a w h
  |some o=>
   simp only[ho]at h⊢;split
   .rename_i hw;rw[if_pos hw]at h;exact mc (λa w hh=>gL hQ hn l a w hh) hQ h
   .rename_i hw;rw[if_neg hw]at h;exact⟨h.1,gL hQ hn l _ w h.2⟩
def kN {GI:World→Prop} {ro:Option Nat} (hG:aw GI) {ops:Array Oper} {p:Nat} {l2:List Nat} (hr:List.range ops.size=List.range p++l2) (dF:ops.all (fun o=>eB o.op)=true) (b_:((br P n false ops).take p).all (·.ok n)=true)
  {l:List bB} (hl:(br P n false ops).take p=l) (hpn:p<=ops.size) {W:Nat->Bool} (hW:jq ops W=true) (gm:GI w) (pr:Nat->Nat->Prop) (S:an)
  (bg:a.tmps.size=n) (ee:a.defers=[]) (hS:∀t,t<n->(S t).aH=S t/\RV pr cD w (S t) (a.tmps.getD t undef)) {K:an->aq->Prop} (h:bw P GI l K (λ_=>False) S (λ_=>none))
  (hk:∀g S' H' a' w',g.old=Old.plain pr w->Rel P w n bz g S' H' a' w'->K S' H'->dZ W a a'->wpOpsIn (FR ro) m P ops Q l2 a' w') {id:Nat}:(Code.region id ops false).wpIn (FR ro) m P Q a w:=by
 refine ac6 ?_;rw[hr];subst hl;have R:=Rel.RW (P:=P) pr bg ee hS
 have key:=qJ hG gm (old:=Old.plain pr w) (ops:=ops) (Q:=aO K) (S0:=S) (H0:=fun _=>none) (List.range p) (ops.toList.take p) _ S _ a w (by
   apply adP;intro i;simp only[ac1,afj]
   by_cases hi:i<p
   .have:i<ops.size:=by omega
    simp[hi,this]
   .simp[hi]) (λo kT=>by
    simp only[br,<-aeV,aeu,acN,Function.comp]at b_
    exact b_ o kT) (λ_ _ _ _ h=>h) rfl R (by
    simp only[br,<-aeV]at h
    exact h)
 refine gL (Q1:=yj W a (QQ P w n (Old.plain pr w) (aO K))) (λe a w bP hq=>?_) (λa' w' hq=>?_) _ _ _ (iG hW _ _ _ (oD dF qH _ _ _ key))
 .cases e with
  |normal=>exact absurd rfl bP
  |exit id=>obtain⟨_,_,_,_,_,h⟩:=hq;exact h.elim
  |ret=>obtain⟨_,_,_,_,_,h⟩:=hq;exact h.elim
  |panic ch=>obtain⟨_,_,_,_,_,_,_,_,_,_,h⟩:=hq;exact h.elim
  |goto l=>exact hq.elim
  |outgrown=>exact hq.elim
 .obtain⟨⟨g',S',H',h1,h2,h3⟩,h4⟩:=hq;exact hk g' S' H' a' w' h1 h2 h3 h4
end
section
variable{P:Program}{GI:World->Prop}{n:Nat}{old:Old}{S:an}{H:aq}{Q:ij}
def rl (hG:aw GI) {w0:World} (cj:GI w0) {ro:Option Nat} {m:Nat} {ops:Array Oper} (dF:ops.all (fun o=>eB o.op)=true) {g:Gh} {a:Act} {w:World} (ho:g.old=old) (R:Rel P w0 n bz g S H a w) (l:List Nat) (os:List Oper) (hl:l.map (ops[·]?)=os.map some)
  (b_:∀o∈os,(bD P n false ops o).ok n=true) (cg:∀d,¬old.bx d) {K:an->aq->Prop} (h:bw P GI (os.map (bD P n false ops)) K (λ_=>False) S H):
  wpOpsIn (FR ro) m P ops (QQ P w0 n old (aO K)) l a w:=
 oD dF qH _ _ _ (qJ hG cj (old:=old) (ops:=ops) (Q:=aO K) (S0:=S) (H0:=H) l os g S H a w hl b_ (λ_ _ _ _=>cg _) ho R h)
def SW.mid (hG:aw GI) {ro:Option Nat} {id p:Nat} {ops:Array Oper} {oh:Oper} {l2:List Nat} {js lv:List Oper} (Nb:ops.toList=js++oh::lv) (hp:js.length=p) (hr:List.range ops.size=List.range p++(p::l2)) (pz:l2.map (ops[·]?)=lv.map some)
  (dF:ops.all (λo=>eB o.op)=true) (hgh:oh.guard=none) (cg:∀d,¬old.bx d)
  {lO lu:List bB} (CD:js.map (bD P n false ops)=lO) (Iw:lv.map (bD P n false ops)=lu) (dI:lO.all (·.ok n)=true) (Cn:lu.all (·.ok n)=true)
  {K1:an->aq->Prop} {K2 K3:Old->an->aq->Prop} (h1:bw P GI lO K1 (λ_=>False) S H)
  (hand:∀w0 g S1 H1 a w,g.old=old->Rel P w0 n bz g S1 H1 a w->K1 S1 H1->∃v w' g2 S2 H2,((execOp a.eval oh).run P w=.ok (.value v) w'\/((execOp a.eval oh).run P w=.ok .skip w'/\v=undef))/\Rel P w0 n bz g2 S2 H2 (a.put oh.dst v) w'/\K2 g2.old S2 H2)
  (h2:∀o S H,K2 o S H->(∀d,¬o.bx d)/\bw P GI lu (K3 o) (λ_=>False) S H) (hQ:∀o S H,K3 o S H->Q .normal o S H):SW P GI n ro (.region id ops false) Q old S H:=by
 intro w0 g a w m cj ho R;refine ac6 ?_;rw[hr]
 have MF:(List.range p).map (ops[·]?)=js.map some:=by
  apply adP;intro i;simp only[ac1]
  by_cases hi:i<p
  .have h3:ops[i]? = js[i]? := by
    rw[<-adM,Nb,adB (by omega)]
   have h4:js[i]?=some (js[i]'(by omega)):=acx (by omega);simp[hi,h3,h4]
  .have:js[i]?=none:=acU (by omega);simp[hi,this]
 have Xe:ops[p]?=some oh:=by
  rw[<-adM,Nb,adN (by omega)];simp[hp]
 refine gL (Q1:=QQ P w0 n old (aO K1)) (fun e a w bP hq => ?_) (fun a1 w1 hq => ?_) _ _ _ (rl hG cj dF ho R (List.range p) js MF (fun o kT=>by
   subst CD;simp only[aeu,acN,Function.comp]at dI
   exact dI o kT) cg (by rw[CD];exact h1))
 .cases e with
  |normal=>exact absurd rfl bP
  |exit id=>obtain⟨_,_,_,_,_,h⟩:=hq;exact h.elim
  |ret=>obtain⟨_,_,_,_,_,h⟩:=hq;exact h.elim
  |panic ch=>obtain⟨_,_,_,_,_,_,_,_,_,_,h⟩:=hq;exact h.elim
  |goto l=>exact hq.elim
  |outgrown=>exact hq.elim
 .obtain⟨g1,S1,H1,xK,R1,KD⟩:=hq;obtain⟨v,w2,g2,S2,H2,cM,R2,jD⟩:=hand w0 g1 S1 H1 a1 w1 xK R1 KD;obtain⟨jK,je⟩:=h2 _ _ _ jD
  have VW:eB oh.op=true:=by
   have:=ads.1 dF oh (adz Xe);exact this
  have rest:wpOpsIn (FR ro) m P ops (QS P w0 n Q) l2 (a1.put oh.dst v) w2:=by
   have:=rl (ro:=ro) (m:=m) hG cj dF (old:=g2.old) rfl R2 l2 lv pz (λo kT=>by
    subst Iw;simp only[aeu,acN,Function.comp]at Cn
    exact Cn o kT) jK (by rw[Iw];exact je)
   refine fH (λe a w hq=>?_) _ _ _ this
   cases e with
   |normal=>
    obtain⟨g3,S3,H3,xP,R3,E'⟩:=hq;exact⟨g3,S3,H3,R3,by rw[xP];exact hQ _ _ _ E'⟩
   |exit id=>obtain⟨_,_,_,_,_,h⟩:=hq;exact h.elim
   |ret=>obtain⟨_,_,_,_,_,h⟩:=hq;exact h.elim
   |panic ch=>obtain⟨_,_,_,_,_,_,_,_,_,_,h⟩:=hq;exact h.elim
   |goto l=>exact hq.elim
   |outgrown=>exact hq.elim
  rcases cM with cM|⟨cM,rfl⟩
  .exact aV Xe hgh VW cM rest
  .exact dU Xe hgh VW cM rest
variable{w0:World}{g:Gh}{a:Act}{w:World}
def Rel.nn(R:Rel P w0 n bz g S H a w)(o:Obj):Rel P w0 n bz { g with old:={ g.old with aR:=au g.old.aR w.heap.size (some o) } } S H a (w.alloc o):=by
 have hb:Below w.heap.size w (w.alloc o):=(adA _ _).alloc (acD _) _;have R':=Rel.jR R hb
 have hle:g.base<=w.heap.size:=by rw[R.base];exact R.below.size
 refine{ size:=R'.size,defers:=R'.defers,facts:=R'.facts,slot:=R'.slot,own:=λt ht hu=>(R'.own t ht hu).aR rfl λb hb=>⟨rfl,rfl,hb⟩,box:=?_,iw:=R'.iw,iE:=R'.iE,inj:=R'.inj,base:=R'.base,below:=R'.below,fresh:=R'.fresh,still:=R'.still,grown:=R'.grown,kept:=?_ }
 .intro i b hi;obtain⟨cs,vs,ty,h1,h2,h3,h4,h5,h6,h7,h8,h9⟩:=R'.box i b hi;exact⟨cs,vs,ty,h1,h2,h3,h4,h5,h6,h7,λj hj dH=>(h8 j hj dH).aR rfl λb hb=>⟨rfl,rfl,hb⟩,h9⟩
 .intro b ob h
  by_cases kd:b=w.heap.size
  .subst kd
   have:ob=o:=by simpa[au]using h.symm
   subst this;refine⟨hle,adv w _,(R.fresh _ (acD _)).1,(R.fresh _ (acD _)).2,λi hi=>?_⟩;obtain⟨_,_,_,_,_,h3,_⟩:=R.box i _ hi;have:=(acz.1 h3).1;omega
  .have h:g.old.aR b=some ob:=by simpa[au,kd]using h
   exact R'.kept b ob h
def qd(b:Nat)(ks vs:List AV):AV->AV
 |.val (.map (some b'))=>if b'=b then .map ks vs else .val (.map (some b'))
 |v=>v
def KI(b:Nat)(ks vs:List AV)(v:AV)(h:v.one=true):(qd b ks vs v).one=true:=by
 unfold qd;split
 .split<;>rfl
 .exact h
def Rel.Qs (R:Rel P w0 n bz g S H a w) {b:Nat} {es:Array MapEntry} {clock:Nat} (hk:g.old.aR b=some (.map es clock)) (ks vs:List AV) (jB:ks.length=es.size) (OD:vs.length=es.size)
  (X8:∀i (h:i<ks.length)(h':i<es.size),RD (λ_ _=>False) w ks[i] (es[i]).key) (n_:∀i (h:i<vs.length)(h':i<es.size),RD (λ_ _=>False) w vs[i] (es[i]).val)
  (hf:g.old.facts=[]):∃g',g'.old={ g.old with aR:=au g.old.aR b none }/\Rel P w0 n bz g' (λt=>match S t with|.box i o=>.box i o|_=>.bm) (λi=>(H i).map λcs=>cs.map (qd b ks vs)) a w:=by
 obtain⟨k1,k2,k3,k4,k5⟩:=R.kept b _ hk
 let g':Gh:={ g with old:={ g.old with aR:=au g.old.aR b none },hi:=au g.hi b 1 }
 have pj:∀c k,g.Pr c k->g'.Pr c k:=by
  intro c k h;rcases h with h|h
  .exact .inl h
  .refine .inr ⟨h.1,?_⟩;show k<au g.hi b 1 c
   by_cases hc:c=b
   .subst hc;rw[k3]at h;omega
   .rw[aN _ _ hc];exact h.2
 have hK:bc g.Pr g'.Pr w w:=bc.same λc k _ h=>pj c k h
 have Ni:RD g'.Pr w (.map ks vs) (.map (some b)):=by
  refine .map ks vs b es clock (.inr ⟨k1,by show 0<au g.hi b 1 b;rw[aK];omega⟩) k2 jB OD (λi h h'=>(X8 i h h').mono (bc.same λ_ _ _ h=>h.elim)) (λi h h'=>(n_ i h h').mono (bc.same λ_ _ _ h=>h.elim))
 have Xv:∀{v:AV}{c:Value},RD g.Pr w v c->RD g'.Pr w (qd b ks vs v) c:=by
  intro v c h;unfold qd;split
  .rename_i b';split
   .rename_i hb;subst hb;cases h;exact Ni
   .exact h.mono hK
  .exact h.mono hK
 refine⟨g',rfl,{ size:=R.size,defers:=R.defers,facts:=λp hp=>(by rw[show g'.old.facts=g.old.facts from rfl,hf]at hp;cases hp),slot:=?_,own:=?_,box:=?_,iw:=?_,iE:=R.iE,inj:=R.inj,base:=R.base,below:=R.below,fresh:=?_,still:=R.still.trans hK,grown:=R.grown,kept:=?_ }⟩
 .intro t ht hu;have h:=R.slot t ht hu;show RV g'.Pr g'.al w (match S t with|.box i o=>.box i o|_=>.bm) _;split
  .rename_i i o hs;rw[hs]at h;generalize a.tmps.getD t undef=c at h
   cases h with
   |data _ _ h=>cases h
   |box _ _ b h=>exact .box _ _ _ h
  .exact .bm _
 .intro t ht hu;show ea P w g' (.slot t) (match S t with|.box i o=>.box i o|_=>.bm) _
  split<;>trivial
 .intro i c hi;obtain⟨cs,kz,ty,h1,h2,h3,h4,h5,h6,h7,h8,h9⟩:=R.box i c hi
  have kh:c≠b:=by rintro rfl;exact k5 i hi
  refine⟨cs.map (qd b ks vs),kz,ty,by simp[h1],h2,h3,by show au g.hi b 1 c=0;rw[aN _ _ kh];exact h4,h5,by simpa using h6,λj hj dH=>?_,λj hj dH=>?_,λj hj=>?_⟩
  .simp only[acC]at hj;simp only[acM];exact Xv (h7 j hj dH)
  .simp only[acC]at hj;simp only[acM];have ho:=h8 j hj dH;unfold qd;split
   .split<;>trivial
   .refine ho.aR rfl λb' fS=>⟨rfl,?_,fS⟩
    show au g.hi b 1 b'=g.hi b';exact aN _ _ (by rintro rfl;rw[k4]at fS;cases fS)
  .simp only[acC]at hj;simp only[acM];exact KI _ _ _ _ (h9 j hj)
 .intro i cs h hu;obtain⟨fj,h1,_⟩:=acE.1 h;exact R.iw i fj h1 hu
 .intro c hc
  have kh:c≠b:=by
   rintro rfl;have:=(acz.1 k2).1;omega
  exact⟨by show au g.hi b 1 c=0;rw[aN _ _ kh];exact(R.fresh c hc).1,(R.fresh c hc).2⟩
 .intro c ob h
  have kh:c≠b:=by rintro rfl;simp[g',au]at h
  have h:g.old.aR c=some ob:=by simpa[g',au,kh]using h
  obtain⟨q1,q2,q3,q4,q5⟩:=R.kept c ob h;exact⟨q1,q2,by show au g.hi b 1 c=0;rw[aN _ _ kh];exact q3,q4,q5⟩
end
def wa(i:Nat)(cs:List AV):AV->AV
 |.box j off=>if j=i then .ref ((cs.map AV.aH).drop off)else .box j off
 |v=>bQ i v
section
variable{P:Program}{w0:World}{n:Nat}{g:Gh}{S:an}{H:aq}{a:Act}{w:World}
def Rel.freeze (R:Rel P w0 n bz g S H a w) {i:Nat} {cs:List AV} (hH:H i=some cs) (hf:g.old.facts=[]) :
  ∃g',g'.old=g.old/\Rel P w0 n bz g' (λt=>wa i cs (S t)) (au H i none) a w:=by
 obtain⟨b,hb⟩:=afg.1 (R.iw i cs hH id);obtain⟨fj,vs,ty,e0,b1,b2,b3,b4,b5,b6,b7,b8⟩:=R.box i b hb;rw[hH]at e0;cases e0
 let g':Gh:={ g with al:=au g.al i none,hi:=au g.hi b cs.length }
 have pj:∀c k,g.Pr c k->g'.Pr c k:=by
  intro c k h;rcases h with h|h
  .exact .inl h
  .refine .inr ⟨h.1,?_⟩;show k<au g.hi b cs.length c
   by_cases hc:c=b
   .subst hc;rw[b3]at h;omega
   .rw[aN _ _ hc];exact h.2
 have hK:bc g.Pr g'.Pr w w:=bc.same λc k _ h=>pj c k h
 have gw:∀j c,j≠i->g.al j=some c->g'.al j=some c:=λj c hj h=>by show au g.al i none j=_;rw[aN _ _ hj];exact h
 have X':∀j c,j≠i->g.al j=some c->c≠b:=by
  rintro j c hj h rfl;exact hj (R.inj j i _ h hb)
 refine⟨g',rfl,{ size:=R.size,defers:=R.defers,facts:=λp hp=>(by rw[show g'.old.facts=g.old.facts from rfl,hf]at hp;cases hp),slot:=?_,own:=?_,box:=?_,iw:=?_,iE:=λ_ h=>h.elim,inj:=?_,base:=R.base,below:=R.below,fresh:=?_,still:=R.still.trans hK,grown:=R.grown,kept:=?_ }⟩
 .intro t ht hu;have h:=R.slot t ht hu;generalize a.tmps.getD t undef=c at h;have h2:=(h.bQ i gw).mono hK (λ_ _ h=>h);show RV g'.Pr g'.al w (wa i cs (S t)) c;generalize S t=v at h h2
  cases v<;>try exact h2
  rename_i j off;simp only[wa];simp only[bQ]at h2;split
  .rename_i hj;subst hj
   have lU:∃c',c=.pointer (some ⟨c',off,none⟩)/\g.al j=some c':=by
    cases h with
    |data _ _ h=>cases h
    |box _ _ c' h=>exact⟨c',rfl,h⟩
   obtain⟨c',rfl,mU⟩:=lU;rw[hb]at mU;cases mU;refine .data _ _ (.ref _ b off (λk=>vs.getD (off+k) undef) (λk hk=>?_) (λk hk=>?_) (λk hk=>?_))
   .simp only[adV,acM];simp only[adg,acC]at hk;exact(AV.nz _).trans (b8 _ (by omega))
   .simp only[adg,acC]at hk;refine⟨.inr ⟨b1,by show off+k<au g.hi b cs.length b;rw[aK];omega⟩,?_⟩
    have:off+k<vs.size:=by omega
    simp[World.cell?,b2,this]
   .simp only[adg,acC]at hk;simp only[adV,acM];have hh:=b6 (off+k) (by omega) (by omega)
    have:off+k<vs.size:=by omega
    have:=hh.aH.mono hK;simpa[‹off+k<vs.size›]using this
  .rename_i hj;rw[if_neg hj]at h2;exact h2
 .intro t ht hu;have h:=R.own t ht hu;have h2:=Cv P w g (.slot t) i (S t) _ h
  have h3:ea P w g' (.slot t) (bQ i (S t)) (a.tmps.getD t undef):=h2.aR rfl λc hc=>⟨rfl,by show au g.hi b cs.length c=g.hi c;exact aN _ _ (by rintro rfl;rw[b4]at hc;cases hc),hc⟩
  show ea P w g' (.slot t) (wa i cs (S t)) _;generalize S t=v at h3
  cases v<;>try exact h3
  simp only[wa]
  split<;>trivial
 .intro j c hj
  have fh:j≠i:=by rintro rfl;simp[g',au]at hj
  have dH:g.al j=some c:=by simpa[g',au,fh]using hj
  have kh:=X' j c fh dH;obtain⟨Ui,vs2,ty2,h1,h2,h3,h4,h5,h6,h7,h8,h9⟩:=R.box j c dH;refine⟨Ui,vs2,ty2,by rw[aN _ _ fh];exact h1,h2,h3,by show au g.hi b cs.length c=0;rw[aN _ _ kh];exact h4,h5,h6,λk hk dN=>(h7 k hk dN).mono hK,λk hk dN=>?_,h9⟩
  refine(h8 k hk dN).aR rfl λb' fS=>⟨rfl,?_,fS⟩
  show au g.hi b cs.length b'=g.hi b';exact aN _ _ (by rintro rfl;rw[b4]at fS;cases fS)
 .intro j Ui h hu
  have fh:j≠i:=by rintro rfl;simp[au]at h
  have h':H j=some Ui:=by simpa[au,fh]using h
  show(au g.al i none j).isSome;rw[aN _ _ fh];exact R.iw j Ui h' hu
 .intro j k c h1 h2
  have hj:j≠i:=by rintro rfl;simp[g',au]at h1
  have hk:k≠i:=by rintro rfl;simp[g',au]at h2
  exact R.inj j k c (by simpa[g',au,hj]using h1) (by simpa[g',au,hk]using h2)
 .intro c hc
  have kh:c≠b:=by
   rintro rfl;have:=(acz.1 b2).1;omega
  exact⟨by show au g.hi b cs.length c=0;rw[aN _ _ kh];exact(R.fresh c hc).1,(R.fresh c hc).2⟩
 .intro c ob h;obtain⟨q1,q2,q3,q4,q5⟩:=R.kept c ob h
  have kh:c≠b:=by rintro rfl;exact q5 i hb
  refine⟨q1,q2,by show au g.hi b cs.length c=0;rw[aN _ _ kh];exact q3,q4,λj=>?_⟩;show au g.al i none j≠some c
  by_cases hj:j=i
  .subst hj;simp[au]
  .rw[aN _ _ hj];exact q5 j
end
section
variable{P:Program}{GI:World->Prop}{n:Nat}{old:Old}{S:an}{H:aq}{Q:ij}{ro:Option Nat}
def SW.ghost{c:Code}{K:Old->an->aq->Prop}(h:∀w0 g a w,g.old=old->Rel P w0 n bz g S H a w->∃g2 S2 H2,Rel P w0 n bz g2 S2 H2 a w/\K g2.old S2 H2)(hc:∀o S H,K o S H->SW P GI n ro c Q o S H):SW P GI n ro c Q old S H:=by
 intro w0 g a w m hG ho R;obtain⟨g2,S2,H2,R2,hK⟩:=h w0 g a w ho R;exact hc _ _ _ hK w0 g2 a w m hG rfl R2
def SW.freeze{c:Code}{i:Nat}{cs:List AV}(hH:H i=some cs)(hf:old.facts=[])(hc:SW P GI n ro c Q old (λt=>wa i cs (S t)) (au H i none)):SW P GI n ro c Q old S H:=by
 intro w0 g a w m hG ho R;obtain⟨g',h1,R'⟩:=R.freeze hH (by rw[ho];exact hf);exact hc w0 g' a w m hG (h1.trans ho) R'
def HQ(P:Program)(w0:World)(n:Nat)(K:Old->an->aq->Prop):Exit->Act->World->Prop
 |.normal,a,w=>∃g S H,Rel P w0 n bz g S H a w/\K g.old S H
 |_,_,_=>False
def SW.hand (hG:aw GI) {id p:Nat} {ops:Array Oper} {lm l2:List Nat} {js oh lv:List Oper} (Nb:ops.toList=js++(oh++lv)) (hp:js.length=p) (hr:List.range ops.size=List.range p++(lm++l2)) (pz:l2.map (ops[·]?)=lv.map some)
  (dF:ops.all (λo=>eB o.op)=true) (cg:∀d,¬old.bx d)
  {lO lu:List bB} (CD:js.map (bD P n false ops)=lO) (Iw:lv.map (bD P n false ops)=lu) (dI:lO.all (·.ok n)=true) (Cn:lu.all (·.ok n)=true)
  {K1:an->aq->Prop} {K2 K3:Old->an->aq->Prop} (h1:bw P GI lO K1 (λ_=>False) S H)
  (hand:∀w0 g S1 H1 a w m,GI w0->g.old=old->Rel P w0 n bz g S1 H1 a w->K1 S1 H1->wpOpsIn (FR ro) m P ops (HQ P w0 n K2) lm a w)
  (h2:∀o S H,K2 o S H->(∀d,¬o.bx d)/\bw P GI lu (K3 o) (λ_=>False) S H) (hQ:∀o S H,K3 o S H->Q .normal o S H):SW P GI n ro (.region id ops false) Q old S H:=by
 intro w0 g a w m cj ho R;refine ac6 ?_;rw[hr]
 have MF:(List.range p).map (ops[·]?)=js.map some:=by
  apply adP;intro i;simp only[ac1]
  by_cases hi:i<p
  .have h3:ops[i]? = js[i]? := by
    rw[<-adM,Nb,adB (by omega)]
   have h4:js[i]?=some (js[i]'(by omega)):=acx (by omega);simp[hi,h3,h4]
  .have:js[i]?=none:=acU (by omega);simp[hi,this]
 refine gL (Q1:=QQ P w0 n old (aO K1)) (fun e a w bP hq => ?_) (fun a1 w1 hq => ?_) _ _ _ (rl hG cj dF ho R (List.range p) js MF (fun o kT=>by
   subst CD;simp only[aeu,acN,Function.comp]at dI
   exact dI o kT) cg (by rw[CD];exact h1))
 .cases e with
  |normal=>exact absurd rfl bP
  |exit id=>obtain⟨_,_,_,_,_,h⟩:=hq;exact h.elim
  |ret=>obtain⟨_,_,_,_,_,h⟩:=hq;exact h.elim
  |panic ch=>obtain⟨_,_,_,_,_,_,_,_,_,_,h⟩:=hq;exact h.elim
  |goto l=>exact hq.elim
  |outgrown=>exact hq.elim
 .obtain⟨g1,S1,H1,xK,R1,KD⟩:=hq;refine gL (Q1:=HQ P w0 n K2) (λe a w bP hq=>?_) (λa2 w2 hq=>?_) _ _ _ (hand w0 g1 S1 H1 a1 w1 m cj xK R1 KD)
  .cases e with
   |normal=>exact absurd rfl bP
   |_=>exact hq.elim
  .obtain⟨g2,S2,H2,R2,jD⟩:=hq;obtain⟨jK,je⟩:=h2 _ _ _ jD
   have:=rl (ro:=ro) (m:=m) hG cj dF (old:=g2.old) rfl R2 l2 lv pz (λo kT=>by
    subst Iw;simp only[aeu,acN,Function.comp]at Cn
    exact Cn o kT) jK (by rw[Iw];exact je)
   refine fH (λe a w hq=>?_) _ _ _ this
   cases e with
   |normal=>
    obtain⟨g3,S3,H3,xP,R3,E'⟩:=hq;exact⟨g3,S3,H3,R3,by rw[xP];exact hQ _ _ _ E'⟩
   |exit id=>obtain⟨_,_,_,_,_,h⟩:=hq;exact h.elim
   |ret=>obtain⟨_,_,_,_,_,h⟩:=hq;exact h.elim
   |panic ch=>obtain⟨_,_,_,_,_,_,_,_,_,_,h⟩:=hq;exact h.elim
   |goto l=>exact hq.elim
   |outgrown=>exact hq.elim
end
section
variable{P:Program}{a:Act}{w:World}
def zg {o:Oper} {t:TypeId} {x:Operand} {s:ByteArray} (ho:o.op = .range t x) (hu:P.underlying t=some .string) (hx:a.eval x = .string s) :
  (execOp a.eval o).run P w=.ok (.value (.pointer (some ⟨w.heap.size,0,none⟩))) (w.alloc (.stringIter s 0)):=by
 unfold execOp;simp only[ho,hx,acK,run_range_string w t s hu]
 rfl
def Kh {o:Oper} {x:Operand} {b:Nat} {s:ByteArray} {pos:Nat} (ho:o.op = .next x true) (hx:a.eval x = .pointer (some ⟨b,0,none⟩)) (hb:w.heap[b]? = some (.stringIter s pos)) (h:pos < s.size) (ha:(s[pos]'h).toNat < 128) :
  (execOp a.eval o).run P w=.ok (.value (.tuple #[.bool true,.int .i64 pos,.int .i32 (s[pos]'h).toNat])) (w.putObj b (.stringIter s (pos+1))):=by
 unfold execOp;simp only[ho,hx,Instr.next,getObj,setObj,acK,Sem.run,hb,Result.andThen,h,ac3,decode_ascii s pos h ha];simp[goInt,Sem.run,World.putObj]
def sC {o:Oper} {x:Operand} {b:Nat} {s:ByteArray} {pos:Nat} (ho:o.op = .next x true) (hx:a.eval x = .pointer (some ⟨b,0,none⟩)) (hb:w.heap[b]? = some (.stringIter s pos)) (h:¬ pos < s.size) :
  (execOp a.eval o).run P w=.ok (.value (.tuple #[.bool false])) w:=by
 unfold execOp;simp[ho,hx,Instr.next,getObj,Sem.run,hb,h]
end
section
variable{P:Program}{GI:World->Prop}{n:Nat}{old:Old}{S:an}{H:aq}{Q:ij}{ro:Option Nat}
def SW.QF{c:Code}(I:Old->an->aq->Prop)(μ:Old->an->aq->Nat)(h0:I old S H)(hr:∀o S H,I o S H->SW P GI n ro c (thenS (λo' S' H'=>I o' S' H'/\μ o' S' H'<μ o S H) Q) o S H):SW P GI n ro (.loop c) Q old S H:=by
 intro w0 g a w m hG ho R;subst ho
 have key:∀ (k:Nat) (g:Gh) (S:an) (H:aq) (a:Act) (w:World),Rel P w0 n bz g S H a w→I g.old S H→μ g.old S H=k→∀ (b:Frame) (kk:List Item) (cs:List Frame),b.roundOf=ro→(FR ro).room (cs.length+1+m) →
   ∃e a' w',QS P w0 n Q e a' w'/\ArrivesIn (Machine.fenced P (FR ro)) P (lone (b.atR a (.code c::.inLoop c::kk)) cs w) b kk cs e a' w':=by
  intro k
  induction k using Nat.strongRecOn with
  |_ k ih=>
   intro g S H a w R hI hk b kk cs uc gZ;obtain⟨e,i_,kF,hq,gu⟩:=hr g.old S H hI w0 g a w m hG rfl R b (.inLoop c::kk) cs uc trivial gZ
   cases e with
   |normal=>
    obtain⟨g',S',H',h2,h3,h4⟩:=hq;obtain⟨Bn,CK,BS,uR,pk⟩:=ih _ (by rw[<-hk];exact h4) g' S' H' i_ kF h2 h3 rfl b kk cs uc gZ;exact⟨Bn,CK,BS,uR,.of_steps (afN gu (.one (ae1 (F:=FR ro) (fr:=b.atR i_ (.inLoop c::kk)) trivial gZ rfl) agv)) pk⟩
   |exit id=>exact⟨.exit id,i_,kF,hq,.pass (x:=.inLoop c) rfl (λ_ _=>.inl (by simp)) gu⟩
   |goto l=>exact hq.elim
   |ret=>exact⟨.ret,i_,kF,hq,.pass (x:=.inLoop c) rfl (λ_ _=>.inl (by simp)) gu⟩
   |panic ch=>exact⟨.panic ch,i_,kF,hq,.pass (x:=.inLoop c) rfl (λ_ _=>.inl (by simp)) gu⟩
   |outgrown=>exact hq.elim
 intro b kk cs uc hF gZ;obtain⟨e,a',w',hq,gu⟩:=key _ g S H a w R h0 rfl b kk cs uc gZ;exact⟨e,a',w',hq,.of_steps (.one (ae1 (F:=FR ro) (fr:=b.atR a (.code (.loop c)::kk)) trivial gZ rfl) stepR_loop) gu⟩
end
noncomputable def Nh(i:Nat)(cs:List AV)(s:TS):TS:=s.M (wa i cs) 4
def O5(i:Nat)(cs:List AV)(s:TS):gT (Nh i cs s)=λt=>wa i cs (gT s t):=by
 funext t
 unfold gT Nh
 cases Nat.ble 256 t with
 |true=>rfl
 |false=>exact TT.X4 bO (wa i cs) rfl 4 s t
noncomputable def Tq(P:Program)(call:eS)(m i:Nat)(k:Nat):af->sK:=
 Nat.rec (motive:=λ_=>af->sK)
  (λac s h=>match gU h i with
   |some cs=>match kH h i none with
    |some h'=>codeF P call m ac (Nh i cs s) h'
    |none=>none
   |none=>none)
  (λ_ ih ac s h=>match ac with
   |.seq x y=>match codeF P call m x s h with
    |some (.normal,s',h')=>ih y s' h'
    |r=>r
   |_=>none) k
section
variable{P:Program}{GI:World->Prop}{call:eS}{n:Nat}{ro:Option Nat}{Q:ij}{old:Old}
def LM(d_:∀f args out,call f args=some out->AC P GI f args out){m:Nat}{c:af}{s s':TS}{h h':TH}{e:cw}(hr:codeF P call m c s h=some (e,s',h')){Q:cw->an->aq->Prop}(hq:Q e (gT s') (gU h')):bL P GI c Q (gT s) (gU h):=by
 rw[codeF_eq]at hr;exact fJ d_ hr hq
def HN:cw->Bool
 |.panic _=>false
 |_=>true
def SW.xH(hG:aw GI)(hm:P.follows .mixedOrders=true)(d_:∀f args out,call f args=some out->AC P GI f args out){m:Nat}{c:Code}(hc:iB c=true)(cg:∀d,¬old.bx d){s s':TS}{h h':TH}{e:cw}(hr:codeF P call m (cC P n c) s h=some (e,s',h'))(hp:HN e=true)(hq:Q e old (gT s') (gU h')):SW P GI n ro c Q old (gT s) (gU h):=by
 refine SW.pF hG hm hc (λd _=>cg d) rfl (LM d_ hr ?_)
 cases e with
 |panic v=>cases hp
 |_=>exact hq
def CJ{c:Code}{x y:af}(h:cC P n c=.seq x y):∃x' y',c=.seq x' y'/\cC P n x'=x/\cC P n y'=y:=by
 cases c with
 |seq x' y'=>simp only[cC,af.seq.injEq]at h;exact⟨x',y',rfl,h.1,h.2⟩
 |region id ops draw=>
  simp only[cC]at h;split at h
  .split at h<;>cases h
  .split at h<;>cases h
 |cond c x y=>simp only[cC]at h;split at h<;>cases h
 |_=>cases h
def yV (hG:aw GI) (hm:P.follows .mixedOrders=true) (d_:∀ f args out,call f args=some out→AC P GI f args out) {m i:Nat} (cg:∀ d,¬ old.bx d) (hf:old.facts=[]) :
  ∀(k:Nat){c:Code}(_:iB c=true){s s':TS}{h h':TH}{e:cw}(_:Tq P call m i k (cC P n c) s h=some (e,s',h'))(_:HN e=true)(_:Q e old (gT s') (gU h')),SW P GI n ro c Q old (gT s) (gU h)
 |0,c,hc,s,s',h,h',e,hr,hp,hq=>by
  have hr:(match gU h i with
   |some cs=>match kH h i none with
    |some h1=>codeF P call m (cC P n c) (Nh i cs s) h1
    |none=>none
   |none=>none)=some (e,s',h'):=hr
  split at hr
  case h_2=>cases hr
  rename_i cs pC;split at hr
  case h_2=>cases hr
  rename_i h1 hh;refine SW.freeze pC hf ?_;rw[<-O5,<-ql hh];exact SW.xH hG hm d_ hc cg hr hp hq
 |k+1,c,hc,s,s',h,h',e,hr,hp,hq=>by
  have hr:(match cC P n c with
   |.seq x y=>match codeF P call m x s h with
    |some (.normal,s1,h1)=>Tq P call m i k y s1 h1
    |r=>r
   |_=>none)=some (e,s',h'):=hr
  cases lD:cC P n c<;>rw[lD]at hr<;>try (cases hr;done)
  rename_i xa ya;obtain⟨x,y,rfl,rfl,rfl⟩:=CJ lD;simp only[iB,acA]at hc;simp only at hr;split at hr
  .rename_i s1 h1 hx;refine SW.seq (SW.xH hG hm d_ hc.1 cg hx rfl ?_);exact yV hG hm d_ cg hf k hc.2 hr hp hq
  .rename_i bP;refine SW.seq (SW.xH hG hm d_ hc.1 cg hr hp ?_)
   cases e with
   |normal=>exact absurd hr (bP _ _)
   |panic v=>cases hp
   |_=>exact hq
end
noncomputable def MK(P:Program)(call:eS)(m i k:Nat)(fn:td)(args:List AV):Option eE:=
 bif Nat.ble args.length fn.n&&Nat.ble args.length 256 then match Tq P call m i k fn.code (tP args) (.lf none)with
  |some (.normal,_,_)=>none
  |some (.ret,s,h)=>(cL P fn.n fn.res (gT s) (gU h)).map .ret
  |_=>none
 else none
def GX {P:Program} {GI:World→Prop} (hG:aw GI) (hm:P.follows .mixedOrders=true) {call:eS} (d_:∀ f args out,call f args=some out→AC P GI f args out) {m i k f:Nat} {fn:td} (Bg:∃ (F:Func) (c:Code),P.funcs[f]? = some F∧F.body=some c∧F.ntmps=fn.n∧F.results.toList=fn.res∧cC P fn.n c=fn.code∧iB c=true)
  {args:List AV} {out:eE} (h:MK P call m i k fn args=some out):AC P GI f args out:=by
 obtain⟨F,c,h1,h2,h3,h4,h5,h6⟩:=Bg;unfold MK at h
 cases hb:(Nat.ble args.length fn.n&&Nat.ble args.length 256)with
 |false=>rw[hb]at h;cases h
 |true=>
 rw[hb]at h;simp only[cond_true]at h;rw[acA]at hb;have hl:=aen hb.1;have pz:=aen hb.2;split at h
 .cases h
 .rename_i s hh hc;simp only[acE]at h;obtain⟨v,hv,rfl⟩:=h
  refine AC.jw h1 h2 h3 hl λcc w=>?_
  rw[<-zN args pz,<-Ig];refine yV hG hm d_ (λ_ h=>h) rfl k h6 (by rw[h5];exact hc) rfl ?_;rw[h4];exact⟨eA.plain rfl,rfl,v,hv,rfl⟩
 .cases h
section
variable{P:Program}{GI:World->Prop}{n:Nat}{w0:World}
def yT(P:Program)(GI:World->Prop)(i:Nat):Nat->af->(cw->an->aq->Prop)->an->aq->Prop
 |0,ac,Q,S,H=>∃cs,H i=some cs/\bL P GI ac Q (λt=>wa i cs (S t)) (au H i none)
 |k+1,.seq x y,Q,S,H=>bL P GI x (λe S' H'=>match e with
  |.normal=>yT P GI i k y Q S' H'
  |e=>Q e S' H') S H
 |_+1,_,_,_,_=>False
def Hs(hG:aw GI)(cj:GI w0)(hm:P.follows .mixedOrders=true){old:Old}{i:Nat}(hf:old.facts=[])(cg:∀d,¬old.bx d):∀(k:Nat)(c:Code)(Q:cw->an->aq->Prop)(g:Gh)(S:an)(H:aq)(a:Act)(w:World),g.old=old->Rel P w0 n bz g S H a w->yT P GI i k (cC P n c) Q S H->c.wp P (QQ P w0 n old Q) a w
 |0,c,Q,g,S,H,a,w,ho,R,h=>by
  obtain⟨cs,hH,h⟩:=h;obtain⟨g',h1,R'⟩:=R.freeze hH (by rw[ho];exact hf);exact lJ hG cj hm c _ g' _ _ a w (λd _=>cg d) (h1.trans ho) R' h
 |k+1,c,Q,g,S,H,a,w,ho,R,h=>by
  cases lD:cC P n c<;>rw[lD]at h<;>try (exact h.elim)
  rename_i xa ya;obtain⟨x,y,rfl,rfl,rfl⟩:=CJ lD;refine wp_seq (afU (lJ hG cj hm x _ g S H a w (λd _=>cg d) ho R h) ?_);intro e a' w' he
  cases e with
  |normal=>
   obtain⟨g',S',H',e1,R',h'⟩:=he;exact Hs hG cj hm hf cg k y Q g' S' H' a' w' e1 R' h'
  |_=>exact he
def AC.OZ (hG:aw GI) (hm:P.follows .mixedOrders=true) {f:Nat} {fn:Func} {c:Code} {args:List AV} {out:eE} (i k:Nat) (hf:P.funcs[f]? = some fn) (hb:fn.body=some c) (hn:fn.ntmps=n) (hl:args.length≤n) {ac:af} (hc:cC P n c=ac)
  (h:yT P GI i k ac (post P n fn.results.toList out) (start args) (λ_=>none)):AC P GI f args out:=by
 intro w old bH gm hlen hr;refine afc hf hb ?_;subst hc;have R:Rel P w n bz _ (start args) (λ_=>none) { tmps:=bH++Array.replicate (fn.ntmps-bH.size) undef,defers:=[] } w:=Rel.begin hn hl hlen hr;refine afU (Hs hG gm hm (old:=Old.plain old w) rfl (λ_ h=>h) k c _ _ _ _ _ w rfl R h) ?_;intro e a' w' he
 have fin:(∃ g' S H,g'.old=Old.plain old w∧Rel P w n bz g' S H a' w'∧∃ v,cL P n fn.results.toList S H=some v∧out = .ret v) →
   a'.defers=[]/\∃v,(results fn a'.tmps).run P w'=.ok v w'/\Ends P old w out (.returned v) w':=by
  rintro⟨g',S,H,e1,R',v,hv,rfl⟩;obtain⟨c,r1,r2,r3⟩:=tj R' hv;refine⟨by rw[R'.defers,e1];rfl,c,r1,?_,g'.hi,λb hb=>(R'.fresh b hb).1,c,rfl,?_,?_⟩
  .have:=R'.below;rwa [R'.base]at this
  .have:g'.Pr=nZ w.heap.size old g'.hi:=by
    funext b k
    simp only[Gh.Pr,nZ,R'.base,e1,Old.plain]
   rw[this]at r2;exact .data _ _ r2
  .rwa [R'.base]at r3
 cases e with
 |normal=>exact fin he
 |ret=>exact fin he
 |exit id=>obtain⟨_,_,_,_,_,h⟩:=he;exact h.elim
 |panic chain=>
  obtain⟨hd,v,c,hi,S,H,h1,h2,h3,h4,h5⟩:=he;subst h1;cases(show out=.panic v from h5);exact⟨hd,h2,hi,h3,c,rfl,h4⟩
 |goto l=>exact he.elim
 |outgrown=>exact he.elim
def Pa{i k:Nat}{x y:af}{Q:cw->an->aq->Prop}{S:an}{H:aq}(K:an->aq->Prop)(hx:bL P GI x (λe S H=>e=.normal/\K S H) S H)(uY:∀{Q Q':cw->an->aq->Prop},(∀e S H,Q e S H->Q' e S H)->bL P GI x Q S H->bL P GI x Q' S H)(hy:∀S' H',K S' H'->yT P GI i k y Q S' H'):yT P GI i (k+1) (.seq x y) Q S H:=
 uY (λe S' H' h=>by obtain⟨rfl,h⟩:=h;exact hy S' H' h) hx
def Mk{i:Nat}{ac:af}{Q:cw->an->aq->Prop}{S:an}{H:aq}(cs:List AV)(K:an->aq->Prop)(hH:H i=some cs)(hK:K (λt=>wa i cs (S t)) (au H i none))(hc:∀S' H',K S' H'->bL P GI ac Q S' H'):yT P GI i 0 ac Q S H:=⟨cs,hH,hc _ _ hK⟩
end
section
variable{P:Program}{GI:World->Prop}{w0:World}{n:Nat}{g:Gh}{S:an}{H:aq}{a:Act}{w:World}
def Rel.Nc (R:Rel P w0 n bz g S H a w) {w':World} (hb:Below w.heap.size w w') {b:Nat} (hle:w.heap.size≤b) {o:Obj} (ho:w'.heap[b]? = some o) :
  Rel P w0 n bz { g with old:={ g.old with aR:=au g.old.aR b (some o) } } S H a w':=by
 have R':=Rel.jR R hb
 have fT:g.base<=w.heap.size:=by rw[R.base];exact R.below.size
 refine{ size:=R'.size,defers:=R'.defers,facts:=R'.facts,slot:=R'.slot,own:=λt ht hu=>(R'.own t ht hu).aR rfl λb hb=>⟨rfl,rfl,hb⟩,box:=?_,iw:=R'.iw,iE:=R'.iE,inj:=R'.inj,base:=R'.base,below:=R'.below,fresh:=R'.fresh,still:=R'.still,grown:=R'.grown,kept:=?_ }
 .intro i c hi;obtain⟨cs,vs,ty,h1,h2,h3,h4,h5,h6,h7,h8,h9⟩:=R'.box i c hi;exact⟨cs,vs,ty,h1,h2,h3,h4,h5,h6,h7,λj hj dH=>(h8 j hj dH).aR rfl λb hb=>⟨rfl,rfl,hb⟩,h9⟩
 .intro c ob h
  by_cases kd:c=b
  .subst kd
   have:ob=o:=by simpa[au]using h.symm
   subst this;refine⟨adD fT hle,ho,(R.fresh _ hle).1,(R.fresh _ hle).2,λi hi=>?_⟩;obtain⟨_,_,_,_,_,h3,_⟩:=R.box i _ hi;have:=(acz.1 h3).1;omega
  .have h:g.old.aR c=some ob:=by simpa[au,kd]using h
   exact R'.kept c ob h
def RD.flat{Pr:Nat->Nat->Prop}{v:AV}{c:Value}(h:RD Pr w v c):Go.AL.flat v=true/\∀d,bQ d v=v:=by
 have:=h.bW
 cases v<;>first|exact⟨rfl,λ_=>rfl⟩|cases this
def Rel.Uk (R:Rel P w0 n bz g S H a w) {i:Nat} {cs:List AV} (hH:H i=some cs) {j:Nat} (hj:j < cs.length) (v:AV) (hv:v.one=true) (ho:∀ e es,v ≠ .slice (.own e) es)
  (h:∀c,RD g.Pr w cs[j] c->RD g.Pr w v c):Rel P w0 n bz g S (au H i (some (cs.set j v))) a w:=by
 refine{ size:=R.size,defers:=R.defers,facts:=R.facts,slot:=R.slot,own:=R.own,box:=?_,iw:=?_,iE:=R.iE,inj:=R.inj,base:=R.base,below:=R.below,fresh:=R.fresh,still:=R.still,grown:=R.grown,kept:=R.kept }
 .intro k c hk;obtain⟨fj,vs,ty,h1,h2,h3,h4,h5,h6,h7,h8,h9⟩:=R.box k c hk
  by_cases tW:k=i
  .subst tW;rw[hH]at h1;cases h1;refine⟨cs.set j v,vs,ty,aK _ _ _,h2,h3,h4,h5,by simpa using h6,λm hm Kk=>?_,λm hm Kk=>?_,λm hm=>?_⟩
   .by_cases HV:j=m
    .subst HV;simp only[aeF];exact h _ (h7 j hj Kk)
    .simp only[aeR HV];exact h7 m (by simpa using hm) Kk
   .by_cases HV:j=m
    .subst HV;simp only[aeF];unfold ea;split
     .rename_i e es _ _;exact absurd rfl (ho _ _)
     .trivial
    .simp only[aeR HV];exact h8 m (by simpa using hm) Kk
   .by_cases HV:j=m
    .subst HV;simp only[aeF];exact hv
    .simp only[aeR HV];exact h9 m (by simpa using hm)
  .exact⟨fj,vs,ty,by rw[aN _ _ tW];exact h1,h2,h3,h4,h5,h6,h7,h8,h9⟩
 .intro k fj hk hu
  by_cases tW:k=i
  .subst tW;exact R.iw k cs hH hu
  .exact R.iw k fj (by rw[aN _ _ tW]at hk;exact hk) hu
def Rel.hand (R:Rel P w0 n bz g S H a w) {b:Nat} {o:Obj} (hk:g.old.aR b=some o) (m:Nat) :
  ∃g',g'.old={ g.old with aR:=au g.old.aR b none }/\g'.base=g.base/\Rel P w0 n bz g' S H a w/\(∀c k,g.Pr c k->g'.Pr c k)/\∀k,k<m->g'.Pr b k:=by
 obtain⟨k1,k2,k3,k4,k5⟩:=R.kept b o hk
 have R1:Rel P w0 n bz { g with old:={ g.old with aR:=au g.old.aR b none } } S H a w:=by
  refine{ size:=R.size,defers:=R.defers,facts:=R.facts,slot:=R.slot,own:=λt ht hu=>(R.own t ht hu).aR rfl λb hb=>⟨rfl,rfl,hb⟩,box:=?_,iw:=R.iw,iE:=R.iE,inj:=R.inj,base:=R.base,below:=R.below,fresh:=R.fresh,still:=R.still,grown:=R.grown,kept:=?_ }
  .intro i c hi;obtain⟨cs,vs,ty,h1,h2,h3,h4,h5,h6,h7,h8,h9⟩:=R.box i c hi;exact⟨cs,vs,ty,h1,h2,h3,h4,h5,h6,h7,λj hj dH=>(h8 j hj dH).aR rfl λb hb=>⟨rfl,rfl,hb⟩,h9⟩
  .intro c ob h
   have hc:c≠b:=by rintro rfl;simp[au]at h
   exact R.kept c ob (by simpa[au,hc]using h)
 have av:=(acz.1 k2).1;have R2:=R1.kg (G:=λc=>c=b) (λ_=>m) (λc hc=>by subst hc;exact⟨⟨k1,k3,k4,k5⟩,av,aK _ _ _⟩);refine⟨Gh.kg { g with old:={ g.old with aR:=au g.old.aR b none } } (λc=>c=b) (λ_=>m),rfl,rfl,R2,λc k hp=>?_,λk hkm=>.inr ⟨k1,?_⟩⟩
 .rcases hp with hp|hp
  .exact .inl hp
  .refine .inr ⟨hp.1,?_⟩;simp only[Gh.kg]
   by_cases hc:c=b
   .subst hc;rw[k3]at hp;omega
   .rw[if_neg hc];exact hp.2
 .simp only[Gh.kg];rw[if_pos trivial];exact hkm
end
section
variable{P:Program}{GI:World->Prop}{md:Region.Mode}{ops:Array Oper}{n:Nat}
variable{w0:World}{g:Gh}{S:an}{H:aq}{a:Act}{w:World}
def QV(l:List bB):Bool:=l.all λo=>match o.op with|.alloc ..=>false|_=>true
def xh{op:dT}{dst:Option Nat}{K K':an->aq->Prop}(hK:∀S H,K S H->K' S H){S:an}{H:aq}(h:jf P GI op dst K S H):jf P GI op dst K' S H:=by
 cases op<;>simp only[jf,bh]at h⊢<;>(try exact h)
 case alloc=>cases dst<;>first|exact h|exact hK _ _ h
 case call f args=>
  obtain⟨hb,out,h1,h2,h3,h4⟩:=h;refine⟨hb,out,h1,h2,h3,?_⟩
  cases out with
  |ret v=>exact hK _ _ h4
  |panic v=>exact h4
 case fc f args=>
  refine⟨h.1,?_⟩;have h:=h.2;split at h
  .obtain⟨out,h1,h2,h3,h4⟩:=h;refine⟨out,h1,h2,h3,?_⟩
   cases out with
   |ret v=>exact hK _ _ h4
   |panic v=>exact h4
  .exact h.elim
 all_goals
  split at h
  .exact hK _ _ h
  .exact h.elim
end
section
variable{P:Program}{GI:World->Prop}{n:Nat}{a:Act}{w:World}{S:an}{H:aq}
def gP {o:Oper} {s el:TypeId} {i:TypeInfo} {x1 x2:Operand} {b m cap k:Nat} (ho:o.op = .indexAddr s x1 x2) (hs:P.underlying s=some (.slice el)) (hi:P.info? el=some i)
  (h1:a.eval x1=.slice (some ⟨b,0,none⟩) m cap) (h2:a.eval x2=.int .i64 k) (hk:k<m):(execOp a.eval o).run P w=.ok (.value (.pointer (some ⟨b,k*i.size,none⟩))) w:=by
 have Bz:(0:Int)<=k:=by omega
 have jB:(k:Int)<m:=by omega
 simp[execOp,ho,h1,h2,Instr.indexAt,asIntOf,acR hs,Bz,jB,sizeOf,typeInfo,hi,adt,hk]
def rU {o:Oper} {s:TypeId} {fs:Array Field} {f:Field} {i:TypeInfo} {j:Nat} {x:Operand} {b off:Nat} (ho:o.op = .fieldAddr s x j) (hs:P.underlying s=some (.struct fs)) (hf:fs[j]? = some f) (hi:P.info? f.type=some i) (hz:i.size≠0)
  (hx:a.eval x=.pointer (some ⟨b,off,none⟩)):(execOp a.eval o).run P w=.ok (.value (.pointer (some ⟨b,off+f.offset,none⟩))) w:=by
 simp[execOp,ho,hx,Instr.fieldAt,acR hs,hf,Instr.sureAddr,fieldPlace,sizeOf,typeInfo,hi,hz,adt]
def o7(w:World){b:Nat}{cs fj:Array Value}{ty:TypeId}(h:w.heap[b]?=some (.cells cs ty (0,0))):w.setRow b fj=w.putObj b (.cells fj ty (0,0)):=by
 unfold World.setRow World.putObj
 congr 1
 apply Array.ext_getElem?;intro k;rw[Array.getElem?_modify,adO];have av:=(acz.1 h).1
 by_cases hk:b=k
 .subst hk;have e:=(acz.1 h).2;simp[av,e]
 .simp[hk]
def nB {o:Oper} {t:TypeId} {x y:Operand} {b off:Nat} {v:Value} {ty:TypeId} {i:TypeInfo} {arr:Array Value} (ho:o.op = .store t x y) (hx:a.eval x = .pointer (some ⟨b,off,none⟩)) (hi:P.info? t=some i) (hs:i.size=1) (hb:w.heap[b]? = some (.cells arr ty (0,0)))
  (Bb:off<arr.size) (hv:(a.eval y)=v) (h1:v.oneCell'=true):∃Jd:Array Value,(execOp a.eval o).run P w=.ok .skip (w.putObj b (.cells Jd ty (0,0)))/\Jd.size=arr.size/\∀k,Jd.getD k undef=if k=off then v else arr.getD k undef:=by
 have jz:v.cells=#[v]:=by cases v<;>first|rfl|cases h1
 have cM:=afs P b off ty [v] 0 arr w hb (by simp;omega) (λx hx=>by simp at hx;subst hx;exact h1)
 have he:(arr.toList.take off++[v]++arr.toList.drop (off+1)).toArray=arr.setIfInBounds off v:=by
  apply Array.toList_inj.1;rw[Array.toList_setIfInBounds,List.set_eq_take_append_cons_drop,if_pos (by simpa using Bb)];simp
 refine⟨arr.setIfInBounds off v,?_,by simp,λk=>?_⟩
 .rw[<-o7 w hb,<-he];unfold execOp;simp only[ho,hx,hv,Instr.storeAt,Instr.sureAddr,storeVar,sizeOf,typeInfo,acK,Sem.run_pure,Result.andThen_ok,run_program,hi,hs,jz,ne_eq,aef,acW];have bg:(#[v]:Array Value).size=1:=rfl;simp only[bg,aef,acW];rw[show storeCells ⟨b,off,none⟩ (#[v]:Array Value).toList=storeCells ⟨b,off,none⟩ [v] 0 from rfl];simp only[Nat.add_zero,List.length_singleton]at cM;rw[cM]
  rfl
 .simp only[acG,adO]
  by_cases hk:off=k
  .subst hk;simp[Bb]
  .rw[if_neg hk,if_neg (adi hk)]
end
def yW{κ:Type}(enc:κ->Value)(es:Array MapEntry)(l:List (κ×Value)):Prop:=es.size=l.length/\∀i (h:i<es.size)(h':i<l.length),(es[i]).key=enc l[i].1/\(es[i]).val=l[i].2
def mK{κ:Type}[BEq κ](k:κ):List (κ×Value)->Nat->Option (Nat×Value)
 |[],_=>none
 |(k',v)::l,i=>if(k==k')=true then some (i,v)else mK k l (i+1)
def yW.push{κ:Type}{enc:κ->Value}{es:Array MapEntry}{l:List (κ×Value)}(h:yW enc es l)(k:κ)(v:Value)(born:Nat):yW enc (es.push { key:=enc k,val:=v,born:=born }) (l++[(k,v)]):=by
 refine⟨by simp[h.1],λi hi cQ=>?_⟩;rw[Array.getElem_push,List.getElem_append];have hs:=h.1
 by_cases av:i<es.size
 .rw[dif_pos av,dif_pos (by omega)];exact h.2 i av (by omega)
 .rw[dif_neg av,dif_neg (by omega)];simp
def yW.list{κ:Type}{enc:κ->Value}{es:Array MapEntry}{l:List (κ×Value)}(h:yW enc es l):∀i (h:i<es.toList.length)(h':i<l.length),(es.toList[i]).key=enc l[i].1/\(es.toList[i]).val=l[i].2:=λi hi cQ=>by
 have:=h.2 i (by simpa using hi) cQ;simpa using this
def rK(k:Int):∀(es:List MapEntry)(l:List (Int×Value))(i:Nat),es.length=l.length->(∀j (h:j<es.length)(h':j<l.length),(es[j]).key=.int .i64 l[j].1/\(es[j]).val=l[j].2)->Instr.findNow (.int .i64) (.int .i64 k) es i=some (mK k l i)
 |[],[],_,_,_=>rfl
 |[],_::_,_,h,_=>by simp at h
 |_::_,[],_,h,_=>by simp at h
 |e::es,(k',v)::l,i,hl,h=>by
  obtain⟨h1,h2⟩:=h 0 (by simp) (by simp);simp only[List.getElem_cons_zero]at h1 h2;unfold Instr.findNow mK;rw[h1];simp only[Instr.sameNow,ac3]
  by_cases hk:k=k'
  .subst hk;simp[h2]
  .have:(k==k')=false:=by simpa using hk
   rw[this];simp only[acI,acW]
   exact rK k es l (i+1) (by simpa using hl) λj hj dH=>h (j+1) (afx hj) (afx dH)
section
variable{P:Program}{a:Act}{w:World}
def E4 {o:Oper} {t kt el:TypeId} {x1 x2 x3:Operand} {b clock:Nat} {es:Array MapEntry} {k:Int} {l:List (Int×Value)} (ho:o.op = .mapUpdate t x1 x2 x3) (ep:P.underlying t=some (.map kt el)) (hu:P.underlying kt=some (.int .i64)) (h1:a.eval x1 = .map (some b)) (h2:a.eval x2 = .int .i64 k)
  (hb:w.heap[b]?=some (.map es clock)) (he:yW (.int .i64) es l) (gX:mK k l 0=none):(execOp a.eval o).run P w=.ok .skip (w.putObj b (.map (es.push { key:=.int .i64 k,val:=a.eval x3,born:=clock }) (clock+1))):=by
 have hf:=rK k es.toList l 0 (by simpa using he.1) he.list;rw[gX]at hf;have uA:=MapKept.run_findKey (P:=P) (w:=w) hu hf
 have wh:(Instr.checkKey false 10000 kt (.int .i64 k)).run P w=.ok () w:=by
  unfold Instr.checkKey;simp[acK,acR hu]
 unfold execOp;simp only[ho,h1,h2,Instr.mapUpdate,acK,acR ep,Result.andThen_ok,ae0 hb,wh,uA,af7 _ hb]
 rfl
def FE {o:Oper} {t kt el:TypeId} {ie:TypeInfo} {z:Value} {x1 x2:Operand} {b clock:Nat} {es:Array MapEntry} {k:Int} {l:List (Int×Value)} (ho:o.op = .lookup t x1 x2 false) (ep:P.underlying t=some (.map kt el)) (hu:P.underlying kt=some (.int .i64)) (hi:P.info? el=some ie) (hz:ie.zero=some z)
  (h1:a.eval x1=.map (some b)) (h2:a.eval x2=.int .i64 k) (hb:w.heap[b]?=some (.map es clock)) (he:yW (.int .i64) es l):(execOp a.eval o).run P w=.ok (.value (((mK k l 0).map (·.2)).getD z)) w:=by
 have hf:=rK k es.toList l 0 (by simpa using he.1) he.list;have uA:=MapKept.run_findKey (P:=P) (w:=w) hu hf
 have wh:∀e,(Instr.checkKey e 10000 kt (.int .i64 k)).run P w=.ok () w:=λe=>by
  unfold Instr.checkKey;simp[acK,acR hu]
 unfold execOp;simp only[ho,h1,h2,Instr.lookup,acK,acR ep,Result.andThen_ok,ae0 hb,Sem.run_pure,wh,uA]
 cases mK k l 0 with
 |none=>simp[zeroValue,typeInfo,hi,hz]
 |some q=>simp
end
def Ek(x y:bB):Bool:=match x.dst,x.guard,x.op,y.dst,y.guard,y.op with
 |some d,none,.loadT _ a,some d',none,.loadT _ a'=>d !=d'&&!a'.tmps.contains d&&!a.tmps.contains d'
 |_,_,_,_,_,_=>false
def p8(S:an)(x y:bB):Prop:=match x.op,y.op with
 |.loadT _ a,.loadT _ a'=>∃i o i' o',ev S a=.box i o/\ev S a'=.box i' o'/\(i≠i'\/o≠o')
 |_,_=>False
section
variable{P:Program}{GI:World->Prop}{md:Region.Mode}{ops:Array Oper}{n:Nat}
def O_ {x y:bB} {S:an} {H:aq} {ex ey:aQ} (hs:Ek x y=true) (hA:p8 S x y) (hx:eZ P GI x S H ex) (hy:eZ P GI y (ex.S S x.dst) (ex.H H) ey) :
  ∃Fj wW,eZ P GI y S H Fj/\eZ P GI x (Fj.S S y.dst) (Fj.H H) wW/\wW.S (Fj.S S y.dst) x.dst=ey.S (ex.S S x.dst) y.dst/\wW.H (Fj.H H)=ey.H (ex.H H)/\Fj.dm=none:=by
 obtain⟨xd,xg,xo⟩:=x;obtain⟨yd,yg,yo⟩:=y;unfold Ek at hs;split at hs
 case h_2=>cases hs
 rename_i d h a d' h' a' q1 q2 q3 q4 q5 q6;simp only at q1 q2 q3 q4 q5 q6;subst q1 q2 q3 q4 q5 q6;simp only[acA,afm,ne_eq,adx,ae6,adQ]at hs;obtain⟨⟨hd,CO⟩,sZ⟩:=hs;obtain⟨i,o,i',o',e1,e2,bP⟩:=hA;simp only[eZ,aG,kP,aD,e1]at hx;split at hx
 case isFalse=>cases hx
 rename_i b_;split at hx
 case h_2=>cases hx
 rename_i cs pC;split at hx
 case h_2=>cases hx
 rename_i v hv;cases hx;simp only[aQ.S,aY,aQ.H]at hy
 have Rj:ev (au S d v) a'=.box i' o':=by
  rw[<-e2];exact bI λt ht=>aN _ _ (by rintro rfl;exact CO ht)
 simp only[eZ,aG,kP,aD,Rj]at hy;split at hy
 case isFalse=>cases hy
 rename_i BA;split at hy
 case h_2=>cases hy
 rename_i fj Ns;split at hy
 case h_2=>cases hy
 rename_i v' nM;cases hy
 have CS:ev (au S d' v') a=.box i o:=by
  rw[<-e1];exact bI λt ht=>aN _ _ (by rintro rfl;exact sZ ht)
 have hSc:au (au S d' v') d v=au (au S d v) d' v':=by
  funext t
  simp only[au]
  by_cases h1:t=d
  .subst h1;simp[hd]
  .simp[h1]
 by_cases hi:i=i'
 .subst hi
  have ho:o≠o':=by rcases bP with h|h;exact absurd rfl h;exact h
  rw[aK]at Ns;cases Ns;rw[agf ho]at nM;refine⟨{ v:=v',hw:=some (i,cs.set o' v'.aH) },{ v:=v,hw:=some (i,(cs.set o' v'.aH).set o v.aH) },?_,?_,hSc,?_,rfl⟩
  .simp[eZ,aG,kP,aD,e2,BA,pC,nM]
  .have:(cs.set o' v'.aH)[o]?=some v:=by rw[agf (adi ho)];exact hv
   simp[eZ,aG,kP,aD,aQ.S,aQ.H,aY,CS,b_,aK,this]
  .simp only[aQ.H];rw[List.set_comm _ _ (adi ho)]
   funext t
   simp only[au]
   split<;>rfl
 .rw[aN _ _ (adi hi)]at Ns;refine⟨{ v:=v',hw:=some (i',fj.set o' v'.aH) },{ v:=v,hw:=some (i,cs.set o v.aH) },?_,?_,hSc,?_,rfl⟩
  .simp[eZ,aG,kP,aD,e2,BA,Ns,nM]
  .simp[eZ,aG,kP,aD,aQ.S,aQ.H,aY,CS,b_,aN _ _ hi,pC,hv]
  .simp only[aQ.H]
   funext t
   simp only[au]
   by_cases h1:t=i
   .subst h1;simp[hi]
   .simp[h1]
def p8.aR{S S':an}{x y:bB}(h:p8 S x y)(hS:∀t∈x.op.rd++y.op.rd,S' t=S t):p8 S' x y:=by
 obtain⟨xd,xg,xo⟩:=x;obtain⟨yd,yg,yo⟩:=y;unfold p8 at h⊢;simp only at h hS⊢;split at h
 case h_2=>exact h.elim
 obtain⟨i,o,i',o',e1,e2,bP⟩:=h;refine⟨i,o,i',o',?_,?_,bP⟩
 .rw[<-e1];exact bI λt ht=>hS t (aeM _ ht)
 .rw[<-e2];exact bI λt ht=>hS t (afA _ ht)
def stay(P:Program)(n:Nat)(ops:Array Oper)(listed:Array Bool)(ts:List Nat):Prop:=∀k ak,jZ P n ops k=some ak->listed.getD k true=false->∀t∈ts,t∉ak.writes
def FF {QA:an→aq→Prop} {i:Nat} {oi:bB} (hi:jZ P n ops i=some oi) :
  ∀(fuel:Nat)(listed:Array Bool)(S:an)(H:aq)(e:aQ),
   (∀j o aj,ops[j]?=some o->jZ P n ops j=some aj->j≠i->listed.getD j true=false->(∀ed∈o.after,Region.binds md ed=true->ed.on≠i)->oi.apart aj=true\/(Ek oi aj=true/\p8 S oi aj/\stay P n ops listed (oi.op.rd++aj.op.rd)))->
   i∈Region.ready md ops listed->eZ P GI oi S H e->
   vW P GI n md ops QA fuel (listed.setIfInBounds i true) (e.S S oi.dst) (e.H H)->vW P GI n md ops QA (fuel+1) listed S H:=by
 intro fuel
 induction fuel with
 |zero=>
  intro listed S H e _ hr hy hK;refine⟨λh=>(by rw[h]at hr;cases hr),λj hj=>?_⟩
  by_cases fh:j=i
  .subst fh;unfold Hu;rw[hi];exact⟨e,hy,hK⟩
  .have:=afo hj fh;rw[hK.1]at this;cases this
 |succ fuel ih=>
  intro listed S H e qg hr hy hK;refine⟨λh=>(by rw[h]at hr;cases hr),λj hj=>?_⟩
  by_cases fh:j=i
  .subst fh;unfold Hu;rw[hi];exact⟨e,hy,hK⟩
  .have h1:=hK.2 j (afo hj fh);obtain⟨DT,o,ho,e_⟩:=aeD.1 hj
   have sT:jZ P n ops j=some (bD P n true ops o):=by simp[jZ,ho]
   have SR:∀ed∈o.after,Region.binds md ed=true->ed.on≠i:=λed WT hb heq=>by
    have h1:=e_ ed WT hb;have h0:=(aeD.1 hr).1;rw[heq]at h1;rcases adK i listed.size with h'|h'
    .simp[h']at h0 h1;rw[h0]at h1;cases h1
    .simp[aej h']at h1
   have ky:=qg j o _ ho sT fh DT SR;unfold Hu at h1⊢;rw[sT]at h1⊢;obtain⟨ej,Ml,UK⟩:=h1
   have Vt:∀k,(listed.setIfInBounds j true).getD k true=false->listed.getD k true=false:=λk hk=>by
    by_cases zX:j=k
    .subst zX;exact DT
    .rwa [afb true zX]at hk
   have Ax:∀ YV:aQ,(∀ t,YV.dm=some t→t∈(bD P n true ops o).op.wr)→∀ k o' ak,ops[k]? = some o'→jZ P n ops k=some ak→k≠i→(listed.setIfInBounds j true).getD k true=false→(∀ ed∈o'.after,Region.binds md ed=true→ed.on≠i) →
     oi.apart ak=true\/(Ek oi ak=true/\p8 (YV.S S (bD P n true ops o).dst) oi ak/\stay P n ops (listed.setIfInBounds j true) (oi.op.rd++ak.op.rd)):=by
    intro YV FZ k o' ak hk Qw tW ep gX
    rcases qg k o' ak hk Qw tW (Vt k ep) gX with h|⟨h1,h2,h3⟩
    .exact .inl h
    .refine .inr ⟨h1,h2.aR λt ht=>?_,λm am hm hu=>h3 m am hm (Vt m hu)⟩;have:=h3 j _ sT DT t ht;exact aQ.wO (λh=>this (fy (.inl h))) (λh=>this (fy (.inr (FZ t h))))
   rcases ky with ky|⟨hs,hA,_⟩
   .have Cm:=vF ky hy Ml;refine⟨ej,Cm,?_⟩;refine ih (listed.setIfInBounds j true) _ _ e (Ax ej (gK Ml).1) (afo hr (adi fh)) (xi ky Cm hy) ?_;rw[afh _ _ fh];rw[<-A0 ky (gK hy).1 (gK Ml).1,<-By ky (gK hy).2 (gK Cm).2];exact UK
   .obtain⟨Fj,wW,q1,q2,q3,q4,q5⟩:=O_ hs hA hy Ml;refine⟨Fj,q1,?_⟩;refine ih (listed.setIfInBounds j true) _ _ wW (Ax Fj (λt h=>by rw[q5]at h;cases h)) (afo hr (adi fh)) q2 ?_;rw[afh _ _ fh,q3,q4];exact UK
def EZ(md:Region.Mode)(ops:Array Oper)(al:List bB)(p q:Nat)(listed:Array Bool)(i:Nat):Bool:=
 match al[i]? with
 |none=>false
 |some oi=>(List.range ops.size).all fun j=>j==i || listed.getD j true || match ops[j]?,al[j]? with
   |some oj,some aj=>oj.after.any (fun e=>Region.binds md e && e.on==i) || oi.apart aj ||
     (i==p&&j==q&&Ek oi aj&&(List.range ops.size).all λk=>listed.getD k true||match al[k]? with
      |some ak=>(oi.op.rd++aj.op.rd).all λt=>!ak.writes.contains t
      |none=>true)
   |_,_=>true
def Co(md:Region.Mode)(ops:Array Oper)(al:List bB)(p q:Nat):List Nat->Array Bool->Bool
 |[],listed=>(Region.ready md ops listed).isEmpty
 |k::r,listed=>(Region.ready md ops listed).contains k&&EZ md ops al p q listed k&&Co md ops al p q r (listed.setIfInBounds k true)
def FY {p q i:Nat} {oi:bB} {listed:Array Bool} {S:an} (hi:jZ P n ops i=some oi) (h:EZ md ops (br P n true ops) p q listed i=true) (hS:i=p→∀ aj,jZ P n ops q=some aj→p8 S oi aj) (j:Nat) (o:Oper) (aj:bB)
  (hj:ops[j]?=some o) (sT:jZ P n ops j=some aj) (bP:j≠i) (ep:listed.getD j true=false) (gX:∀e∈o.after,Region.binds md e=true->e.on≠i):oi.apart aj=true\/(Ek oi aj=true/\p8 S oi aj/\stay P n ops listed (oi.op.rd++aj.op.rd)):=by
 simp only[EZ,ft,hi,acN,acY]at h;have h1:=h j (acz.1 hj).1;simp only[hj,sT,adw,ac7,bP,afX,ep,acI,acA]at h1
 rcases h1 with(h1|h1)|⟨⟨⟨h1,h2⟩,h3⟩,h4⟩
 .obtain⟨e,he,hb⟩:=afi.1 h1;simp only[acA,ac7]at hb;exact absurd hb.2 (gX e he hb.1)
 .exact .inl h1
 .subst h1 h2;refine .inr ⟨h3,hS rfl aj sT,λk ak hk hu t ht hw=>?_⟩
  have jB:k<ops.size:=by
   unfold jZ at hk
   cases ho:ops[k]? with
   |none=>rw[ho]at hk;cases hk
   |some x=>exact(acz.1 ho).1
  have h5:=acN.1 h4 k (acY.2 jB);simp only[hu,Bool.false_or,hk]at h5;have:=acN.1 h5 t ht;simp[hw]at this
def sD{K K':an->aq->Prop}(hK:∀S H,K S H->K' S H):∀(l:List bB)(S:an)(H:aq),cq P GI l K S H->cq P GI l K' S H
 |[],_,_,h=>hK _ _ h
 |o::rest,S,H,h=>by
  simp only[cq]at h⊢;split
  .rename_i hw;simp only[hw]at h;exact xh (λS H=>sD hK rest S H) h
  .rename_i hw;simp only[hw]at h;exact sD hK rest _ _ h
  .rename_i hw;simp only[hw]at h
def xy(P:Program)(GI:World->Prop)(al:List bB)(p q:Nat)(K:an->aq->Prop):List Nat->an->aq->Prop
 |[],S,H=>K S H
 |k::r,S,H=>∃o,al[k]?=some o/\(k=p->∀aj,al[q]?=some aj->p8 S o aj)/\cq P GI [o] (xy P GI al p q K r) S H
def CA {QA:an→aq→Prop} {p q:Nat}:∀ (ord:List Nat) (listed:Array Bool) (S:an) (H:aq),
  Co md ops (br P n true ops) p q ord listed=true->xy P GI (br P n true ops) p q QA ord S H->vW P GI n md ops QA ord.length listed S H
 |[],_,_,_,hB,h=>⟨by simpa[Co]using hB,h⟩
 |k::r,listed,S,H,hB,h=>by
  obtain⟨o,ha,hS,h⟩:=h;rw[ft]at ha;simp only[Co,acA]at hB;obtain⟨⟨hr,hf⟩,Sz⟩:=hB;obtain⟨e,hy,hK⟩:=sh h
  exact FF ha r.length listed S H e (FY ha hf (λhk aj sT=>hS hk aj (by rw[ft];exact sT))) (by simpa using hr) hy
   (CA r _ _ _ Sz hK)
def VQ(P:Program)(n:Nat)(ops:Array Oper)(p q:Nat)(ord:List Nat):Bool:=
 (br P n true ops).all (·.ok n)&&mJ .any ops (br P n true ops)&&QV (br P n true ops)&&decide (ord.length=ops.size)&&Co .any ops (br P n true ops) p q ord (Array.replicate ops.size false)
def AM{al:List bB}{p q:Nat}{K:an->aq->Prop}{r:List Nat}:∀(ks:List Nat)(l:List bB){S:an}{H:aq},ks.map (al[·]?)=l.map some->(∀k∈ks,k≠p)->cq P GI l (xy P GI al p q K r) S H->xy P GI al p q K (ks++r) S H
 |[],[],_,_,_,_,h=>h
 |[],_::_,_,_,h,_,_=>by simp at h
 |_::_,[],_,_,h,_,_=>by simp at h
 |k::ks,o::l,S,H,he,hp,h=>by
  simp only[ac5,aeG]at he;refine⟨o,he.1,λhk=>absurd hk (hp k (by simp)),?_⟩
  have hm:∀S H,cq P GI l (xy P GI al p q K r) S H->xy P GI al p q K (ks++r) S H:=λS H h=>AM ks l he.2 (λk hk=>hp k (acH _ hk)) h
  simp only[cq]at h⊢;split
  .rename_i hw;simp only[hw]at h;exact xh hm h
  .rename_i hw;simp only[hw]at h;exact hm _ _ h
  .rename_i hw;simp only[hw]at h
end
section
variable{P:Program}{GI:World->Prop}{n:Nat}{ops:Array Oper}{S:an}{H:aq}
end
section
variable{P:Program}{GI:World->Prop}{n m:Nat}{Q:Exit->Act->World->Prop}
def G_(ops:Array Oper)(p:Nat):Bool:=
 decide (p<=ops.size)&&ops.all (λo=>o.guard.isNone)&&
 (List.range ops.size).all (λi=>((ops[i]?).map λo=>if i<p then o.after.all λe=>!Region.binds .any e||decide (e.on<i)else(List.range p).all λj=>o.after.any λe=>Region.binds .any e&&e.on==j).getD true)&&
 nj ops (ops.size-p) p ((List.range ops.size).map λi=>decide (i<p)).toArray
def wC{F:Fence}{ops:Array Oper}(hg:ops.all (λo=>o.guard.isNone)=true)(x:Nat):∀(k i:Nat)(l:Array Bool)(a:Act)(w:World),nj ops k i l=true->wpOpsIn F m P ops Q (List.range' i k) a w->wpAnyIn F m P .any ops Q (x+k) l a w
 |0,i,l,a,w,h,hh=>by
  have h0:Region.ready .any ops l=[]:=by simpa[nj]using h
  cases x with
  |zero=>exact⟨h0,hh⟩
  |succ x=>exact⟨λ_=>hh,λi hi=>by rw[h0]at hi;cases hi⟩
 |k+1,i,l,a,w,h,hh=>by
  simp only[nj,acA,ac7]at h;refine⟨λhr=>(by rw[hr]at h;cases h.1),λj hj=>?_⟩;rw[h.1,ac4]at hj;subst hj;simp only[ad_]at hh;rw[wpOpsIn_cons]at hh;exact wpOpIn_mono (λa w hq=>wC hg x k _ _ a w h.2 hq) hh
structure IT(ops:Array Oper)(p:Nat)(la l:Array Bool):Prop where
 PV:la.size=p
 sl:l.size=ops.size
 front:∀i,i<p->l[i]?=la[i]?
 back:∀i,p<=i->i<ops.size->l[i]?=some false
section
variable{ops:Array Oper}{p:Nat}{la l:Array Bool}(hp:p<=ops.size)
 (hw:∀i o,ops[i]?=some o->if i<p then∀e∈o.after,Region.binds .any e=true->e.on<i else∀j,j<p->∃e∈o.after,Region.binds .any e=true/\e.on=j)
include hp hw
def Kw(h:IT ops p la l){j:Nat}(hj:j<p)(Df:la[j]?=some false):Region.ready .any ops l=Region.ready .any (ops.extract 0 p) la:=by
 unfold Region.ready
 have bg:(ops.extract 0 p).size=p:=by simp;omega
 rw[bg]
 have hr:List.range ops.size=List.range p++List.range' p (ops.size-p):=by
  rw[ad0,ad0];have:=ae7 (s:=0) (m:=p) (n:=ops.size-p);rw[ac_]at this;rw[this]
  congr 1;omega
 rw[hr,List.filter_append]
 have hb:(List.range' p (ops.size-p)).filter (λi=>!l.getD i true&&((ops[i]?).map (·.after.all λe=>!Region.binds .any e||l.getD e.on false)).getD false)=[]:=by
  rw[List.filter_eq_nil_iff];intro i hi;have hi:=aeK.1 hi;have Hw:p<=i:=hi.1
  have oA:i<ops.size:=by omega
  have ho:ops[i]?=some ops[i]:=acP oA;have ss:=hw i _ ho;rw[if_neg (by omega)]at ss;obtain⟨e,he,hb,hej⟩:=ss j hj;rw[ho];simp only[Option.map_some,Option.getD_some,acA,not_and,ad8];intro _;rw[Array.all_eq_false];obtain⟨q,hq,rfl⟩:=Array.getElem_of_mem he;refine⟨q,hq,?_⟩;rw[hb,hej];simp only[Bool.not_true,Bool.false_or,ad8];rw[acG,h.front j hj,Df];rfl
 rw[hb,adn]
 refine List.filter_congr λi hi=>?_
 have hi:=acY.1 hi;have ho:ops[i]?=some (ops[i]'(by omega)):=acP (by omega);have ss:=hw i _ ho;rw[if_pos hi]at ss
 have Wy:(ops.extract 0 p)[i]?=ops[i]?:=by
  rw[aek]
  have:i<min p ops.size-0:=by omega
  rw[if_pos this,ac_]
 rw[Wy,ho];simp only[Option.map_some,Option.getD_some,acG,h.front i hi]
 congr 1
 rw[adE,ads,ads]
 refine forall_congr' λe=>forall_congr' λhe=>?_
 cases vR:Region.binds .any e with
 |false=>simp
 |true=>
  have:=ss e he vR;rw[h.front e.on (by omega)]
def ur(h:IT ops p la l){j:Nat}(hj:j<p)(Df:la[j]?=some false):Region.ready .any (ops.extract 0 p) la≠[]:=by
 have bg:(ops.extract 0 p).size=p:=by simp;omega
 have ex:∃j,j<p/\la[j]?=some false/\∀i,i<j->la[i]?=some true:=by
  induction j using Nat.strongRecOn with
  |_ j ih=>
   by_cases hx:∃i,i<j/\la[i]?=some false
   .obtain⟨i,hi,hiu⟩:=hx;exact ih i hi (by omega) hiu
   .refine⟨j,hj,Df,λi hi=>?_⟩
    have cN:i<la.size:=by rw[h.PV];omega
    rw[acP cN]
    cases hb:la[i]with
    |true=>rfl
    |false=>exact absurd ⟨i,hi,by rw[acP cN,hb]⟩ hx
 obtain⟨j,hj,Df,Sw⟩:=ex;intro rV
 have:j∈Region.ready .any (ops.extract 0 p) la:=by
  unfold Region.ready;rw[List.mem_filter];refine⟨acY.2 (by omega),?_⟩;have ho:ops[j]?=some (ops[j]'(by omega)):=acP (by omega);have ss:=hw j _ ho;rw[if_pos hj]at ss
  have Wy:(ops.extract 0 p)[j]?=ops[j]?:=by
   rw[aek]
   have:j<min p ops.size-0:=by omega
   rw[if_pos this,ac_]
  rw[Wy,ho];simp only[Option.map_some,Option.getD_some,acA,acG,Df,afK,agd];rw[ads];intro e he
  cases vR:Region.binds .any e with
  |false=>rfl
  |true=>
   rw[Sw e.on (ss e he vR)];rfl
 rw[rV]at this;cases this
def HW {F:Fence} (hg:ops.all (fun o=>o.guard.isNone)=true) (GC:nj ops (ops.size - p) p ((List.range ops.size).map fun i=>decide (i < p)).toArray=true):∀ (k:Nat) (la l:Array Bool) (a:Act) (w:World),IT ops p la l →
  wpAnyIn F m P .any (ops.extract 0 p) (H_ (wpOpsIn F m P ops Q (List.range' p (ops.size-p))) Q) k la a w->wpAnyIn F m P .any ops Q (k+(ops.size-p)) l a w:=by
 have bg:(ops.extract 0 p).size=p:=by simp;omega
 have final:∀(k:Nat)(la l:Array Bool)(a:Act)(w:World),IT ops p la l->(¬∃j,j<p/\la[j]?=some false)->wpOpsIn F m P ops Q (List.range' p (ops.size-p)) a w->wpAnyIn F m P .any ops Q (k+(ops.size-p)) l a w:=by
  intro k la l a w h e_ hh
  have hl:l=((List.range ops.size).map λi=>decide (i<p)).toArray:=by
   apply Array.ext_getElem?;intro i
   by_cases hi:i<ops.size
   .simp only[afz,ac1,List.getElem?_range hi,Option.map_some]
    by_cases Ag:i<p
    .rw[h.front i Ag]
     have cN:i<la.size:=by rw[h.PV];omega
     rw[acP cN]
     cases hb:la[i]with
     |true=>simp[Ag]
     |false=>exact absurd ⟨i,Ag,by rw[acP cN,hb]⟩ e_
    .rw[h.back i (by omega) hi];simp[Ag]
   .have G4:=h.sl;rw[aej (by omega),aej (by simp;omega)]
  rw[hl];exact wC hg k _ _ _ a w GC hh
 intro k
 induction k with
 |zero=>
  intro la l a w h hh;refine final 0 la l a w h ?_ hh.2;rintro⟨j,hj,Df⟩;exact ur hp hw h hj Df hh.1
 |succ k ih=>
  intro la l a w h hh
  by_cases e_:∃j,j<p/\la[j]?=some false
  case neg=>
   have h0:Region.ready .any (ops.extract 0 p) la=[]:=by
    unfold Region.ready;rw[List.filter_eq_nil_iff];intro i hi;have hi:=acY.1 hi
    have cN:i<la.size:=by rw[h.PV];omega
    cases hb:la[i]with
    |true=>simp[acG,acP cN,hb]
    |false=>exact absurd ⟨i,by omega,by rw[acP cN,hb]⟩ e_
   exact final (k+1) la l a w h e_ (hh.1 h0)
  obtain⟨j,hj,Df⟩:=e_;have h1:=ur hp hw h hj Df;have h2:=Kw hp hw h hj Df;rw[show k+1+(ops.size-p)=(k+(ops.size-p))+1 by omega];refine⟨λhr=>absurd (h2▸hr) h1,λi hi=>?_⟩
  have cQ:i∈Region.ready .any (ops.extract 0 p) la:=by rw[<-h2];exact hi
  have Ag:i<p:=by
   have:=acY.1 (List.mem_filter.1 cQ).1;omega
  have hI:IT ops p (la.setIfInBounds i true) (l.setIfInBounds i true):=by
   refine⟨by simpa using h.PV,by simpa using h.sl,λq hq=>?_,λq hq Ku=>?_⟩
   .rw[adO,adO,h.front q hq];have e1:=h.PV;have e2:=h.sl
    by_cases WN:i=q
    .subst WN;rw[if_pos rfl,if_pos rfl,if_pos (by omega),if_pos (by omega)]
    .rw[if_neg WN,if_neg WN]
   .rw[adO,if_neg (by omega)];exact h.back q hq Ku
  have hs:=hh.2 i cQ;unfold wpOpIn at hs⊢
  have ib:(ops.extract 0 p)[i]?=ops[i]?:=by
   rw[aek]
   have:i<min p ops.size-0:=by omega
   rw[if_pos this,ac_]
  rw[ib]at hs
  cases ho:ops[i]? with
  |none=>rw[ho]at hs;exact ih _ _ a w hI hs
  |some o=>
   rw[ho]at hs
   have nx:o.guard=none:=by
    have:=ads.1 hg o (adz ho);simpa using this
   have hw:∀y,Region.wanted o y=true:=λy=>by simp[Region.wanted,nx]
   simp only[hw,ac3]at hs⊢;exact afp (λa w hq=>ih _ _ a w hI hq) (AT hs)
end
def Kl (hm:P.follows .mixedOrders=true) {F:Fence} {id p:Nat} {ops:Array Oper} {a:Act} {w:World} (h:G_ ops p=true)
  (hh:wpAnyIn F m P .any (ops.extract 0 p) (H_ (wpOpsIn F m P ops Q (List.range' p (ops.size-p))) Q) p (Array.replicate p false) a { w with drawn:=w.drawn+1 }):(Code.region id ops true).wpIn F m P Q a w:=by
 simp only[G_,acA,acJ]at h;obtain⟨⟨⟨h1,h2⟩,h3⟩,h4⟩:=h;refine aex hm ?_
 have:=HW (P:=P) (Q:=Q) (m:=m) h1 (λi o ho=>by
  have hi:=(acz.1 ho).1;have:=acN.1 h3 i (acY.2 hi);rw[ho]at this;simp only[Option.map_some,Option.getD_some]at this;split
  .rename_i Ag;rw[if_pos Ag,ads]at this;intro e he hb;have:=this e he;simpa[hb]using this
  .rename_i Ag;rw[if_neg Ag]at this;intro j hj;have:=acN.1 this j (acY.2 hj);obtain⟨q,hq,WX⟩:=Array.any_eq_true.1 this;simp only[acA,ac7]at WX
   exact⟨_,Array.getElem_mem hq,WX.1,WX.2⟩) (F:=F) h2 h4 p (Array.replicate p false) (Array.replicate ops.size false) a _ ⟨by simp,by simp,λi hi=>by
    rw[Array.getElem?_replicate,Array.getElem?_replicate,if_pos (by omega),if_pos hi],λi hi cQ=>by rw[Array.getElem?_replicate,if_pos cQ]⟩ hh
 rwa [show p+(ops.size-p)=ops.size by omega]at this
end
section
variable{P:Program}{Q:Exit->Act->World->Prop}{ro:Option Nat}{m n:Nat}{ops:Array Oper}
structure AI(ops:Array Oper)(n:Nat)(a0:Act)(val:Nat->Value)(l:Array Bool)(a:Act):Prop where
 size:a.tmps.size=n
 defers:a.defers=a0.defers
 old:∀t:Nat,(∀(i:Nat)(o:Oper),ops[i]?=some o->o.dst≠some t)->a.tmps.getD t undef=a0.tmps.getD t undef
 Uj:∀(i:Nat)(o:Oper)(t:Nat),ops[i]?=some o->o.dst=some t->l.getD i false=true->a.tmps.getD t undef=val t
def Jc{l:Array Bool}(lD:∀(i:Nat)(o:Oper),ops[i]?=some o->∀e∈o.after,Region.binds .any e=true->e.on<i)(hl:l.size=ops.size):Region.ready .any ops l=[]->∀i,i<ops.size->l.getD i false=true:=by
 intro h i
 induction i using Nat.strongRecOn with
 |_ i ih=>
 intro hi
 cases QC:l.getD i false with
 |true=>rfl
 |false=>
  exfalso
  have cQ:i<l.size:=by omega
  have h1:l.getD i true=false:=by
   simp only[acG,acP cQ,Option.getD_some]at QC⊢;exact QC
  have:i∈Region.ready .any ops l:=aeD.2 ⟨h1,ops[i],acP hi,λe he hb=>ih e.on (lD i _ (acP hi) e he hb) (by have:=lD i _ (acP hi) e he hb;omega)⟩;rw[h]at this;cases this
section
variable{a:Act}{w:World}
def KM {i:Nat} {rest:List Nat} {o:Oper} (ho:ops[i]? = some o) (hw:Region.wanted o (yielded ops a.tmps)=true) (dF:eB o.op=true) {v:Value} {w':World}
  (hr:(execOp a.eval o).run P w=.ok (.value v) w') (hk:wpOpsIn (FR ro) m P ops Q rest (a.put o.dst v) w'):wpOpsIn (FR ro) m P ops Q (i::rest) a w:=by
 simp only[wpOpsIn,ho];rw[if_pos hw];refine⟨λ_ _=>trivial,?_⟩;rw[adW _ _ _ (λc hc=>by rw[hc]at dF;cases dF),hr];exact hk
end
end
section
variable{P:Program}{GI:World->Prop}{w0:World}{n:Nat}{g:Gh}{S:an}{H:aq}{a:Act}{w:World}
def Rel.Up (R:Rel P w0 n bz g S H a w) (d:Nat) (hd:d < n) (cg:¬ g.old.bx d) (cs:List AV) (vs:Array Value) (ty:TypeId) (hr:nQ g.Pr w cs vs)
  (ho:∀(g':Gh) j (h:j<cs.length)(h':j<vs.size),(cs[j]).ly/\ea P w g' (.cell d j) cs[j] vs[j]):
  ∃g',g'.base=g.base/\g'.old=g.old/\g'.hi=g.hi/\g'.owner=g.owner/\g'.al d=some w.heap.size/\Rel P w0 n bz g' (au (λt=>bQ d (S t)) d (.box d 0)) (au H d (some cs)) (a.put (some d) (.pointer (some ⟨w.heap.size,0,none⟩))) (w.alloc (.cells vs ty)):=by
 have R1:=R.suspend d cg (.box d 0) cs;have R2:=R1.GB d (.inr rfl) hd cs vs ty (aK _ _ _) (aK _ _ _) hr.1 hr.2.1 (λj h h'=>ho _ j h h') hr.2.2;rw[Ez]at R2;exact⟨{ g with al:=au (au g.al d none) d (some w.heap.size) },rfl,rfl,rfl,rfl,aK _ _ _,R2⟩
def It{o:Oper}{t:TypeId}{it:TypeInfo}{z:Value}(ho:o.op=.alloc t)(hi:P.info? t=some it)(hz:it.zero=some z):(execOp a.eval o).run P w=.ok (.value (.pointer (some ⟨w.heap.size,0,none⟩))) (w.alloc (.cells z.cells t)):=by
 unfold execOp;simp[ho,Instr.alloc,zeroValue,typeInfo,hi,hz,newVar,newRow]
def CY {o:Oper} {t:TypeId} {x y:Operand} {b:Nat} {c:Value} {vs:Array Value} {ty:TypeId} {i:TypeInfo} (ho:o.op = .store t x y) (hx:a.eval x = .pointer (some ⟨b,0,none⟩)) (hi:P.info? t=some i) (hb:w.heap[b]? = some (.cells vs ty (0,0))) (hy:a.eval y=c)
  (bg:c.cells.size=i.size) (n_:vs.size=i.size) (lj:∀u∈c.cells.toList,u.oneCell'=true):(execOp a.eval o).run P w=.ok .skip (w.setRow b c.cells):=by
 have cM:=afs P b 0 ty c.cells.toList 0 vs w hb (by simp;omega) lj
 have e:(vs.toList.take 0++c.cells.toList++vs.toList.drop (0+c.cells.toList.length)).toArray=c.cells:=by
  simp[adU,bg,n_]
 simp only[Nat.add_zero]at cM;rw[e]at cM;unfold execOp;simp only[ho,hx,hy,Instr.storeAt,Instr.sureAddr,storeVar,sizeOf,typeInfo,acK,Sem.run_pure,Result.andThen_ok,run_program,hi,bg,ne_eq,aef,acW];rw[show storeCells ⟨b,0,none⟩ c.cells.toList=storeCells ⟨b,0,none⟩ c.cells.toList 0 from rfl,cM]
 rfl
end
end Go.AL
namespace Go.Proofs.Tryz
open Go.AL
noncomputable def codeOf(f:Go.Func):Go.Code:=match f.body with|some c=>c|none=>f.body.get!
abbrev Ev(n:Nat)(f:Go.Func):={c:af//cC prog n (codeOf f)=c}
def _root_.Go.Code.cA:Go.Code->Go.Code
 |.seq x _=>x
 |.cond _ x _=>x
 |c=>c
def _root_.Go.Code.cB:Go.Code->Go.Code
 |.seq _ y=>y
 |.cond _ _ y=>y
 |.block _ c=>c
 |.loop c=>c
 |c=>c
noncomputable def _root_.Go.Func.cO(f:Go.Func):Go.Code:=match f.body with|some c=>c|none=>f.body.get!
@[simp] noncomputable def aT(n:Nat)(c:Go.Code){a:af}(_h:cC prog n c=a:=by conv=>lhs;cbv):af:=a
end Go.Proofs.Tryz
namespace Go.AL
def aP{n:Int}(h: -9223372036854775808<=n/\n<9223372036854775808):IntKind.i64.wrap n=n:=by
 have key:∀m:Int,m=n % 18446744073709551616->(if decide (m>=9223372036854775808)=true then m-18446744073709551616 else m)=n:=by
  intro m hm;split
  .rename_i hd;have:=aez hd;omega
  .rename_i hd
   have Al:¬m>=9223372036854775808:=λhh=>hd (adX hh)
   omega
 exact key _ rfl
def ints(l:List Int):List AV:=l.map (.int .i64)
def cy(l:List Int):(ints l).length=l.length:=by simp[ints]
def dK(l:List Int)(i:Nat)(h:i<(ints l).length):(ints l)[i]=.int .i64 (l[i]'(by simpa[ints]using h)):=by simp[ints]
def vI(l:List Int):AV:=.slice .view (ints l)
def int(n:Int):AV:=.int .i64 n
def bc.of_eq{Pr eC:Nat->Nat->Prop}{w w':World}(h:∀b k,Pr b k->eC b k/\w'.heap[b]?=w.heap[b]?):bc Pr eC w w':={
 cell b k hp u hu:=⟨(h b k hp).1,by rw[aes (w:=w) (h b k hp).2];exact hu⟩
 map b hp es c hm:=⟨(h b 0 hp).1,by rw[(h b 0 hp).2];exact hm⟩ }
def RV.fq{Pr:Nat->Nat->Prop}{al:Nat->Option Nat}{w:World}{b:Bool}{c:Value}(h:RV Pr al w (.bool b) c):c=.bool b:=by
 cases h;rename_i h;cases h;rfl
def RV.int_eq{Pr:Nat->Nat->Prop}{al:Nat->Option Nat}{w:World}{k:IntKind}{n:Int}{c:Value}(h:RV Pr al w (.int k n) c):c=.int k n:=by
 cases h;rename_i h;cases h;rfl
def RV.fY{Pr:Nat->Nat->Prop}{al:Nat->Option Nat}{w:World}{v c:Value}(h:RV Pr al w (.val v) c):c=v:=by
 cases h;rename_i h;cases h;rfl
def ia{P:Program}{ro:Option Nat}{m:Nat}{c:Code}{Q:Exit->Act->World->Prop}{a:Act}{w:World}(A:Act->Prop)(ha:A a)(h:∀a,A a->c.wpIn (FR ro) m P Q a w):c.wpIn (FR ro) m P Q a w:=h a ha
def sX {P:Program} {a:Act} {w:World} {ro:Option Nat} {m:Nat} {Q:Exit→Act→World→Prop} {ops:Array Oper} {i:Nat} {rest:List Nat} {o:Oper} (ho:ops[i]? = some o) (hg:o.guard=none) (dF:eB o.op=true) {f:Nat} {args:Array Value} {w':World}
    (hr:(execOp a.eval o).run P w=.ok (.enter f args) w') {R:Ending->World->Prop} (hc:Calls P f args w' R)
    (hk:∀e iV,R e iV->match e with|.returned v=>wpOpsIn (FR ro) m P ops Q rest (a.put o.dst v) iV|.panicked ch=>Q (.panic ch) a iV|.outgrown=>False):wpOpsIn (FR ro) m P ops Q (i::rest) a w:=by
  simp only[wpOpsIn,ho]
  have:Region.wanted o (yielded ops a.tmps)=true:=by simp[Region.wanted,hg]
  rw[if_pos this];refine⟨λ_ _=>trivial,?_⟩;rw[adW _ _ _ (λc hc=>by rw[hc]at dF;cases dF),hr];refine⟨λh=>by simp[FR,Fence.wide]at h,ig.2 (hc.mono λe iV hh=>?_)⟩;have:=hk e iV hh
  cases e with
  |returned v=>exact this
  |panicked ch=>exact this
  |outgrown=>exact this.elim
def zr {P:Program} {a:Act} {w:World} {m:Nat} {Q:Exit→Act→World→Prop} {ops:Array Oper} {i:Nat} {rest:List Nat} {o:Oper} (ho:ops[i]? = some o) (hg:o.guard=none) {d:Deferred} {w':World}
    (hr:(execOp a.eval o).run P w=.ok (.defer d) w') (hk:wpOpsIn (FR none) m P ops Q rest ({ a with defers:=d::a.defers }.put o.dst undef) w'):wpOpsIn (FR none) m P ops Q (i::rest) a w:=by
  simp only[wpOpsIn,ho]
  have:Region.wanted o (yielded ops a.tmps)=true:=by simp[Region.wanted,hg]
  rw[if_pos this];refine⟨λ_ _=>trivial,?_⟩;show Oper.uponIn _ _ _ _ _ _ _ ((Oper.semAt none a.eval o).run P w);rw[Oper.semAt_none,hr];exact hk
section
variable{P:Program}{GI:World->Prop}{n:Nat}{ro:Option Nat}{old:Old}{S:an}{H:aq}{Q:ij}
def SW.cut (hG:aw GI) (hm:P.follows .mixedOrders=true) {x y:Code} (hc:iB x=true) {ac:af} (lD:cC P n x=ac) (cg:∀ d∈ac.names,¬ old.bx d) (K:an→aq→Prop) (h:bL P GI ac (aO K) S H)
  (hy:∀S' H',K S' H'->SW P GI n ro y Q old S' H'):SW P GI n ro (.seq x y) Q old S H:=by
 subst lD;intro w0 g a w m cj ho R;refine acO (aeA (iu hG cj hm x (aO K) g S H a w hc cg ho R h) ?_);intro e a' w' hq
 cases e with
 |normal=>
  obtain⟨g',S',H',h1,h2,h3⟩:=hq;exact hy S' H' h3 w0 g' a' w' m cj h1 h2
 |exit id=>obtain⟨_,_,_,_,_,h⟩:=hq;exact h.elim
 |ret=>obtain⟨_,_,_,_,_,h⟩:=hq;exact h.elim
 |panic ch=>obtain⟨_,_,_,_,_,_,_,_,_,_,h⟩:=hq;exact h.elim
 |goto l=>exact hq.elim
 |outgrown=>exact hq.elim
end
section
variable{P:Program}{GI:World->Prop}{n:Nat}{ro:Option Nat}{old:Old}{S:an}{H:aq}{Q:ij}{b:Frame}{a:Act}{k:List Item}{cs:List Frame}{w:World}
def FX{c:Code}:step P (lone (b.atR a (.code (.scope c)::k)) cs w)=.next (lone (b.atR a (.code c::.inScope c::k)) cs w):=
 step_lone_go (by simp[stepG,stepG.exec,Frame.atR])
def BX{c:Code}:step P (lone (b.atR a (.inScope c::k)) cs w)=.next (lone (b.atR a k) cs w):=
 step_lone_go (by simp[stepG,stepG.exec,Frame.atR])
def SW.scope{c:Code}(h:SW P GI n ro c Q old S H):SW P GI n ro (.scope c) Q old S H:=by
 intro w0 g a w m hG ho R b k cs uc hF hr;obtain⟨e,i_,kF,hq,gu⟩:=h w0 g a w m hG ho R b (.inScope c::k) cs uc hF hr
 have s1:StepsIn (Machine.fenced P (FR ro)) P (lone (b.atR a (.code (.scope c)::k)) cs w) (lone (b.atR a (.code c::.inScope c::k)) cs w):=
  .one (ae1 (F:=FR ro) (fr:=b.atR a (.code (.scope c)::k)) trivial hr rfl) FX
 have ex:∀id,exitTo id (.inScope c::k)=exitTo id k:=λid=>by simp[exitTo]
 refine⟨e,i_,kF,hq,.of_steps s1 ?_⟩
 cases e with
 |normal=>exact afN gu (.one (ae1 (F:=FR ro) (fr:=b.atR i_ (.inScope c::k)) trivial hr rfl) BX)
 |exit id=>exact⟨λk' hk=>gu.1 k' (by rw[ex];exact hk),λhh hk=>gu.2 hh (by rw[ex];exact hk)⟩
 |goto l=>exact hq.elim
 |ret=>exact gu
 |panic ch=>exact gu
 |outgrown=>exact hq.elim
def SW.label{l:Nat}(h:Q .normal old S H):SW P GI n ro (.label l) Q old S H:=
 λ_ g _ _ _ _ ho R=>wpIn_label ⟨g,S,H,R,by rw[ho];exact h⟩
end
section
def jr {P:Program} {a:Act} {o:Oper} {cl:Call} {k:Nat} {args:Array Value} (w:World) (ho:o.op = .call cl) (hc:cl.callee = .value (.func k)) (ha:cl.args.map a.eval=args) (hk:ef P k=true) :
  (execOp a.eval o).run P w=.ok (.enter k args) w:=by
 unfold execOp;simp only[ho,eP hc,show a.eval (.func k)=.func (.func k) #[] #[]from rfl,Deferred.ofValue,acK,Sem.run_pure,Result.andThen_ok,invoke,agt,agu,ha];rw[fG hk]
def bJ(a:Act)(d t:Nat)(c:Value)(hd:d<a.tmps.size):(a.put (some d) c).eval (.tmp t)=if t=d then c else a.eval (.tmp t):=ir a d t c hd
def lg(a:Act)(d:Option Nat)(c:Value):(a.put d c).tmps.size=a.tmps.size:=by cases d<;>simp[Act.put]
end
end Go.AL
namespace Go.AL
open Go.RowKit
section
variable{P:Program}{GI:World->Prop}{n:Nat}{a:Act}{w w0:World}{m:Nat}{Q:Exit->Act->World->Prop}{g:Gh}{S:an}{H:aq}{ro:Option Nat}
def jl (R:Rel P w0 n bz g S H a w) (hG:aw GI) (cj:GI w0) (hm:P.follows .mixedOrders=true) {id:Nat} {ops:Array Oper} {draw:Bool} (hc:iB (.region id ops draw)=true) {ac:af} (lD:cC P n (.region id ops draw)=ac) {W:Nat→Bool} (hW:jq ops W=true)
  (cg:∀d,¬g.old.bx d) {K:an->aq->Prop} (h:bL P GI ac (aO K) S H)
  (hk:∀g' S' H' a' w',g'.old=g.old->Rel P w0 n bz g' S' H' a' w'->K S' H'->dZ W a a'->Q .normal a' w'):(Code.region id ops draw).wpIn (FR ro) m P Q a w:=by
 subst lD
 have fin:∀e a' w',yj W a (QQ P w0 n g.old (aO K)) e a' w'->Q e a' w':=by
  intro e a' w' hq
  cases e with
  |normal=>
   obtain⟨⟨g',S',H',h1,h2,h3⟩,h4⟩:=hq;exact hk g' S' H' a' w' h1 h2 h3 h4
  |exit id=>obtain⟨_,_,_,_,_,h⟩:=hq;exact h.elim
  |ret=>obtain⟨_,_,_,_,_,h⟩:=hq;exact h.elim
  |panic ch=>obtain⟨_,_,_,_,_,_,_,_,_,_,h⟩:=hq;exact h.elim
  |goto l=>exact hq.elim
  |outgrown=>exact hq.elim
 simp only[cC]at h
 cases draw with
 |true=>
  simp only[ac3]at h;split at h
  case isFalse=>exact h.elim
  rename_i b_;exact aex hm (fF fin _ _ _ _ (iA hW _ _ _ _ (mq hG cj hm hc b_ (λ_ _ _ _=>cg _) rfl R h)))
 |false=>
  simp only[acI,acW]at h;split at h
  case isFalse=>exact h.elim
  rename_i b_;exact ac6 (fH fin _ _ _ (iG hW _ _ _ (pS hG cj hc b_ (λ_ _ _ _=>cg _) rfl R h)))
def kK{o:Oper}{t:TypeId}{z:Value}(ho:o.op=.alloc t)(hz:(P.info? t).bind (·.zero)=some z):(execOp a.eval o).run P w=.ok (.value (.pointer (some ⟨w.heap.size,0,none⟩))) (w.alloc (.cells z.cells t)):=by
 obtain⟨it,h1,h2⟩:=adZ.1 hz;unfold execOp;simp[ho,Instr.alloc,zeroValue,typeInfo,h1,h2,newVar,newRow]
def nA{o:Oper}{fn:Fn}{c:Array Operand}(ho:o.op=.makeFunc fn #[] c):(execOp a.eval o).run P w=.ok (.value (.func fn #[] (c.map a.eval))) w:=by
 simp[execOp,ho,Instr.makeFunc]
end
section
variable{P:Program}{GI:World->Prop}{n:Nat}{ro:Option Nat}{old:Old}{S:an}{H:aq}{Q:ij}{a:Act}{w:World}
def run_makeMap{o:Oper}{t:TypeId}(ho:o.op=.makeMap t none):(execOp a.eval o).run P w=.ok (.value (.map (some w.heap.size))) (w.alloc (.map #[] 0)):=by
 unfold execOp;simp[ho,Instr.makeMap,run_newObj_alloc]
def J8 {o:Oper} {t kt el:TypeId} {fs:Array Field} {k:Nat} {x1 x2 x3:Operand} {b clock:Nat} {es:Array MapEntry} {key:List Int} {val:Value} {ks vs:List AV} {Pr:Nat→Nat→Prop} (ho:o.op = .mapUpdate t x1 x2 x3)
  (ep:P.underlying t=some (.map kt el)) (hu:P.underlying kt=some (.struct fs)) (hk:lR P 10000 kt=some k) (h1:a.eval x1=.map (some b)) (h2:a.eval x2=.agg (fX key)) (h3:a.eval x3=val)
  (hb:w.heap[b]?=some (.map es clock)) (hl:key.length=k) (jB:ks.length=es.size) (OD:vs.length=es.size) (X8:∀i (h:i<ks.length)(h':i<es.size),RD Pr w ks[i] (es[i]).key) (n_:∀i (h:i<vs.length)(h':i<es.size),RD Pr w vs[i] (es[i]).val)
  (gX:mO key ks vs=some none):(execOp a.eval o).run P w=.ok .skip (w.putObj b (.map (es.push { key:=.agg (fX key),val:=val,born:=clock }) (clock+1))):=by
 have uP:(match P.underlying kt with|some (.array _ _)|some (.struct _)=>true|_=>false)=true:=by rw[hu]
 have wh:=sy (P:=P) (w:=w) false 10000 kt k hk key hl;simp only[nV,hu]at wh;obtain⟨q,q1,q2⟩:=kJ (w:=w) (Pr:=Pr) hu hk key hl ks vs es.toList 0 none (by simpa using jB) (by simpa using OD) (λj h h'=>by simpa using X8 j h (by simpa using h')) (λj h h'=>by simpa using n_ j h (by simpa using h')) gX
 have hq:q=none:=by cases q with|none=>rfl|some p=>exact q2.elim
 subst hq;have uA:=(run_findKey_eq (P:=P) (w:=w) uP (.agg (fX key)) es.toList).trans q1;unfold execOp;simp only[ho,h1,h2,h3,Instr.mapUpdate,acK,acR ep,Result.andThen_ok,ae0 hb,wh,uA,af7 _ hb]
 rfl
end
section
variable{P:Program}{GI:World->Prop}{n m:Nat}{a:Act}{w w0:World}{Q:Exit->Act->World->Prop}{g:Gh}{S:an}{H:aq}{ro:Option Nat}
def Ae {o:Oper} {s el:TypeId} {len:Nat} {i:TypeInfo} {x1 x2:Operand} {b off k:Nat} (ho:o.op = .indexAddr s x1 x2) (hs:P.underlying s=some (.array len el)) (hi:P.info? el=some i)
  (h1:a.eval x1=.pointer (some ⟨b,off,none⟩)) (h2:a.eval x2=.int .i64 k) (hk:k<len):(execOp a.eval o).run P w=.ok (.value (.pointer (some ⟨b,off+k*i.size,none⟩))) w:=by
 have Bz:(0:Int)<=k:=by omega
 have jB:(k:Int)<len:=by omega
 simp[execOp,ho,h1,h2,Instr.indexAt,asIntOf,acR hs,Bz,jB,sizeOf,typeInfo,hi,adt,hk,Instr.sureAddr]
def jn {o:Oper} {t:TypeId} {d:TypeDesc} {x:Operand} {b off:Nat} {v:Value} {vs:Array Value} {ty:TypeId} (ho:o.op = .load t x) (hx:a.eval x = .pointer (some ⟨b,off,none⟩)) (hd:P.underlying t=some d) (Al:eh d=false) (hb:w.heap[b]? = some (.cells vs ty (0,0))) (hv:vs[off]? = some v) :
  (execOp a.eval o).run P w=.ok (.value v) w:=by
 refine kS ho hx hd Al ?_;simp[World.cell?,hb,hv]
def AI.aR{ops:Array Oper}{a0:Act}{val:Nat->Value}{l:Array Bool}(h:AI ops n a0 val l a){t:Nat}(ht:ops.all (λo=>o.dst !=some t)=true):a.tmps.getD t undef=a0.tmps.getD t undef:=
 h.old t λi o ho hd=>by
  have:=ads.1 ht o (adz ho);simp[hd]at this
def AI.at{ops:Array Oper}{a0:Act}{val:Nat->Value}{l:Array Bool}(h:AI ops n a0 val l a)(i t:Nat)(ho:∃o,ops[i]?=some o/\o.dst=some t)(hl:l.getD i false=true):a.tmps.getD t undef=val t:=by
 obtain⟨o,h1,h2⟩:=ho;exact h.Uj i o t h1 h2 hl
end
section
variable{P:Program}{GI:World->Prop}{n m:Nat}{a:Act}{w w0:World}{Q:Exit->Act->World->Prop}{g:Gh}{S:an}{H:aq}{ro:Option Nat}
def zf{κ:Type}[BEq κ][LawfulBEq κ]{k:κ}:∀{l:List (κ×Value)}{i:Nat},(∀x∈l,x.1≠k)->mK k l i=none
 |[],_,_=>rfl
 |(k',v)::l,i,h=>by
  have h1:k'≠k:=h (k',v) (by simp);unfold mK;rw[if_neg (by simpa using adi h1)]
  exact zf λx hx=>h x (acH _ hx)
end
section
variable{P:Program}{GI:World->Prop}{n m:Nat}{a:Act}{w:World}{Q:Exit->Act->World->Prop}{S:an}{ro:Option Nat}
end
section
variable{P:Program}{n m:Nat}{a:Act}{w:World}{Q:Exit->Act->World->Prop}{ro:Option Nat}
def AB(P:Program)(t j:Nat):Option (Nat×Nat):=match P.underlying t with
 |some (.struct fs)=>match fs[j]? with
  |some f=>match P.info? f.type with
   |some i=>some (f.offset,i.size)
   |none=>none
  |none=>none
 |_=>none
def nI{o:Oper}{s j PL sz:Nat}{x:Operand}{b off:Nat}(h:AB P s j=some (PL,sz))(hz:sz≠0)(ho:o.op=.fieldAddr s x j)(hx:a.eval x=.pointer (some ⟨b,off,none⟩)):(execOp a.eval o).run P w=.ok (.value (.pointer (some ⟨b,off+PL,none⟩))) w:=by
 unfold AB at h;split at h
 .rename_i fs gv;split at h
  .rename_i f hf;split at h
   .rename_i i hi;simp only[ac0,aeW]at h;obtain⟨rfl,rfl⟩:=h;exact rU ho gv hf hi hz hx
   .cases h
  .cases h
 .cases h
end
section
variable{P:Program}{GI:World->Prop}{n m:Nat}{a:Act}{w:World}{Q:Exit->Act->World->Prop}{ro:Option Nat}
def I2(o:Oper):List Nat:=(o.after.toList.filter (Region.binds .any ·)).map (·.on)
def SE(ops:Array Oper):Nat->List Nat->List Nat
 |0,s=>s
 |k+1,s=>SE ops k (if s.contains k then s++((ops[k]?).map I2).getD []else s)
section
variable{ops:Array Oper}{p:Nat}{la l:Array Bool}(hp:p<=ops.size)
 (hw:∀i o,ops[i]?=some o->if i<p then∀e∈o.after,Region.binds .any e=true->e.on<i else∀j,j<p->j∈SE ops i (I2 o))
include hp hw
end
end
def RO{α:Type}(P:Program)(x:Sem α):Prop:=∀w r w',x.run P w=.ok r w'->w'=w
def NK{α:Type}(P:Program)(x:Sem α):Prop:=∀w r w',x.run P w≠.ok r w'
section
variable{P:Program}{α β:Type}
def RO.pure(a:α):RO P (Pure.pure a:Sem α):=λw r w' h=>by
 have:(Pure.pure a:Sem α).run P w=.ok a w:=rfl;rw[this]at h;cases h;rfl
def RO.bind{x:Sem α}{f:α->Sem β}(hx:RO P x)(hf:∀a,RO P (f a)):RO P (x >>= f):=λw r w' h=>by
 rw[acK]at h
 cases hr:x.run P w with
 |ok a w1=>
  rw[hr]at h;have h1:=hf a w1 r w' h;rw[h1,hx w a w1 hr]
 |halt e w1=>rw[hr]at h;cases h
def NK.ro{x:Sem α}(h:NK P x):RO P x:=λw r w' hh=>absurd hh (h w r w')
def NK.bind{x:Sem α}{f:α->Sem β}(hf:∀a,NK P (f a)):NK P (x >>= f):=λw r w' h=>by
 rw[acK]at h
 cases hr:x.run P w with
 |ok a w1=>rw[hr]at h;exact hf a w1 r w' h
 |halt e w1=>rw[hr]at h;cases h
def NK.Za{x:Sem α}{f:α->Sem β}(hx:NK P x):NK P (x >>= f):=λw r w' h=>by
 rw[acK]at h
 cases hr:x.run P w with
 |ok a w1=>exact hx w a w1 hr
 |halt e w1=>rw[hr]at h;cases h
def NK.halt(e:Halt):NK P (.halt e:Sem α):=λw r w' h=>by cases h
def RO.load(m:Mode)(a:Addr):RO P (.load m a .pure):=λw r w' h=>by
 simp only[Sem.run]at h;split at h
 .cases h;rfl
 .split at h
  .cases h;rfl
  .cases h
def RO.underlying(t:TypeId):RO P (Go.underlying t):=λw r w' h=>by
 simp only[Go.underlying,program]at h;rw[acK]at h;simp only[Sem.run,Result.andThen]at h;split at h
 .cases h;rfl
 .cases h
def RO.typeInfo(t:TypeId):RO P (Go.typeInfo t):=λw r w' h=>by
 simp only[Go.typeInfo,program]at h;rw[acK]at h;simp only[Sem.run,Result.andThen]at h;split at h
 .cases h;rfl
 .cases h
def RO.sizeOf(t:TypeId):RO P (Go.sizeOf t):=(RO.typeInfo t).bind λ_=>RO.pure _
def RO.isAgg(t:TypeId):RO P (Go.isAgg t):=(RO.underlying t).bind λd=>by split<;>exact RO.pure _
def RO.loadCellsFrom(a:Addr):∀(n i:Nat)(acc:Array Value),RO P (Go.loadCellsFrom a i n acc)
 |0,_,_=>RO.pure _
 |n+1,i,acc=>(RO.load _ _).bind λ_=>RO.loadCellsFrom a n _ _
def RO.loadVar(t:TypeId)(a:Addr):RO P (Go.loadVar t a):=by
 unfold Go.loadVar
 refine(RO.isAgg t).bind λb=>?_
 cases b
 .exact RO.load _ _
 .exact(RO.sizeOf t).bind λn=>(RO.loadCellsFrom a n 0 #[]).bind λ_=>RO.pure _
def RO.sureAddr(v:Value):RO P (Instr.sureAddr v):=by
 unfold Instr.sureAddr;split
 .exact RO.pure _
 .exact(NK.halt _).ro
def RO.loadAt(t:TypeId)(v:Value):RO P (Instr.loadAt t v):=(RO.sureAddr v).bind λa=>RO.loadVar t a
def RO.asIntOf(v:Value):RO P (Go.asIntOf v):=by
 unfold Go.asIntOf;split
 .exact RO.pure _
 .exact(NK.halt _).ro
 .exact(NK.halt _).ro
def NK.bounds(k:IntKind)(x y:Int)(c:BoundsCode):NK P (boundsPanic k x y c:Sem α):=by
 have h:∀s:Bool,NK P (runtimePanic (.bounds (IntKind.i64.wrap x) y s c):Sem α):=λs=>NK.bind λp=>NK.halt _
 unfold boundsPanic;dsimp only;split
 .exact NK.bind h
 .exact NK.bind h
def RO.indexAt(t:TypeId)(x ix:Value):RO P (Instr.indexAt t x ix):=by
 have key:∀ (k:IntKind) (i:Int) (b:Option Addr) (len:Nat) (elem:TypeId),RO P (do
   let d<-Go.underlying t
   let Z2:Bool:=decide (len<=1)&&(match d with|.array ..=>true|_=>false)
   match b with
   |some a=>
    if 0<=i/\i<(len:Int)then do
     let sz<-Go.sizeOf elem
     Pure.pure (Value.pointer (some (a.add (i.toNat*sz))))
    else if Z2=true then unsupported (Unsupported.noEntry "op/indexAddr.an index out of range at an array of length 0 or 1 (ledger 616)")
    else boundsPanic k i len BoundsCode.index
   |none=>boundsPanic k i 0 BoundsCode.index):=by
  intro k i b len elem
  refine(RO.underlying t).bind λd=>?_
  cases b with
  |some a=>
   simp only;split
   .exact(RO.sizeOf _).bind λ_=>RO.pure _
   .generalize(decide (len<=1)&&_)=tn;cases tn
    .exact(NK.bounds _ _ _ _).ro
    .exact(NK.halt _).ro
  |none=>exact(NK.bounds _ _ _ _).ro
 unfold Instr.indexAt
 refine(RO.asIntOf ix).bind λ⟨k,i⟩=>?_
 refine(RO.underlying t).bind λd=>?_
 dsimp only;split
 .exact(RO.sureAddr _).bind λ_=>(RO.pure _).bind λ⟨base,len,elem⟩=>key k i base len elem
 .exact(RO.pure _).bind λ⟨base,len,elem⟩=>key k i base len elem
 .exact(NK.Za (NK.halt _)).ro
def Zb{ρ:Operand->Value}{o:Oper}(h:match o.op with|.move _|.assign _|.load ..|.indexAddr ..=>true|_=>false):RO P (execOp ρ o):=by
 unfold execOp
 split at h<;>try cases h
 .rename_i x e;simp only[e];exact RO.pure _
 .rename_i x e;simp only[e];exact RO.pure _
 .rename_i t x e;simp only[e];exact(RO.loadAt _ _).bind λ_=>RO.pure _
 .rename_i t x ix e;simp only[e];exact(RO.indexAt _ _ _).bind λ_=>RO.pure _
def pN{ρ:Operand->Value}{o:Oper}(h:match o.op with|.move _|.assign _|.load ..|.indexAddr ..=>true|_=>false){w w':World}{x:Next}(hr:(execOp ρ o).run P w=.ok x w'):w'=w/\∃v,x=.value v:=by
 refine⟨Zb h w x w' hr,?_⟩
 have key:∀(s:Sem Value),(do let v<-s;pure (Next.value v):Sem Next).run P w=.ok x w'->∃v,x=.value v:=λs hs=>by
  rw[acK]at hs
  cases hq:s.run P w with
  |ok a w1=>rw[hq]at hs;cases hs;exact⟨_,rfl⟩
  |halt e w1=>rw[hq]at hs;cases hs
 unfold execOp at hr
 split at h<;>try cases h
 .rename_i x e;simp only[e]at hr;cases hr;exact⟨_,rfl⟩
 .rename_i x e;simp only[e]at hr;cases hr;exact⟨_,rfl⟩
 .rename_i t x e;simp only[e]at hr;exact key _ hr
 .rename_i t x ix e;simp only[e]at hr;exact key _ hr
end
section
variable{P:Program}{ops ops':Array Oper}{Q:Exit->Act->World->Prop}{m:Nat}
structure BB(ops ops':Array Oper):Prop where
 size:ops'.size=ops.size
 each:∀(i:Nat)(o:Oper),ops[i]?=some o->∃o',ops'[i]?=some o'/\o'.dst=o.dst/\o'.after=o.after/\o'.guard=none/\o.guard=none
def BB.ready(h:BB ops ops')(l:Array Bool):Region.ready .any ops' l=Region.ready .any ops l:=by
 unfold Region.ready;rw[h.size]
 refine List.filter_congr λi hi=>?_
 have hi:=acY.1 hi;obtain⟨o',lQ,_,ha,_⟩:=h.each i _ (acP hi);rw[lQ,acP hi];simp only[Option.map_some,Option.getD_some,ha]
def C' (bj:BB ops ops') (I:Array Bool→Act→World→Prop)
  (jh:∀(i:Nat)(o o':Oper)(l:Array Bool)(a:Act)(w:World),ops[i]?=some o->ops'[i]?=some o'->l.size=ops.size->l.getD i true=false->I l a w->(∀e∈o.after,Region.binds .any e=true->l.getD e.on false=true)->
   (o.semAt none a.eval).run P w=(o'.semAt none a.eval).run P w/\((∀a' w',I (l.setIfInBounds i true) a' w')\/
    ∀x w',(o.semAt none a.eval).run P w=.ok x w'->∃v,x=.value v/\I (l.setIfInBounds i true) (a.put o.dst v) w')):
  ∀(fuel:Nat)(l:Array Bool)(a:Act)(w:World),l.size=ops.size->I l a w->wpAnyIn (FR none) m P .any ops' Q fuel l a w->wpAnyIn (FR none) m P .any ops Q fuel l a w:=by
 intro fuel
 induction fuel with
 |zero=>
  intro l a w _ _ h;exact⟨(bj.ready l)▸h.1,h.2⟩
 |succ fuel ih=>
  intro l a w hl hI h;refine⟨λhr=>h.1 (by rw[bj.ready];exact hr),λi hi=>?_⟩;have h1:=h.2 i (by rw[bj.ready];exact hi);obtain⟨ep,o,ho,e_⟩:=aeD.1 hi;obtain⟨o',lQ,hd,ha,C7,hg⟩:=bj.each i o ho;obtain⟨he,hx⟩:=jh i o o' l a w ho lQ hl ep hI e_
  have nJ:(l.setIfInBounds i true).size=ops.size:=by simpa using hl
  have hw:Region.wanted o (yielded ops a.tmps)=true:=by simp[Region.wanted,hg]
  have TV:Region.wanted o' (yielded ops' a.tmps)=true:=by simp[Region.wanted,C7]
  simp only[wpOpIn,lQ,TV,ac3]at h1;simp only[wpOpIn,ho,hw,ac3]
  have hu:∀K r,o'.uponIn (FR none) m P a K Q r=o.uponIn (FR none) m P a K Q r:=λK r=>by unfold Oper.uponIn;rw[hd]
  have h2:o.wpIn (FR none) m P a w (wpAnyIn (FR none) m P .any ops' Q fuel (l.setIfInBounds i true)) Q:=by
   refine⟨λ_ _=>trivial,?_⟩;have h3:=h1.2;rw[hu]at h3
   change o.uponIn (FR none) m P a _ Q ((o'.semAt none a.eval).run P w)at h3
   change o.uponIn (FR none) m P a _ Q ((o.semAt none a.eval).run P w)
   rw[he];exact h3
  rcases hx with hx|hx
  .exact afp (λa' w' hh=>ih _ _ _ nJ (hx a' w') hh) h2
  .refine⟨h2.1,?_⟩;have h3:=h2.2
   change o.uponIn (FR none) m P a _ Q ((o.semAt none a.eval).run P w)at h3
   change o.uponIn (FR none) m P a _ Q ((o.semAt none a.eval).run P w)
   cases hr:(o.semAt none a.eval).run P w with
   |ok x w'=>
    rw[hr]at h3;obtain⟨v,rfl,hv⟩:=hx x w' hr;simp only[Oper.uponIn_value]at h3⊢;exact ih _ _ _ nJ hv h3
   |halt x w'=>
    rw[hr]at h3
    cases x<;>exact h3
def vK(h:Nat->Op->Op)(ops:Array Oper):Array Oper:=ops.mapIdx λi o=>{ o with op:=h i o.op }
def zp(h:Nat->Op->Op)(i:Nat):(vK h ops)[i]?=(ops[i]?).map λo=>{ o with op:=h i o.op }:=by
 simp[vK]
def Gq(h:Nat->Op->Op)(hg:ops.all (λo=>o.guard.isNone)=true):BB ops (vK h ops):=by
 refine⟨by simp[vK],λi o ho=>⟨{ o with op:=h i o.op },by rw[zp,ho];rfl,rfl,rfl,?_,?_⟩⟩
 all_goals
  have:=ads.1 hg o (adz ho);simpa using this
end
section
variable{P:Program}{GI:World->Prop}{n:Nat}{ops ops':Array Oper}{S:an}{H:aq}
def SW.Wm (hG:aw GI) (hm:P.follows .mixedOrders=true) {old:Old} {Q:ij} {id:Nat} (bj:BB ops ops') (dF:ops'.all (fun o=>eB o.op)=true) (b_:VQ P n ops' ops'.size ops'.size (List.range ops'.size)=true)
  {l:List bB} (hl:br P n true ops'=l)
  (hI:∀(w0:World)(g:Gh)(a:Act)(w:World),g.old=old->Rel P w0 n bz g S H a w->∃I:Array Bool->Act->World->Prop,I (Array.replicate ops.size false) a { w with drawn:=w.drawn+1 }/\
   ∀(i:Nat)(o o':Oper)(l:Array Bool)(a:Act)(w:World),ops[i]?=some o->ops'[i]?=some o'->l.size=ops.size->l.getD i true=false->I l a w->(∀e∈o.after,Region.binds .any e=true->l.getD e.on false=true)->
    (o.semAt none a.eval).run P w=(o'.semAt none a.eval).run P w/\((∀a' w',I (l.setIfInBounds i true) a' w')\/
     ∀x w',(o.semAt none a.eval).run P w=.ok x w'->∃v,x=.value v/\I (l.setIfInBounds i true) (a.put o.dst v) w'))
  (h:cq P GI l (λS H=>Q .normal old S H) S H):SW P GI n none (.region id ops true) Q old S H:=by
 subst hl;intro w0 g a w m cj ho R;simp only[VQ,acA,acJ]at b_;obtain⟨⟨⟨⟨q1,q2⟩,q3⟩,q4⟩,q5⟩:=b_
 have gX:∀j o d z,jZ P n ops' j=some o->bt o=some (d,z)->False:=λj o d z hj hz=>by
  rw[<-ft]at hj;have:=acN.1 q3 o (adR hj);unfold bt at hz;split at hz
  .rename_i h _;rw[h]at this;cases this
  .cases hz
 have R0:Rel P w0 n bz g S H a { w with drawn:=w.drawn+1 }:=R.jR ((adA _ w).drew)
 have hU:UU P n ops' (Array.replicate ops'.size false)=bz:=by
  funext t
  simp only[UU,bz,afn,iff_false];rintro⟨j,o,z,k1,k2,_⟩;exact gX j o t z k1 k2
 obtain⟨I,i0,jh⟩:=hI w0 g a w ho R;refine aex hm (C' bj I jh ops.size _ a _ (by simp) i0 ?_);rw[<-bj.size];refine fF (Q:=QQ P w0 n old (Q.bL old)) (λ_ _ _ hq=>EK hq) _ _ _ _ (xY dF qH _ _ _ _ (GO (Q:=Q.bL old) (old:=old) hG cj q2 (λo kT=>?_) ops'.size (Array.replicate ops'.size false) g S H a _ (by simp) ho (by rw[hU];exact R0) (λj o d z k1 k2 k3=>(gX j o d z k1 k2).elim) ?_))
 .simp only[br,aeu,acN,Function.comp]at q1;exact q1 o (by simpa using kT)
 .have:=CA (P:=P) (GI:=GI) (n:=n) (md:=.any) (ops:=ops') (QA:=Q.bL old .normal) (p:=ops'.size) (q:=ops'.size) (List.range ops'.size) (Array.replicate ops'.size false) S H q5 ?_
  .rw[q4]at this;exact this
  .have:=AM (P:=P) (GI:=GI) (al:=br P n true ops') (p:=ops'.size) (q:=ops'.size) (K:=Q.bL old .normal) (r:=[]) (List.range ops'.size) (br P n true ops') (by
    apply adP;intro k
    by_cases hk:k<ops'.size
    .simp[hk,br]
    .simp[hk,br]) (λk hk=>by have:=acY.1 hk;omega) (S:=S) (H:=H) (sD (λS H h=>h) _ _ _ h)
   simpa using this
end
def Dj:AV->Value
 |.bool b=>.bool b
 |.int k n=>.int k n
 |_=>undef
def NG:AV->Bool
 |.bool _|.int _ _=>true
 |_=>false
def RD.GW{Pr:Nat->Nat->Prop}{w:World}{v:AV}{c:Value}(h:RD Pr w v c)(hv:NG v=true):c=Dj v:=by
 cases h<;>first|rfl|cases hv
def RD.aaR{Pr:Nat->Nat->Prop}{w:World}{v:AV}(hv:NG v=true):RD Pr w v (Dj v):=by
 cases v<;>first|exact .bool _|exact .int _ _|cases hv
def Ei{v:AV}(hv:NG v=true):v.one=true:=by cases v<;>first|rfl|cases hv
def ml(es:List AV):List Value:=(es.flatMap AV.cells).map Dj
def iO(size:Nat)(es:List AV):Prop:=∀x∈es,x.storable=true/\x.cells.length=size/\∀c∈x.cells,NG c=true
def iO.elems{size:Nat}{es:List AV}(h:iO size es):aJ size es=true:=mf.2 λv hv=>⟨(h v hv).1,(h v hv).2.1⟩
def tQ{size:Nat}:∀{es:List AV},iO size es->(es.flatMap AV.cells).length=es.length*size
 |[],_=>by simp
 |x::es,h=>by
  rw[ad4,acV,tQ λy hy=>h y (acH _ hy),(h x acS).2.1,List.length_cons,aec];omega
def mM{size:Nat}{es:List AV}(h:iO size es):(ml es).length=es.length*size:=by
 rw[ml,acC,tQ h]
def Pj(es fs:List AV):ml (es++fs)=ml es++ml fs:=by simp[ml]
def flat_get{size:Nat}:∀{es:List AV},iO size es->∀j (h:j<es.length) k (hk:k<(es[j]).cells.length),(es.flatMap AV.cells)[j*size+k]?=some (es[j]).cells[k]
 |[],_,_,h,_,_=>by simp at h
 |x::es,ho,0,h,k,hk=>by
  rw[ad4,agw,ac_];exact(adB hk).trans (acx hk)
 |x::es,ho,j+1,h,k,hk=>by
  have hx:=(ho x acS).2.1;rw[ad4,adN (by rw[hx,aec];omega),hx,show(j+1)*size+k-size=j*size+k by rw[aec];omega];exact flat_get (λy hy=>ho y (acH _ hy)) j (by simpa using h) k hk
def mQ{size:Nat}{es:List AV}(ho:iO size es){j:Nat}(h:j<es.length){k:Nat}(hk:k<(es[j]).cells.length):(ml es)[j*size+k]?=some (Dj (es[j]).cells[k]):=by
 rw[ml,ac1,flat_get ho j h k hk];rfl
def iO.flat{size:Nat}{es:List AV}(ho:iO size es)(Pr:Nat->Nat->Prop)(w:World):iQ Pr w size es (ml es):=
 ⟨λx hx=>⟨(ho x hx).2.1,(ho x hx).1,λc hc=>Ei ((ho x hx).2.2 c hc)⟩,λj h k hk=>⟨_,mQ ho h hk,RD.aaR ((ho _ (acy h)).2.2 _ (acy hk))⟩⟩
def iO.app{size:Nat}{es fs:List AV}(h:iO size es)(h':iO size fs):iO size (es++fs):=λx hx=>by
 rcases acF.1 hx with hx|hx
 .exact h x hx
 .exact h' x hx
structure KO(cc:Nat->Nat->Prop)(e:TypeId)(size:Nat)(es:List AV)(o:Old)(v:Value):Prop where
 c:o.c=cc
 ds:o.ds=[]
 bx:∀d,¬o.bx d
 ok:iO size es
 row:((∃a0,v=.slice a0 0 0)/\es=[])\/∃b cap cur,v=.slice (some ⟨b,0,none⟩) es.length cap/\o.aR b=some (.cells cur e (0,0))/\es.length<=cap/\cap<=maxLen/\cur.size=cap*size/\cur.toList.take (es.length*size)=ml es
section
variable{P:Program}{GI:World->Prop}{w0:World}{n:Nat}{g:Gh}{S:an}{H:aq}{a:Act}{w:World}{cc:Nat->Nat->Prop}{e:TypeId}{size:Nat}{es:List AV}{v:Value}
def Rel.US (R:Rel P w0 n bz g S H a w) {b:Nat} (hf:ug g b) {o:Obj} (ho:w.heap[b]? = some o) :
  Rel P w0 n bz { g with old:={ g.old with aR:=au g.old.aR b (some o) } } S H a w:=by
 refine{ size:=R.size,defers:=R.defers,facts:=R.facts,slot:=R.slot,own:=λt ht hu=>(R.own t ht hu).aR rfl λb hb=>⟨rfl,rfl,hb⟩,box:=?_,iw:=R.iw,iE:=R.iE,inj:=R.inj,base:=R.base,below:=R.below,fresh:=R.fresh,still:=R.still,grown:=R.grown,kept:=?_ }
 .intro i c hi;obtain⟨cs,vs,ty,h1,h2,h3,h4,h5,h6,h7,h8,h9⟩:=R.box i c hi;exact⟨cs,vs,ty,h1,h2,h3,h4,h5,h6,h7,λj hj dH=>(h8 j hj dH).aR rfl λb hb=>⟨rfl,rfl,hb⟩,h9⟩
 .intro c ob h
  by_cases kd:c=b
  .subst kd
   have:ob=o:=by simpa[au]using h.symm
   subst this;exact⟨hf.1,ho,hf.2.1,hf.2.2.1,hf.2.2.2⟩
  .exact R.kept c ob (by simpa[au,kd]using h)
def Rel.OR (R:Rel P w0 n bz g S H a w) {b:Nat} {o:Obj} (hk:g.old.aR b=some o) :
  Rel P w0 n bz { g with old:={ g.old with aR:=au g.old.aR b none } } S H a w/\ug { g with old:={ g.old with aR:=au g.old.aR b none } } b/\w.heap[b]?=some o:=by
 obtain⟨k1,k2,k3,k4,k5⟩:=R.kept b o hk;refine⟨?_,⟨k1,k3,k4,k5⟩,k2⟩;refine{ size:=R.size,defers:=R.defers,facts:=R.facts,slot:=R.slot,own:=λt ht hu=>(R.own t ht hu).aR rfl λb hb=>⟨rfl,rfl,hb⟩,box:=?_,iw:=R.iw,iE:=R.iE,inj:=R.inj,base:=R.base,below:=R.below,fresh:=R.fresh,still:=R.still,grown:=R.grown,kept:=?_ }
 .intro i c hi;obtain⟨cs,vs,ty,h1,h2,h3,h4,h5,h6,h7,h8,h9⟩:=R.box i c hi;exact⟨cs,vs,ty,h1,h2,h3,h4,h5,h6,h7,λj hj dH=>(h8 j hj dH).aR rfl λb hb=>⟨rfl,rfl,hb⟩,h9⟩
 .intro c ob h
  have hc:c≠b:=by rintro rfl;simp[au]at h
  exact R.kept c ob (by simpa[au,hc]using h)
def Rel.wb (R:Rel P w0 n bz g S H a w) (hp:g.old.c=cc∧g.old.ds=[]∧∀ d,¬ g.old.bx d) {w':World} (hb:Below w.heap.size w w') (b_:iO size es) (cI:w'.ownsRow w.heap.size e size v es.length (ml es)) :
  ∃g',Rel P w0 n bz g' S H a w'/\KO cc e size es g'.old v:=by
 rcases cI.2 with⟨rfl,h0⟩|⟨b,cap,cur,rfl,lU,hg,h1,h2,h3,h4⟩
 .exact⟨g,R.jR hb,hp.1,hp.2.1,hp.2.2,b_,.inl ⟨⟨_,rfl⟩,adb h0⟩⟩
 .exact⟨_,R.Nc hb lU hg,hp.1,hp.2.1,hp.2.2,b_,.inr ⟨b,cap,cur,rfl,aK _ _ _,h1,h2,h3,h4⟩⟩
def KO.append (R:Rel P w0 n bz g S H a w) {i:TypeInfo} (hK:KO cc e i.size es g.old v) {o:Oper} {cl:Call} {t:TypeId} {z:Value} {x1 x2:Operand} (ho:o.op = .call cl) (gr:cl.callee = .builtin .append) (wu:cl.args = #[x1,x2]) (pw:cl.argTypes = #[t,t])
  (ep:P.underlying t=some (.slice e)) (hi:P.info? e=some i) (hz:i.zero=some z) (nv:z.cells.size=i.size) (Mh:i.bytes<=65536) (hv:a.eval x1=v) {y2:cz} (k_:c_ n x2=some y2) {oo:Ow} {x:AV} (hS:ev S y2=.slice oo [x]) (hx:iO i.size [x]) (hlen:es.length+1<=2097152):
  ∃v' w' g',(execOp a.eval o).run P w=.ok (.value v') w'/\Rel P w0 n bz g' S H a w'/\KO cc e i.size (es++[x]) g'.old v':=by
 have hle:g.base<=w.heap.size:=by rw[R.base];exact R.below.size
 have eD:=R.ev k_ (λ_ _=>id);rw[hS]at eD
 have run:∀v' w',(Builtin.append_ #[t,t] o.type #[v,a.eval x2]).run P w=.ok v' w'->(execOp a.eval o).run P w=.ok (.value v') w':=by
  intro v' w' h;rw[<-hv]at h;unfold execOp;simp[ho,gr,wu,pw,resolve,invoke,builtin,h]
 have bytes:∀m,m<=2097152->m*i.bytes<=140737488355328:=λm hm=>adD (afl hm Mh) (by decide)
 rcases(eD.dL rfl).kM i.size hx.elems with⟨h0,_⟩|⟨b,off,cap,news,jv,hl,hn,h1,hr⟩
 .cases h0
 have oL:news=ml [x]:=by
  apply adP;intro j
  by_cases hj:j<i.size
  .have yA:([x][0]).cells.length=i.size:=(hx x (by simp)).2.1;obtain⟨u,u1,u2⟩:=hr 0 (by simp) j (by rw[yA];exact hj);have e1:=mQ hx (j:=0) (by simp) (k:=j) (by rw[yA];exact hj);rw[agw,ac_]at u1 e1;rw[u1,e1,u2.GW ((hx x (by simp)).2.2 _ (acy _))]
  .rw[acU (by rw[hl];simp;omega),acU (by rw[mM hx];simp;omega)]
 have BA:iO i.size (es++[x]):=hK.ok.app hx
 have vk:(es++[x]).length=es.length+1:=by simp
 rcases hK.row with⟨⟨a0,rfl⟩,rfl⟩|⟨bk,ZD,cur,hvk,hk,q1,q2,q3,q4⟩
 .obtain⟨v',w',r1,r2,r3,r4,r5⟩:=ov (P:=P) (w:=w) w.heap.size t o.type e i z ep hi hz nv a0 ⟨b,off,none⟩ 1 cap news (by rw[hl];rfl) (λj u hu=>by rw[adt];exact hn j u hu) (by omega) (by omega) (bytes _ (by omega)) (acD _);rw[oL]at r2;obtain⟨g',R',Qy⟩:=R.wb (es:=[x]) ⟨hK.c,hK.ds,hK.bx⟩ ⟨r4.os,r4.tape,r4.output,r4.size,λk hk=>r4.block k hk (by simp)⟩ hx r2;exact⟨v',w',g',run _ _ (by rw[jv];exact r1),R',Qy⟩
 .have bP:es≠[]\/es=[]:=(Decidable.em _).symm;obtain⟨k1,k2,k3,k4,k5⟩:=R.kept bk _ hk
  have cI:w.ownsRow g.base e i.size v es.length (ml es):=⟨mM hK.ok,.inr ⟨bk,ZD,cur,hvk,k1,k2,q1,q2,q3,q4⟩⟩
  obtain⟨v',w',b',r1,r2,r3,r4⟩:=qc (P:=P) (w:=w) g.base t o.type e i z ep hi hz nv v es.length (ml es) bk cI (by rw[hvk];rfl) ⟨b,off,none⟩ 1 cap news (by rw[hl];rfl) (λj u hu=>by rw[adt];exact hn j u hu) h1 hlen (bytes _ hlen) hle;rw[oL,<-Pj]at r2
  have mr:∃Cq Er,v'=.slice (some ⟨b',0,none⟩) (es++[x]).length Cq/\w'.heap[b']?=some (.cells Er e (0,0))/\(es++[x]).length<=Cq/\Cq<=maxLen/\Er.size=Cq*i.size/\Er.toList.take ((es++[x]).length*i.size)=ml (es++[x]):=by
   rcases r2.2 with⟨_,h0⟩|⟨gg,cp,cu,rfl,_,m1,m2,m3,m4,m5⟩
   .omega
   .have:gg=b':=by simpa[Value.ownBlock]using r3
    subst this;rw[vk];exact⟨cp,cu,rfl,m1,m2,m3,m4,m5⟩
  obtain⟨Cq,Er,nM,fS,m2,m3,m4,m5⟩:=mr
  rcases r4 with⟨rfl,iU⟩|⟨rfl,iU,bg⟩
  .obtain⟨R1,hf,_⟩:=R.OR hk;have R2:=R1.dS (M:=λc=>c=b') (w':=w') ⟨iU.os,iU.tape,iU.output,iU.size,λk hk hm=>iU.block k hk (by simpa using hm)⟩ (λc hc=>by subst hc;exact hf) (λc hc=>by subst hc;exact aK _ _ _);have R3:=R2.US hf fS;exact⟨v',w',_,run _ _ (by rw[jv];exact r1),R3,hK.c,hK.ds,hK.bx,BA,.inr ⟨b',Cq,Er,nM,aK _ _ _,m2,m3,m4,m5⟩⟩
  .have R2:=R.Nc (w':=w') ⟨iU.os,iU.tape,iU.output,iU.size,λk hk=>iU.block k hk (by simp)⟩ (acD _) fS;exact⟨v',w',_,run _ _ (by rw[jv];exact r1),R2,hK.c,hK.ds,hK.bx,BA,.inr ⟨w.heap.size,Cq,Er,nM,aK _ _ _,m2,m3,m4,m5⟩⟩
def KO.cell (hK:KO cc e size es g.old v) (R:Rel P w0 n bz g S H a w) {j:Nat} (hj:j < es.length) :
  ∃b cap cur,v=.slice (some ⟨b,0,none⟩) es.length cap/\g.old.aR b=some (.cells cur e (0,0))/\w.heap[b]?=some (.cells cur e (0,0))/\∀k (hk:k<(es[j]).cells.length),j*size+k<cur.size/\cur[j*size+k]?=some (Dj (es[j]).cells[k]):=by
 rcases hK.row with⟨_,rfl⟩|⟨b,cap,cur,hv,hk,h1,h2,h3,h4⟩
 .simp at hj
 refine⟨b,cap,cur,hv,hk,(R.kept b _ hk).2.1,λk yb=>?_⟩;have hg:=mQ hK.ok hj yb;rw[<-h4,afj]at hg;split at hg
 .have nR:cur[j*size+k]?=some (Dj (es[j]).cells[k]):=by rw[<-hg,adM]
  exact⟨(acz.1 nR).1,nR⟩
 .cases hg
def KO.set (hK:KO cc e size es g.old v) {j k:Nat} (hj:j < es.length) (hk:k < (es[j]).cells.length) {x:AV} (hx:iO size [x]) {u:AV} (hu:x.cells=(es[j]).cells.set k u) {b cap:Nat} {cur cur':Array Value} (hv:v = .slice (some ⟨b,0,none⟩) es.length cap) (xS:g.old.aR b=some (.cells cur e (0,0)))
  (bg:cur'.size=cur.size) (hc:∀m,cur'.getD m undef=if m=j*size+k then Dj u else cur.getD m undef):KO cc e size (es.set j x) { g.old with aR:=au g.old.aR b (some (.cells cur' e (0,0))) } v:=by
 have b_:iO size (es.set j x):=λy hy=>by
  rcases aff hy with h|h
  .exact hK.ok y h
  .subst h;exact hx y (by simp)
 refine⟨hK.c,hK.ds,hK.bx,b_,.inr ⟨b,cap,cur',by rw[aet];exact hv,aK _ _ _,?_⟩⟩;rw[aet]
 rcases hK.row with⟨_,rfl⟩|⟨b2,ace,VD,eD,jD,h1,h2,h3,h4⟩
 .simp at hj
 rw[hv]at eD;cases eD;rw[xS]at jD;cases jD;refine⟨h1,h2,by rw[bg];exact h3,?_⟩
 have hle:es.length*size<=cur.size:=by rw[h3];exact adJ _ h1
 apply adP;intro m
 by_cases hm:m<es.length*size
 case neg=>rw[acU (by rw[adf];omega),acU (by rw[mM b_,aet];omega)]
 have OJ:0<size:=by
  rcases ael size with h|h
  .rw[h,Nat.mul_zero]at hm;omega
  .exact h
 obtain⟨q,r,hr,rfl⟩:∃q r,r<size/\m=q*size+r:=⟨m/size,m % size,afS _ OJ,by rw[aei];exact(afe m size).symm⟩
 have hq:q<es.length:=by
  rcases adK q es.length with h|h
  .exact h
  .have:=adJ size h;omega
 have Ku:q<(es.set j x).length:=by rw[aet];exact hq
 have hlen:((es.set j x)[q]).cells.length=size:=(b_ _ (acy Ku)).2.1;rw[mQ b_ Ku (by rw[hlen];exact hr),afj,if_pos hm,adM];have vS:=hc (q*size+r)
 have lz:q*size+r<cur'.size:=by rw[bg];omega
 have VY:q*size+r<cur.size:=by omega
 rw[acG,acP lz,Option.getD_some,acG,acP VY,Option.getD_some]at vS;rw[acP lz,vS]
 have hold:cur[q*size+r]?=some (Dj ((es[q]).cells[r]'(by rw[(hK.ok _ (acy hq)).2.1];exact hr))):=by
  have hg:=mQ hK.ok hq (k:=r) (by rw[(hK.ok _ (acy hq)).2.1];exact hr);rw[<-h4,afj,if_pos hm,adM]at hg;exact hg
 rw[acP VY]at hold;have hold:=acX hold
 by_cases hqj:q=j
 .subst hqj
  have Ok:(es.set q x)[q]=x:=by simp
  by_cases hrk:r=k
  .subst hrk;rw[if_pos rfl];simp only[Ok,hu,aeF]
  .rw[if_neg (by omega)];simp only[Ok,hu];rw[aeR (by omega),hold]
 .have Ok:(es.set j x)[q]=es[q]:=aeR (by omega) _;rw[if_neg,hold]
  .simp only[Ok]
  .intro h
   have dN:k<size:=by rw[<-(hK.ok _ (acy hj)).2.1];exact hk
   apply hqj;have:=congrArg (·/size) h;simp only[aei _ size,Nat.mul_add_div OJ,afW hr,afW dN]at this;simpa using this
def DX{a:Act}{t:Nat}{c:Value}(ht:t<a.tmps.size)(h:a.tmps.getD t undef=c):a.put (some t) c=a:=by
 cases a;simp only[Act.put,Act.mk.injEq,afZ]at h ht⊢;apply aea
 .simp
 .intro i h1 h2;rw[Array.getElem_setIfInBounds];split
  .rename_i hi;subst hi;rw[<-h];simp[acG,h2]
  .rfl
def KO.done (hK:KO cc e size es g.old v) (R:Rel P w0 n bz g S H a w) {t:Nat} (ht:t < n) (hS:S t = .val v) :
  ∃g',Rel P w0 n bz g' (au S t (.slice .view es)) H a w/\g'.old.c=cc/\g'.old.ds=[]/\∀d,¬g'.old.bx d:=by
 have hv:a.tmps.getD t undef=v:=by
  have:=R.slot t ht id;rw[hS]at this;exact this.fY
 have Bi:∀{c},a.tmps.getD t undef=c->a.put (some t) c=a:=λh=>DX (by rw[R.size];exact ht) h
 rcases hK.row with⟨⟨a0,rfl⟩,rfl⟩|⟨b,cap,cur,eD,hk,h1,h2,h3,h4⟩
 .have cP:RD g.Pr w (.slice .view []) (.slice a0 0 0):=by
   cases a0 with
   |none=>exact .gx _
   |some b=>exact .ja _ _
  have R2:=R.put t (.slice .view []) _ ht (.data _ _ cP) trivial;rw[Bi hv]at R2;exact⟨g,R2,hK.c,hK.ds,hK.bx⟩
 .obtain⟨k1,k2,_⟩:=R.kept b _ hk;obtain⟨g',q1,q2,R1,q3,q4⟩:=R.hand hk (es.length*size)
  have cP:RD g'.Pr w (.slice .view es) v:=by
   refine RD.ofRow (base:=g.base) ⟨mM hK.ok,.inr ⟨b,cap,cur,eD,k1,k2,h1,h2,h3,h4⟩⟩ (hK.ok.flat _ _) λb' fS k yb=>?_
   have:b=b':=by rw[eD]at fS;simpa[Value.ownBlock]using fS
   subst this;exact q4 k yb
  have R2:=R1.put t (.slice .view es) v ht (.data _ _ cP) trivial;rw[Bi hv]at R2;exact⟨g',R2,by rw[q1];exact hK.c,by rw[q1];exact hK.ds,by rw[q1];exact hK.bx⟩
def KO.start(R:Rel P w0 n bz g S H a w)(hp:g.old.c=cc/\g.old.ds=[]/\∀d,¬g.old.bx d){t:Nat}(ht:t<n)(hS:S t=.slice .nil []):∃v,Rel P w0 n bz g (au S t (.val v)) H a w/\KO cc e size [] g.old v:=by
 obtain⟨ad,hc⟩:∃ad,a.tmps.getD t undef=.slice ad 0 0:=by
  have hq:=R.slot t ht id;rw[hS]at hq;have hq:=hq.dL rfl;generalize a.tmps.getD t undef=c at hq
  cases hq with
  |gx=>exact⟨_,rfl⟩
  |ja=>exact⟨_,rfl⟩
  |slice _ _ b off cap size cs eT p_=>rw[p_ rfl];exact⟨_,rfl⟩
 have R2:=R.put t (.val (.slice ad 0 0)) (.slice ad 0 0) ht (.data _ _ (.val _ rfl)) trivial;rw[DX (by rw[R.size];exact ht) hc]at R2;exact⟨_,R2,hp.1,hp.2.1,hp.2.2,(λx hx=>by cases hx),.inl ⟨⟨_,rfl⟩,rfl⟩⟩
end
section
variable{P:Program}{GI:World->Prop}{w0:World}{n:Nat}{g:Gh}{S:an}{H:aq}{a:Act}{w:World}{cc:Nat->Nat->Prop}{e:TypeId}{size:Nat}{es:List AV}{v:Value}
def Rel.NI (R:Rel P w0 n bz g S H a w) {t u:Nat} (ht:t < n) (hu:u < n) (bP:t≠u) (hS:S t = .slice (.own e) es) (hv:a.tmps.getD u undef=a.tmps.getD t undef) :
  ∃g',g'.old=g.old/\Rel P w0 n bz g' (au (au S t (.slice .view es)) u (.slice (.own e) es)) H a w:=by
 let g':Gh:={ g with owner:=λb=>if g.owner b=some (.slot t)then some (.slot u)else if g.owner b=some (.slot u)then none else g.owner b }
 have pj:g'.Pr=g.Pr:=rfl
 have cI:∀b loc,loc≠.slot t->loc≠.slot u->g.owner b=some loc->g'.owner b=some loc:=by
  intro b loc h1 h2 h;show(if g.owner b=some (.slot t)then _ else if g.owner b=some (.slot u)then none else g.owner b)=_;rw[h,if_neg (by simpa using h1),if_neg (by simpa using h2)]
 have BQ:∀b,g.owner b=none->g'.owner b=none:=by
  intro b h;show(if g.owner b=some (.slot t)then _ else if g.owner b=some (.slot u)then none else g.owner b)=_;rw[h];simp
 have Qk:∀{loc:Loc}{v:AV}{c:Value},loc≠.slot t->loc≠.slot u->ea P w g loc v c->ea P w g' loc v c:=λh1 h2 h=>h.aR rfl λb hb=>⟨rfl,rfl,cI b _ h1 h2 hb⟩
 have fx:=R.slot t ht id;have hot:=R.own t ht id;rw[hS]at fx hot;refine⟨g',rfl,{ size:=R.size,defers:=R.defers,facts:=R.facts,slot:=?_,own:=?_,box:=?_,iw:=R.iw,iE:=R.iE,inj:=R.inj,base:=R.base,below:=R.below,fresh:=λb hb=>⟨(R.fresh b hb).1,BQ b (R.fresh b hb).2⟩,still:=R.still,grown:=R.grown,kept:=λb o h=>let⟨k1,k2,k3,k4,k5⟩:=R.kept b o h;⟨k1,k2,k3,BQ b k4,k5⟩ }⟩
 .intro x hx _;show RV g.Pr g.al w _ _
  by_cases Oo:x=u
  .subst Oo;rw[aK,hv];exact fx
  .rw[aN _ _ Oo]
   by_cases OK:x=t
   .subst OK;rw[aK];exact .data _ _ (fx.dL rfl).aH
   .rw[aN _ _ OK];exact R.slot x hx id
 .intro x hx _
  by_cases Oo:x=u
  .subst Oo;rw[aK,hv];obtain⟨i,xs,b,k1,k2,k3,k4,k5⟩:=hot;refine⟨i,xs,b,k1,k2,k3,?_,k5⟩;show(if g.owner b=some (.slot t)then _ else _)=_;rw[if_pos k4]
  .rw[aN _ _ Oo]
   by_cases OK:x=t
   .subst OK;rw[aK];trivial
   .rw[aN _ _ OK];exact Qk (by simpa using OK) (by simpa using Oo) (R.own x hx id)
 .intro i b hi;obtain⟨cs,vs,ty,h1,h2,h3,h4,h5,h6,h7,h8,h9⟩:=R.box i b hi;exact⟨cs,vs,ty,h1,h2,h3,h4,BQ b h5,h6,h7,λj hj dH=>Qk (by simp) (by simp) (h8 j hj dH),h9⟩
def C1 (R:Rel P w0 n bz g S H a w) (hp:g.old.c=cc∧g.old.ds=[]∧∀ d,¬ g.old.bx d) {i:TypeInfo} (hi:P.info? e=some i) {old:Nat→Nat→Prop} {en:Ending} {w':World} (b_:iO i.size es) (h:Ends P old w (.ret (.slice (.own e) es)) en w') :
  ∃v g',en=.returned v/\Rel P w0 n bz g' S H a w'/\KO cc e i.size es g'.old v:=by
 obtain⟨hb,cQ,_,c,rfl,hv,i',xs,b,k1,k2,k3,_⟩:=h;rw[hi]at k1;cases k1
 have hf:=iQ.Me (hv.dL rfl) k2 (λx hx=>⟨(b_ x hx).2.1,(b_ x hx).1,λc hc=>Ei ((b_ x hx).2.2 c hc)⟩) (λx hx c hc=>by
  have:=(b_ x hx).2.2 c hc
  cases c<;>first|rfl|cases this)
 have pq:xs=ml es:=by
  apply adP;intro m
  by_cases hm:m<es.length*i.size
  case neg=>rw[acU (by rw[k2.1];omega),acU (by rw[mM b_];omega)]
  have OJ:0<i.size:=by
   rcases ael i.size with h|h
   .rw[h,Nat.mul_zero]at hm;omega
   .exact h
  obtain⟨q,r,hr,rfl⟩:∃q r,r<i.size/\m=q*i.size+r:=⟨m/i.size,m % i.size,afS _ OJ,by rw[aei];exact(afe m i.size).symm⟩
  have hq:q<es.length:=by
   rcases adK q es.length with h|h
   .exact h
   .have:=adJ i.size h;omega
  have hl:=(b_ _ (acy hq)).2.1;obtain⟨u,u1,u2⟩:=hf.2 q hq r (by rw[hl];exact hr);rw[u1,mQ b_ hq (by rw[hl];exact hr),u2.GW ((b_ _ (acy hq)).2.2 _ (acy _))]
 rw[pq]at k2;obtain⟨g',R',hK⟩:=R.wb hp hb b_ k2;exact⟨c,g',rfl,R',hK⟩
end
section
variable{P:Program}{w0:World}{n:Nat}{g:Gh}{S:an}{H:aq}{a:Act}{w:World}{cc:Nat->Nat->Prop}{e:TypeId}
def CZ {o:Oper} {t:TypeId} {i:TypeInfo} {x y:Operand} {m:Nat} (ho:o.op = .makeSlice t x y) (ht:P.underlying t=some (.slice e)) (hi:P.info? e=some i) (hz:i.zero=some (.int .i64 0)) (hs:i.size=1) (hb:i.bytes * m≤281474976710656) (hm:m≤1000)
  (hx:a.eval x=.int .i64 (m:Nat)) (hy:a.eval y=.int .i64 (m:Nat)):(execOp a.eval o).run P w=.ok (.value (.slice (some ⟨w.heap.size,0,none⟩) m m)) (w.alloc (.cells (madeCells #[.int .i64 0] m) e)):=by
 have h:=run_make_row (P:=P) t e i (.int .i64 0) ht hi hz hs rfl .i64 .i64 m hb (by omega) w;unfold execOp;simp[ho,hx,hy,h]
def KO.make(R:Rel P w0 n bz g S H a w)(hp:g.old.c=cc/\g.old.ds=[]/\∀d,¬g.old.bx d){m:Nat}(hm:m<=1000):∃g',Rel P w0 n bz g' S H a (w.alloc (.cells (madeCells #[.int .i64 0] m) e))/\KO cc e 1 (List.replicate m (.int .i64 0)) g'.old (.slice (some ⟨w.heap.size,0,none⟩) m m):=by
 refine R.wb hp (Below.alloc (adA _ _) (acD _) _) (λx hx=>?_) ⟨?_,.inr ⟨w.heap.size,m,madeCells #[.int .i64 0] m,by simp,acD _,(by show(w.heap.push _)[w.heap.size]?=_;simp),by simp,by simp[maxLen];omega,by simp[size_madeCells],?_⟩⟩
 .rw[List.mem_replicate]at hx;rw[hx.2];exact⟨rfl,rfl,λc hc=>by simp[AV.cells]at hc;subst hc;rfl⟩
 .simp[ml,AV.cells]
 .have hc:(madeCells #[Value.int .i64 0] m).toList=List.replicate m (.int .i64 0):=by
   apply aeQ
   .simp[size_madeCells]
   .intro j h1 h2;simp[madeCells,Nat.mod_one]
  have hr:∀k,ml (List.replicate k (AV.int .i64 0))=List.replicate k (.int .i64 0):=by
   intro k
   induction k with
   |zero=>rfl
   |succ k ih=>rw[List.replicate_succ,List.replicate_succ,<-ih];rfl
  rw[hc,hr,List.length_replicate,adY,acQ (by simp)]
end
def He {P:Program} {w:World} {base:Nat} {t ty e:TypeId} {i:TypeInfo} {z:Value} (ht:P.underlying t=some (.slice e)) (hi:P.info? e=some i) (hz:i.zero=some z) (nv:z.cells.size=i.size) (hs:i.size=1) (Mh:i.bytes≤65536)
  {u:Value} {n:Nat} {xs:List Value} (cI:w.ownsRow base e 1 u n xs) (hlen:n+1<=2097152) (fT:base<=w.heap.size) {ad:Addr} {cap:Nat} {c:Value} (hc:w.cell? ad=some c) (h1:c.oneCell'=true):
  ∃u' w' b',(Builtin.append_ #[t,t] ty #[u,.slice (some ad) 1 cap]).run P w=.ok u' w'/\w'.ownsRow base e 1 u' (n+1) (xs++[c])/\u'.ownBlock=some b'/\lh (λb=>u.ownBlock=some b) w w'/\(u.ownBlock=some b'\/w.heap.size<=b'):=by
 have bytes:∀m,m<=2097152->m*i.bytes<=140737488355328:=λm hm=>adD (afl hm Mh) (by decide)
 have Sv:∀j x,[c][j]?=some x->w.cell? (ad.add j)=some x:=λj x hx=>by
  match j,hx with
  |0,hx=>cases hx;rw[show ad.add 0=ad by simp[Addr.add]];exact hc
 have xK:∀x∈[c],x.oneCell'=true:=λx hx=>by simp at hx;subst hx;exact h1
 rcases cI.2 with⟨hu,hn⟩|⟨g,acv,cur,hv,nC,hg,rest⟩
 .subst hn;have hx:xs=[]:=adb (by have:=cI.1;simpa using this);subst hx;obtain⟨v',w',r1,r2,r3,r4,r5⟩:=ov (P:=P) (w:=w) base t ty e i z ht hi hz nv none ad 1 cap [c] (by rw[hs];rfl) Sv (by omega) (by omega) (bytes _ (by omega)) fT;rw[hs]at r2;rw[hu];exact⟨v',w',_,r1,by simpa using r2,r3,⟨r4.os,r4.tape,r4.output,r4.size,λk hk _=>r4.block k hk (by simp)⟩,.inr (acD _)⟩
 .have Hh:u.ownBlock=some g:=by rw[hv];rfl
  obtain⟨v',w',b',r1,r2,r3,r4⟩:=qc (P:=P) (w:=w) base t ty e i z ht hi hz nv u n xs g (by rw[hs];exact cI) Hh ad 1 cap [c] (by rw[hs];rfl) Sv xK hlen (bytes _ hlen) fT;rw[hs]at r2
  rcases r4 with⟨rfl,iU⟩|⟨rfl,iU,bg⟩
  .exact⟨v',w',_,r1,r2,r3,⟨iU.os,iU.tape,iU.output,iU.size,λk hk hm=>iU.block k hk (λe=>hm (by rw[Hh];exact e.symm))⟩,.inl Hh⟩
  .exact⟨v',w',_,r1,r2,r3,⟨iU.os,iU.tape,iU.output,iU.size,λk hk _=>iU.block k hk (by simp)⟩,.inr (acD _)⟩
section
variable{P:Program}{ro:Option Nat}{m:Nat}{Q:Exit->Act->World->Prop}{a:Act}{w:World}{K:Act->World->Prop}
def xk {ops:Array Oper} {i:Nat} {o:Oper} (ho:ops[i]? = some o) (hg:o.guard=none) (dF:eB o.op=true) {v:Value} {w':World}
  (hr:(execOp a.eval o).run P w=.ok (.value v) w') (hk:K (a.put o.dst v) w'):wpOpIn (FR ro) m P ops Q i K a w:=by
 simp only[wpOpIn,ho]
 have:Region.wanted o (yielded ops a.tmps)=true:=by simp[Region.wanted,hg]
 rw[if_pos this];refine⟨λ_ _=>trivial,?_⟩;rw[adW _ _ _ (λc hc=>by rw[hc]at dF;cases dF),hr];exact hk
def Of {ops:Array Oper} {i:Nat} {o:Oper} (ho:ops[i]? = some o) (hg:o.guard=none) (dF:eB o.op=true) {w':World}
  (hr:(execOp a.eval o).run P w=.ok .skip w') (hk:K (a.put o.dst undef) w'):wpOpIn (FR ro) m P ops Q i K a w:=by
 simp only[wpOpIn,ho]
 have:Region.wanted o (yielded ops a.tmps)=true:=by simp[Region.wanted,hg]
 rw[if_pos this];refine⟨λ_ _=>trivial,?_⟩;rw[adW _ _ _ (λc hc=>by rw[hc]at dF;cases dF),hr];exact hk
def OG {ops:Array Oper} {i:Nat} {o:Oper} (ho:ops[i]? = some o) (hg:o.guard=none) (dF:eB o.op=true) {f:Nat} {args:Array Value} {w':World}
  (hr:(execOp a.eval o).run P w=.ok (.enter f args) w') {R:Ending->World->Prop} (hc:Calls P f args w' R) (hk:∀e iV,R e iV->∃v,e=.returned v/\K (a.put o.dst v) iV):wpOpIn (FR ro) m P ops Q i K a w:=by
 simp only[wpOpIn,ho]
 have:Region.wanted o (yielded ops a.tmps)=true:=by simp[Region.wanted,hg]
 rw[if_pos this];refine⟨λ_ _=>trivial,?_⟩;rw[adW _ _ _ (λc hc=>by rw[hc]at dF;cases dF),hr];refine⟨λh=>by simp[FR,Fence.wide]at h,ig.2 (hc.mono λe iV hh=>?_)⟩;obtain⟨v,rfl,h⟩:=hk e iV hh;exact h
def qi{F:Fence}{ops:Array Oper}{l:Array Bool}{i fuel:Nat}(hr:Region.ready .any ops l=[i])(h:wpOpIn F m P ops Q i (wpAnyIn F m P .any ops Q fuel (l.setIfInBounds i true)) a w):wpAnyIn F m P .any ops Q (fuel+1) l a w:=by
 refine⟨λh=>(by rw[hr]at h;cases h),λj hj=>?_⟩;rw[hr]at hj
 obtain rfl:j=i:=by simpa using hj
 exact h
def AU{F:Fence}{ops:Array Oper}{l:Array Bool}{i j fuel:Nat}(hr:Region.ready .any ops l=[i,j])(h:wpOpIn F m P ops Q i (wpAnyIn F m P .any ops Q fuel (l.setIfInBounds i true)) a w)(h':wpOpIn F m P ops Q j (wpAnyIn F m P .any ops Q fuel (l.setIfInBounds j true)) a w):wpAnyIn F m P .any ops Q (fuel+1) l a w:=by
 refine⟨λh=>(by rw[hr]at h;cases h),λk hk=>?_⟩;rw[hr]at hk;rcases adl.1 hk with rfl|hk
 .exact h
 .obtain rfl:k=j:=by simpa using hk
  exact h'
def ON{c:Value}(h:c.oneCell'=true):c.cells=#[c]:=by cases c<;>first|rfl|cases h
def Ht {o:Oper} {t e:TypeId} {ie:TypeInfo} {z:Value} {x:Operand} {c:Value} (ho:o.op = .buildSlice t 1 #[(0,x)]) (hu:P.underlying t=some (.slice e)) (GG:P.info? e=some ie) (hz:ie.zero=some z) (hs:ie.size=1) (hc:a.eval x=c) (h1:c.oneCell'=true) :
  (execOp a.eval o).run P w=.ok (.value (.slice (some ⟨w.heap.size,0,none⟩) 1 1)) (w.alloc (.cells #[c] e)):=by
 have hr:=run_buildSlice (P:=P) w t e 1 #[(0,c)] #[c] ie z hu GG hz (by rw[hs];decide) (by rw[hs];decide) (by
  rw[hs];simp[Instr.fill,ON h1];generalize hA:Array.map (λx=>z.cells[x % z.cells.size]!) (Array.range 1)=A
  have bg:A.size=1:=by rw[<-hA];simp
  apply aea
  .simp[bg]
  .intro i hi cQ
   obtain rfl:i=0:=by simp at cQ;omega
   simp[bg])
 unfold execOp;simp[ho,hc,hr]
def xA(w w':World)(es:List AV)(c:Value):Prop:=∃hi:Nat->Nat,RD (λb j=>(w.heap.size<=b/\b<w'.heap.size)/\j<hi b) w' (.slice .view es) c
def xA.grow{w w' w2:World}{es:List AV}{c:Value}(h:xA w w' es c)(hb:Below w'.heap.size w' w2):xA w w2 es c:=by
 obtain⟨hi,hr⟩:=h;refine⟨hi,hr.mono (bc.of_eq λb k hp=>⟨⟨⟨hp.1.1,adq hp.1.2 hb.size⟩,hp.2⟩,hb.block b hp.1.2⟩)⟩
def Hz {old:Nat→Nat→Prop} {e:TypeId} {i:TypeInfo} {es:List AV} {en:Ending} {w':World} (hi:P.info? e=some i)
  (mb:∀x∈es,x.cells.length=i.size/\x.storable=true/\∀c∈x.cells,c.one=true) (Bx:∀x∈es,∀c∈x.cells,gQ c=true)
  (h:Ends P old w (.ret (.slice (if es.isEmpty then .nil else .own e) es)) en w'):Below w.heap.size w w'/\∃c,en=.returned c/\xA w w' es c:=by
 obtain⟨hb,hf,_,c,rfl,hv,ho⟩:=h;refine⟨hb,c,rfl,hf,?_⟩;have hv:=hv.dL rfl
 cases es with
 |nil=>exact hv.Ch
 |cons x es=>
  simp only[List.isEmpty_cons,acI,acW]at hv ho;obtain⟨i',xs,b,k1,k2,k3,k4⟩:=ho;rw[hi]at k1;cases k1;have xj:=iQ.Me hv k2 mb Bx
  refine RD.ofRow k2 (xj.mono (bc.same λ_ _ _ h=>h.elim)) λb' fS k hk=>?_
  rw[k3]at fS;cases fS;exact⟨k2.lt b k3,by rw[k4];exact hk⟩
end
section
variable{P:Program}{GI:World->Prop}{w0:World}{n:Nat}{g:Gh}{S:an}{H:aq}{a:Act}{w:World}{cc:Nat->Nat->Prop}{e:TypeId}{es:List AV}{v:Value}{size:Nat}
def KO.copy (R:Rel P w0 n bz g S H a w) (hp:g.old.c=cc∧g.old.ds=[]∧∀ d,¬ g.old.bx d) {i:TypeInfo} {o:Oper} {cl:Call} {t:TypeId} {z:Value} {x1 x2:Operand} (ho:o.op = .call cl) (gr:cl.callee = .builtin .append) (wu:cl.args = #[x1,x2]) (pw:cl.argTypes = #[t,t])
  (ep:P.underlying t=some (.slice e)) (hi:P.info? e=some i) (hz:i.zero=some z) (nv:z.cells.size=i.size) (Mh:i.bytes<=65536) (hv:a.eval x1=.slice none 0 0) {y2:cz} (k_:c_ n x2=some y2) {oo:Ow} (hS:ev S y2=.slice oo es) (hx:iO i.size es) (bP:es≠[]) (hlen:es.length<=2097152):
  ∃v' w' g',(execOp a.eval o).run P w=.ok (.value v') w'/\Rel P w0 n bz g' S H a w'/\KO cc e i.size es g'.old v':=by
 have eD:=R.ev k_ (λ_ _=>id);rw[hS]at eD
 rcases(eD.dL rfl).kM i.size hx.elems with⟨h0,_⟩|⟨b,off,cap,news,jv,hl,hn,h1,hr⟩
 .exact absurd h0 bP
 have oL:news=ml es:=by
  apply adP;intro m
  by_cases hm:m<es.length*i.size
  case neg=>rw[acU (by omega),acU (by rw[mM hx];omega)]
  have OJ:0<i.size:=by
   rcases ael i.size with h|h
   .rw[h,Nat.mul_zero]at hm;omega
   .exact h
  obtain⟨q,r,jd,rfl⟩:∃q r,r<i.size/\m=q*i.size+r:=⟨m/i.size,m % i.size,afS _ OJ,by rw[aei];exact(afe m i.size).symm⟩
  have hq:q<es.length:=by
   rcases adK q es.length with h|h
   .exact h
   .have:=adJ i.size h;omega
  have UH:=(hx _ (acy hq)).2.1;obtain⟨u,u1,u2⟩:=hr q hq r (by rw[UH];exact jd);rw[u1,mQ hx hq (by rw[UH];exact jd),u2.GW ((hx _ (acy hq)).2.2 _ (acy _))]
 have fI:0<es.length:=ade.2 bP;obtain⟨v',w',r1,r2,r3,r4,r5⟩:=ov (P:=P) (w:=w) w.heap.size t o.type e i z ep hi hz nv none ⟨b,off,none⟩ es.length cap news hl (λj u hu=>by rw[adt];exact hn j u hu) fI hlen (adD (afl hlen Mh) (by decide)) (acD _);rw[oL]at r2;obtain⟨g',R',Qy⟩:=R.wb hp ⟨r4.os,r4.tape,r4.output,r4.size,λk hk=>r4.block k hk (by simp)⟩ hx r2;refine⟨v',w',g',?_,R',Qy⟩;unfold execOp;simp[ho,gr,wu,pw,resolve,invoke,builtin,hv,jv,r1]
def Nw(P:Program)(t:TypeId)(j off:Nat):Bool:=match P.underlying t with
 |some (.struct fs)=>(match fs[j]? with|some f=>(match P.info? f.type with|some i=>decide (f.offset=off)&&decide (i.size≠0)|none=>false)|none=>false)
 |_=>false
def fR{t:TypeId}{j o' b:Nat}(off:Nat){o:Oper}{x:Operand}(ho:o.op=.fieldAddr t x j)(hx:a.eval x=.pointer (some ⟨b,o',none⟩))(h:Nw P t j off=true:=by kernel_rfl):(execOp a.eval o).run P w=.ok (.value (.pointer (some ⟨b,o'+off,none⟩))) w:=by
 unfold Nw at h;split at h
 .rename_i fs gv;split at h
  .rename_i f hf;split at h
   .rename_i i hi;simp only[acA,acJ]at h;have:=rU (a:=a) (w:=w) ho gv hf hi h.2 hx;rw[h.1]at this;exact this
   .cases h
  .cases h
 .cases h
def AI.low{ops:Array Oper}{a0:Act}{val:Nat->Value}{l:Array Bool}(h:AI ops n a0 val l a){k:Nat}(hk:ops.all (λo=>match o.dst with|some d=>decide (k<=d)|none=>true)=true):dZ (λt=>decide (k<=t)) a0 a:=by
 intro t ht
 refine h.old t λi o ho hd=>?_
 have:=ads.1 hk o (adz ho);simp only[hd,acJ]at this;simp only[adQ]at ht;exact ht this
def Rel.jump(R:Rel P w0 n bz g S H a w){W:Nat->Bool}{a':Act}(hs:dZ W a a')(bg:a'.tmps.size=n)(hd:a'.defers=a.defers):Rel P w0 n bz g (λt=>cond (W t) .bm (S t)) H a' w:=by
 refine{ size:=bg,defers:=hd.trans R.defers,facts:=R.facts,slot:=λt ht hu=>?_,own:=λt ht hu=>?_,box:=R.box,iw:=R.iw,iE:=R.iE,inj:=R.inj,base:=R.base,below:=R.below,fresh:=R.fresh,still:=R.still,grown:=R.grown,kept:=R.kept }
 .show RV _ _ _ (cond (W t) AV.bm (S t)) _
  cases hW:W t with
  |true=>exact .bm _
  |false=>rw[hs t hW];exact R.slot t ht hu
 .show ea _ _ _ _ (cond (W t) AV.bm (S t)) _
  cases hW:W t with
  |true=>trivial
  |false=>rw[hs t hW];exact R.own t ht hu
def KO.Oc (hK:KO cc e size es g.old v) (bP:es≠[]) (R:Rel P w0 n bz g S H a w) {i j:Nat} {cs:List AV} (hH:H i=some cs) (hj:j < cs.length) (hv:cs[j] = .val v) :
  ∃g',Rel P w0 n bz g' S (au H i (some (cs.set j (.slice .view es)))) a w/\g'.old.c=cc/\g'.old.ds=[]/\∀d,¬g'.old.bx d:=by
 rcases hK.row with⟨_,h0⟩|⟨b,cap,cur,eD,hk,h1,h2,h3,h4⟩
 .exact absurd h0 bP
 obtain⟨k1,k2,_⟩:=R.kept b _ hk;obtain⟨g',q1,q2,R1,q3,q4⟩:=R.hand hk (es.length*size)
 have cP:RD g'.Pr w (.slice .view es) v:=by
  refine RD.ofRow (base:=g.base) ⟨mM hK.ok,.inr ⟨b,cap,cur,eD,k1,k2,h1,h2,h3,h4⟩⟩ (hK.ok.flat _ _) λb' fS k yb=>?_
  have:b=b':=by rw[eD]at fS;simpa[Value.ownBlock]using fS
  subst this;exact q4 k yb
 have R2:=R1.Uk hH hj (.slice .view es) rfl (λe es h=>by cases h) (λc hc=>by
  rw[hv]at hc;cases hc
  exact cP)
 exact⟨g',R2,by rw[q1];exact hK.c,by rw[q1];exact hK.ds,by rw[q1];exact hK.bx⟩
end
section
variable{P:Program}{Q:Exit->Act->World->Prop}{ro:Option Nat}{m n:Nat}{ops:Array Oper}
def CL(ops:Array Oper)(n:Nat):Bool:=
 ops.all (λo=>o.guard.isNone&&eB o.op&&(match o.dst with|some t=>decide (t<n)|none=>true))&&
 (List.range ops.size).all (λi=>((ops[i]?).map λo=>(o.after.all λe=>!Region.binds .any e||decide (e.on<i))&&(List.range ops.size).all λj=>i==j||((ops[j]?).map λo'=>o.dst.isNone||o'.dst !=o.dst).getD true).getD true)
def Cy {a0:Act} {val:Nat→Value} (fx:CL ops n=true) (W:Array Bool→World→Prop)
  (jh:∀(i:Nat)(o:Oper)(l:Array Bool)(a:Act)(w:World),ops[i]?=some o->l.size=ops.size->l.getD i false=false->AI ops n a0 val l a->W l w->(∀e∈o.after,Region.binds .any e=true->l.getD e.on false=true)->
   (∃t,o.dst=some t/\∃w',(execOp a.eval o).run P w=.ok (.value (val t)) w'/\W (l.setIfInBounds i true) w')\/(o.dst=none/\∃w',(execOp a.eval o).run P w=.ok .skip w'/\W (l.setIfInBounds i true) w'))
  (hQ:∀(a:Act)(w:World),AI ops n a0 val (Array.replicate ops.size true) a->W (Array.replicate ops.size true) w->Q .normal a w):
  ∀(fuel:Nat)(l:Array Bool)(a:Act)(w:World),l.size=ops.size->(l.toList.filter (! ·)).length<=fuel->AI ops n a0 val l a->W l w->wpAnyIn (FR ro) m P .any ops Q fuel l a w:=by
 simp only[CL,acA]at fx;obtain⟨hg,hs⟩:=fx
 have lD:∀(i:Nat)(o:Oper),ops[i]?=some o->∀e∈o.after,Region.binds .any e=true->e.on<i:=by
  intro i o ho e he hb;have:=acN.1 hs i (acY.2 (acz.1 ho).1);simp only[ho,Option.map_some,Option.getD_some,acA]at this;have:=ads.1 this.1 e he;simpa[hb]using this
 have aaM:∀(i j:Nat)(o o':Oper),ops[i]?=some o->ops[j]?=some o'->i≠j->∀t,o.dst=some t->o'.dst≠o.dst:=by
  intro i j o o' ho lQ py t ht;have:=acN.1 hs i (acY.2 (acz.1 ho).1);simp only[ho,Option.map_some,Option.getD_some,acA]at this;have:=acN.1 this.2 j (acY.2 (acz.1 lQ).1);simpa[lQ,py,ht]using this
 have fin:∀(l:Array Bool)(a:Act)(w:World),l.size=ops.size->AI ops n a0 val l a->W l w->Region.ready .any ops l=[]->Q .normal a w:=by
  intro l a w hl hI hW hr;have:=Jc lD hl hr
  have hle:l=Array.replicate ops.size true:=by
   apply aea
   .simpa using hl
   .intro i hi cQ;have h1:=this i (by omega);simp only[acG,acP hi,Option.getD_some]at h1;simp[h1]
  rw[hle]at hW;refine hQ a w ⟨hI.size,hI.defers,hI.old,λi o t ho hd _=>hI.Uj i o t ho hd (this i (acz.1 ho).1)⟩ hW
 intro fuel
 induction fuel with
 |zero=>
  intro l a w hl hc hI hW
  have hr:Region.ready .any ops l=[]:=by
   rw[List.eq_nil_iff_forall_not_mem];intro i hi;obtain⟨h1,o,ho,_⟩:=aeD.1 hi
   have cQ:i<l.size:=by rw[hl];exact(acz.1 ho).1
   have h2:l[i]=false:=by simpa[acG,cQ]using h1
   have:l[i]∈l.toList.filter (! ·):=List.mem_filter.2 ⟨by simp,by simp[h2]⟩;have:=afu this;omega
  exact⟨hr,fin l a w hl hI hW hr⟩
 |succ fuel ih=>
  intro l a w hl hc hI hW;refine⟨λhr=>fin l a w hl hI hW hr,λi hi=>?_⟩;obtain⟨h1,o,ho,e_⟩:=aeD.1 hi;have Gk:=(acz.1 ho).1
  have cQ:i<l.size:=by omega
  have h2:l[i]=false:=by simpa[acG,cQ]using h1
  have nx:=ads.1 hg o (adz ho);simp only[acA]at nx;obtain⟨⟨nx,bK⟩,Ak⟩:=nx
  have abj:l.getD i false=false:=by simp[acG,cQ,h2]
  have Ul:=jh i o l a w ho hl abj hI hW e_
  have uh:((l.setIfInBounds i true).toList.filter (! ·)).length<=fuel:=by
   have:(l.setIfInBounds i true).toList=l.toList.set i true:=by simp
   rw[this]
   have hlen:∀(xs:List Bool)(k:Nat)(h:k<xs.length),xs[k]=false->((xs.set k true).filter (! ·)).length+1=(xs.filter (! ·)).length:=by
    intro xs
    induction xs with
    |nil=>intro k h;simp at h
    |cons x xs ih=>
     intro k h hk
     cases k with
     |zero=>
      simp only[List.getElem_cons_zero]at hk;subst hk;simp
     |succ k=>
      simp only[List.getElem_cons_succ]at hk;have:=ih k (by simpa using h) hk;simp only[List.set_cons_succ,List.filter_cons]
      split<;>(try simp only[List.length_cons])<;>omega
   have:=hlen l.toList i (by simpa using cQ) (by simpa using h2);omega
  have next:∀t,o.dst=some t->∀w',W (l.setIfInBounds i true) w'->wpAnyIn (FR ro) m P .any ops Q fuel (l.setIfInBounds i true) (a.put o.dst (val t)) w':=by
   intro t hd w' Tb
   have GU:t<n:=by simpa[hd]using Ak
   refine ih _ _ w' (by simpa using hl) uh ⟨by simp[Act.put,hd,hI.size],by rw[hd];exact hI.defers,λs hs=>?_,λj o' s lQ Al Ra=>?_⟩ Tb
   .have bP:s≠t:=by rintro rfl;exact hs i o ho hd
    rw[hd,<-hI.old s hs];simp[Act.put,acB (adi bP)]
   .rw[hd]
    by_cases fh:j=i
    .subst fh;rw[ho]at lQ;cases lQ;rw[hd]at Al;cases Al;simp[Act.put,hI.size,GU]
    .have bP:s≠t:=by
      rintro rfl;exact aaM i j o o' ho lQ (adi fh) _ hd (Al.trans hd.symm)
     have No:l.getD j false=true:=by
      have:=Ra;simp only[acG,acB (adi fh)]at this⊢;exact this
     rw[<-hI.Uj j o' s lQ Al No];simp[Act.put,acB (adi bP)]
  have hw:Region.wanted o (yielded ops a.tmps)=true:=by
   have:o.guard=none:=by simpa using nx
   simp[Region.wanted,this]
  simp only[wpOpIn,ho,hw,ac3];refine⟨λ_ _=>trivial,?_⟩;rw[adW _ _ _ (λc hc=>by rw[hc]at bK;cases bK)]
  rcases Ul with⟨t,hd,w',hr,Tb⟩|⟨hd,w',hr,Tb⟩
  .rw[hr];exact next t hd w' Tb
  .rw[hr];refine ih _ _ w' (by simpa using hl) uh ⟨by rw[hd];exact hI.size,by rw[hd];exact hI.defers,λs hs=>by rw[hd];exact hI.old s hs,λj o' s lQ Al Ra=>?_⟩ Tb
   have fh:j≠i:=by
    rintro rfl;rw[ho]at lQ;cases lQ;rw[hd]at Al;cases Al
   rw[hd];refine hI.Uj j o' s lQ Al ?_;have:=Ra;simp only[acG,acB (adi fh)]at this⊢;exact this
def BL (hm:P.follows .mixedOrders=true) {id p:Nat} {a0:Act} {w0:World} {val:Nat→Value} (zI:G_ ops p=true) (iS:(ops.extract 0 p).size=p) (fx:CL (ops.extract 0 p) n=true) (bg:a0.tmps.size=n) (W:Array Bool→World→Prop) (hW0:W (Array.replicate p false) { w0 with drawn:=w0.drawn+1 })
  (jh:∀(i:Nat)(o:Oper)(l:Array Bool)(a:Act)(w:World),(ops.extract 0 p)[i]?=some o->l.size=p->l.getD i false=false->AI (ops.extract 0 p) n a0 val l a->W l w->(∀e∈o.after,Region.binds .any e=true->l.getD e.on false=true)->
   (∃t,o.dst=some t/\∃w',(execOp a.eval o).run P w=.ok (.value (val t)) w'/\W (l.setIfInBounds i true) w')\/(o.dst=none/\∃w',(execOp a.eval o).run P w=.ok .skip w'/\W (l.setIfInBounds i true) w'))
  (hQ:∀(a:Act)(w:World),AI (ops.extract 0 p) n a0 val (Array.replicate p true) a->W (Array.replicate p true) w->wpOpsIn (FR ro) m P ops Q (List.range' p (ops.size-p)) a w):(Code.region id ops true).wpIn (FR ro) m P Q a0 w0:=by
 refine Kl hm zI ?_;refine Cy fx W (λi o l a w h1 h2=>jh i o l a w h1 (by rw[h2,iS])) (λa w hI hW=>?_) p (Array.replicate p false) a0 _ (by simp[iS]) ?_ ⟨bg,rfl,λ_ _=>rfl,λi o t ho hd h=>?_⟩ hW0
 .rw[iS]at hI hW;exact hQ a w hI hW
 .refine adD (aeo _ _) (by simp)
 .simp[Array.getElem?_replicate]at h
  split at h<;>cases h
def HO {a:Act} {w:World} {o:Oper} {t:TypeId} {x y:Operand} {b off:Nat} {v:Value} {ty:TypeId} {i:TypeInfo} {arr:Array Value} (ho:o.op = .store t x y) (hx:a.eval x = .pointer (some ⟨b,off,none⟩)) (hi:P.info? t=some i) (hs:i.size=1) (hb:w.heap[b]? = some (.cells arr ty (0,0)))
  (Bb:off<arr.size) (hv:(a.eval y)=v) (h1:v.oneCell'=true):(execOp a.eval o).run P w=.ok .skip (w.putObj b (.cells (arr.setIfInBounds off v) ty (0,0))):=by
 obtain⟨Jd,hr,bg,Lb⟩:=nB (P:=P) ho hx hi hs hb Bb hv h1
 have:Jd=arr.setIfInBounds off v:=by
  apply aea
  .simp[bg]
  .intro k hk dN;have h:=Lb k
   have jD:k<arr.size:=by omega
   rw[acG,acP hk,Option.getD_some,acG,acP jD,Option.getD_some]at h;rw[h,Array.getElem_setIfInBounds]
   by_cases e:k=off
   .subst e;simp
   .rw[if_neg e,if_neg (adi e)]
 rw[this]at hr;exact hr
def O1(arr:Array Value){off:Nat}(v:Value)(Bb:off<arr.size)(m:Nat):(arr.setIfInBounds off v).getD m undef=if m=off then v else arr.getD m undef:=by
 rw[acG,adO,acG]
 by_cases e:m=off
 .subst e;simp[Bb]
 .rw[if_neg (adi e),if_neg e]
end
end Go.AL
