/-
  A part of the proof: C7 C8 C9 C10 C11 C12 C22 C23 C24 C25.
-/
import Derived.Test.YtifmgeicigngbaaGreatK1
import Derived.Test.YtifmgeicigngbaaGreatQ1
import Derived.Test.YtifmgeicigngbaaGreatA3
import Derived.Test.YtifmgeicigngbaaGreatD2
set_option linter.all false
set_option linter.unusedVariables false
set_option linter.unusedSimpArgs false
set_option linter.deprecated false
namespace Go.Proofs.Tryz
open Go Go.AL Go.RowKit Go.Proofs
def okDay (s:CSheet) (r:Nat) (now:List Int) (x:Int):Bool :=
 (match now.getLast? with | none=>true | some d=>decide (d < x)) && (goesI s r now.length x.toNat && (match now.getLast? with | none=>true | some d=>standsI s (now.length - 1) d.toNat x.toNat true))
def plansI (s:CSheet):Nat→List Int→List (List Int)
 |0,now=>[now]
 |r+1,now=>s.work.flatMap fun x=>if okDay s r now x then plansI s r (now++[x]) else []
theorem ac144 (s:CSheet) (hl:s.dry.length≤1000) (hb:dryOK s) {now:List Int} {d x:Nat} (hn:now.length≤s.coats.length) (hcl:s.coats.length≤1000) (hlast:now.getLast? = some (d:Int)) (hd:d≤s.dry.length) (hx:x≤s.dry.length) :
  AC prog GT 144 [.ref (shopL s),.ref [.int .i64 now.length],.ref [vI now],.ref [.int .i64 (x:Nat)]] (standsO s (now.length - 1) d x true):=by
 have hne:now≠[]:=by rintro rfl;cases hlast
 have hpos:0 < now.length:=by cases now with | nil=>exact absurd rfl hne | cons _ _=>simp
 have hw:IntKind.i64.wrap ((now.length:Int) - 1)=((now.length - 1:Nat):Int):=by rw [wrapI (by omega)];omega
 have hg:now[now.length - 1]? = some (d:Int):=by rw [← hlast,List.getLast?_eq_getElem?]
 have hg':now[now.length - 1]'(by omega)=(d:Int):=by
  rw [List.getElem?_eq_getElem (by omega)] at hg
  exact Option.some.inj hg
 have h:=ac84 hGT s hl hb true (k:=now.length - 1) (by omega) hd hx
 have n1:¬ ((now.length - 1:Nat):Int) < 0:=by omega
 have n2:now.length - 1 < now.length:=by omega
 have n3:((now.length:Int) - 1).toNat=now.length - 1:=by omega
 refine AC.of_SW func144 rfl ntmps144 (by simp) fun cc w => ?_
 refine SW.drawF hGT hmix [9] [0,1,2,3,4,5,6,7,8,9] (by kernel_rfl) (by kernel_rfl) (l:=ACode.dl c144) (by kernel_rfl) (((ACode.dl c144).take 9).map (fun o=>(false,o))++((true,⟨some 13,none,.call 84 [.t 4,.t 6,.t 11,.t 12,.c (.bool true)]⟩)::(([]:List AOpr).map fun o=>(false,o)))) rfl ?_
 refine dopsM_pre _ ?_
 simp [c144,ACode.dl,dops,awanted,dstep,astep,apure,Eff.S,Eff.H,ev,upd,putD,AL.start,loadA,AV.dem,abin,hw,shopL,cshL,vI,ints,n2,hg',n1]
 refine dopsM_call (by simp [ev,upd,boxy,AV.dem]) (by kernel_rfl) (by simpa [ev,upd,fz,fz1,shopA,shopL,cshL,vI,ints,AV.vw,AV.vw1,AV.dem] using h) ?_
 rcases standsO_cases s (now.length - 1) d x true with ⟨_,e⟩ | ⟨_,r,e⟩
 ·rw [e]
  refine dopsM_end [] ?_
  simp only [dops,retS]
  exact ⟨Marked.plain rfl,rfl,_,rfl,rfl⟩
 ·rw [e]
  exact ⟨rfl,rfl,rfl⟩
variable {l:Nat} {xs:List AV}
structure FxC (C:Cons prog GT l xs) (s:CSheet) where
 bN:Nat
 bM:Nat
 bX:Nat
 oX:Nat
 fx:Nat→Value
 cY:Value
 cP:Value
 cR:Value
 MI:Nat→Prop
 wI:World
 hY:RV (fun b _=>MI b) noneA wI (.ref [.val (.func (.yield l) #[] #[])]) cY
 hP:RV (fun b _=>MI b) noneA wI (.ref [.val (mapV bM)]) cP
 hR:RV (fun b _=>MI b) noneA wI (.ref [.val (.func (.func 142) #[] #[.pointer (some ⟨bN,0,none⟩),.pointer (some ⟨bX,oX,none⟩),cY,cP,cR])]) cR
 ne:bM≠bN
variable {C:Cons prog GT l xs} {s:CSheet}
structure StC (X:FxC C s) (k:Nat) (M:Nat→Prop) (Pr:Nat→Nat→Prop) (now:List Int) (w:World):Prop where
 j:C.J k M Pr w
 lt:∀ b,M b→b < w.heap.size
 mi:∀ b,X.MI b→M b∧b≠X.bN∧b≠X.bM∧w.heap[b]? = X.wI.heap[b]?
 now:∃ v ty xs',w.heap[X.bN]? = some (.cells #[v] ty (0,0))∧M X.bN∧w.ownsRow (X.bN+1) 3 1 v now.length xs'∧FlatOf (fun _ _=>False) w 1 (ints now) xs'∧∀ b,v.ownBlock=some b→M b∧¬ X.MI b∧b≠X.bM
 x:∀ j (h:j < 5),Pr X.bX (X.oX+j)∧w.cell? ⟨X.bX,X.oX+j,none⟩=some (X.fx j)∧RD Pr w ((shopL s)[j]'(by simpa [shopL,cshL] using h)) (X.fx j)
 mp:M X.bM∧∃ es clock l',w.heap[X.bM]? = some (.map es clock)∧EntK encS es l'∧Coh s l'
theorem xKeep {X:FxC C s} {Pr Pr':Nat→Nat→Prop} {w w':World} (h:∀ j (h:j < 5),Pr X.bX (X.oX+j)∧w.cell? ⟨X.bX,X.oX+j,none⟩=some (X.fx j)∧RD Pr w ((shopL s)[j]'(by simpa [shopL,cshL] using h)) (X.fx j)) (hk:Keeps Pr Pr' w w') :
  ∀ j (h:j < 5),Pr' X.bX (X.oX+j)∧w'.cell? ⟨X.bX,X.oX+j,none⟩=some (X.fx j)∧RD Pr' w' ((shopL s)[j]'(by simpa [shopL,cshL] using h)) (X.fx j):=by
 intro j hj
 obtain ⟨h1,h2,h3⟩:=h j hj
 obtain ⟨q1,q2⟩:=hk.cell _ _ h1 _ h2
 exact ⟨q1,q2,h3.mono hk⟩
theorem StC.xR {X:FxC C s} {k:Nat} {M:Nat→Prop} {Pr:Nat→Nat→Prop} {now:List Int} {w:World} (st:StC X k M Pr now w):RD Pr w (.ref (shopL s)) (.pointer (some ⟨X.bX,X.oX,none⟩)):=by
 refine .ref _ _ _ X.fx (fun i hi => ?_) (fun i hi => ?_) (fun i hi => ?_)
 ·have:i < 5:=by simpa [shopL,cshL] using hi
  match i,this with
  |0,_ | 1,_ | 2,_ | 3,_ | 4,_=>rfl
 ·exact ⟨(st.x i (by simpa [shopL,cshL] using hi)).1,(st.x i (by simpa [shopL,cshL] using hi)).2.1⟩
 ·exact (st.x i (by simpa [shopL,cshL] using hi)).2.2
structure FrC (X:FxC C s) (a:Act):Prop where
 size:a.tmps.size=70
 defers:a.defers=[]
 t0:a.tmps.getD 0 undef = .pointer (some ⟨X.bN,0,none⟩)
 t1:a.tmps.getD 1 undef = .pointer (some ⟨X.bX,X.oX,none⟩)
 t2:a.tmps.getD 2 undef=X.cY
 t3:a.tmps.getD 3 undef=X.cP
 t4:a.tmps.getD 4 undef=X.cR
def FxC.fv (X:FxC C s):Value := .func (.func 142) #[] #[.pointer (some ⟨X.bN,0,none⟩),.pointer (some ⟨X.bX,X.oX,none⟩),X.cY,X.cP,X.cR]
def slotsC (X:FxC C s) (now:List Int) (ex:Nat→AV):Slots:=fun t=>match t with
 |0 => .ref [vI now]
 |1 => .ref (shopL s)
 |2 => .ref [.val (.func (.yield l) #[] #[])]
 |3 => .ref [.val (mapV X.bM)]
 |4 => .ref [.val X.fv]
 |t+5=>ex (t+5)
theorem StC.nowR {X:FxC C s} {k:Nat} {M:Nat→Prop} {Pr:Nat→Nat→Prop} {now:List Int} {w:World} (st:StC X k M Pr now w):RV (fun b _=>b≠X.bM) noneA w (.ref [vI now]) (.pointer (some ⟨X.bN,0,none⟩)):=by
 obtain ⟨v,ty,xs',h1,h2,h3,h4,h5⟩:=st.now
 refine .data _ _ (.ref _ _ _ (fun _=>v) (fun i hi => ?_) (fun k hk=>⟨Ne.symm X.ne,?_⟩) (fun k hk => ?_))
 ·have:i=0:=by simpa using hi
  subst this;rfl
 ·have:k=0:=by simpa using hk
  subst this
  simp [World.cell?,h1]
 ·have:k=0:=by simpa using hk
  subst this
  exact RD.ofRow (size:=1) (es:=ints now) (by simpa [ints] using h3) (h4.mono (Keeps.same fun _ _ _ h=>h.elim)) fun b hb _ _=>(h5 b hb).2.2
theorem StC.slots_ok {X:FxC C s} {k:Nat} {M:Nat→Prop} {Pr:Nat→Nat→Prop} {now:List Int} {w:World} (st:StC X k M Pr now w) {a:Act} (fr:FrC X a) {ex:Nat→AV} (hex:∀ t,5≤t→t < 70→(ex t).dem=ex t∧RV (fun b _=>b≠X.bM) noneA w (ex t) (a.tmps.getD t undef)) :
  ∀ t,t < 70→(slotsC X now ex t).dem=slotsC X now ex t∧RV (fun b _=>b≠X.bM) noneA w (slotsC X now ex t) (a.tmps.getD t undef):=by
 intro t ht
 have hmi:∀ {P':Nat→Nat→Prop},(∀ b k,P' b k→X.MI b)→Keeps P' (fun b _=>b≠X.bM) X.wI w:=fun h=>Keeps.of_eq fun b k hp=>⟨(st.mi b (h b k hp)).2.2.1,(st.mi b (h b k hp)).2.2.2⟩
 unfold slotsC
 split
 ·rw [fr.t0];exact ⟨rfl,st.nowR⟩
 ·rw [fr.t1];exact ⟨rfl,.data _ _ (st.xR.mono (Keeps.same fun b k _ hp=>by rintro rfl;exact C.apart st.j _ k st.mp.1 hp))⟩
 ·rw [fr.t2];exact ⟨rfl,X.hY.mono (hmi fun b k h=>h) fun _ _ h=>h⟩
 ·rw [fr.t3];exact ⟨rfl,X.hP.mono (hmi fun b k h=>h) fun _ _ h=>h⟩
 ·rw [fr.t4];exact ⟨rfl,X.hR.mono (hmi fun b k h=>h) fun _ _ h=>h⟩
 ·exact hex _ (by omega) ht
theorem StC.grow {X:FxC C s} {k:Nat} {M:Nat→Prop} {Pr:Nat→Nat→Prop} {now:List Int} {w w':World} (st:StC X k M Pr now w) (hb:Below w.heap.size w w'):StC X k M Pr now w':=by
 have hM:=st.lt
 have hsame:∀ b,M b→w'.heap[b]? = w.heap[b]? := fun b h=>hb.block b (hM b h)
 have hk:Keeps Pr Pr w w':=Keeps.of_blocks (fun b h=>hb.block b h) fun _ _ _ h=>h
 obtain ⟨v,ty,xs',h1,h2,h3,h4,h5⟩:=st.now
 refine ⟨C.turn st.j (Turn.of_below hb) fun b h=>⟨Nat.lt_of_lt_of_le (hM b h) hb.size,.inl h⟩,fun b h=>Nat.lt_of_lt_of_le (hM b h) hb.size,fun b h=>⟨(st.mi b h).1,(st.mi b h).2.1,(st.mi b h).2.2.1,(hsame b (st.mi b h).1).trans (st.mi b h).2.2.2⟩,⟨v,ty,xs',(hsame _ h2).trans h1,h2,?_,h4.mono (Keeps.of_eq fun _ _ h=>h.elim),h5⟩,xKeep st.x hk,st.mp.1,by rw [hsame _ st.mp.1];exact st.mp.2⟩
 refine ⟨h3.1,?_⟩
 rcases h3.2 with h | ⟨gg,cap,cur,rfl,hbg,hgg,rest⟩
 ·exact .inl h
 ·exact .inr ⟨gg,cap,cur,rfl,hbg,(hsame gg (h5 gg rfl).1).trans hgg,rest⟩
theorem StC.swap {X:FxC C s} {k:Nat} {M:Nat→Prop} {Pr:Nat→Nat→Prop} {now:List Int} {w w':World} (st:StC X k M Pr now w) (ht:Turn (fun b=>b=X.bM) w w') (hm:∃ es clock l',w'.heap[X.bM]? = some (.map es clock)∧EntK encS es l'∧Coh s l'):StC X k M Pr now w':=by
 have hM:=st.lt
 have hsame:∀ b,M b→b≠X.bM→w'.heap[b]? = w.heap[b]? := fun b h hne=>ht.block b (hM b h) hne
 have hk:Keeps Pr Pr w w':=Keeps.of_moved fun b k hl hp=>ht.block b hl (by
  rintro rfl
  exact C.apart st.j _ k st.mp.1 hp)
 obtain ⟨v,ty,xs',h1,h2,h3,h4,h5⟩:=st.now
 refine ⟨C.turn st.j ⟨ht.os,ht.tape,ht.output,ht.size,fun b hb hm=>ht.block b hb (by rintro rfl;exact hm st.mp.1)⟩ fun b h=>⟨Nat.lt_of_lt_of_le (hM b h) ht.size,.inl h⟩,fun b h=>Nat.lt_of_lt_of_le (hM b h) ht.size,fun b h=>⟨(st.mi b h).1,(st.mi b h).2.1,(st.mi b h).2.2.1,(hsame b (st.mi b h).1 (st.mi b h).2.2.1).trans (st.mi b h).2.2.2⟩,⟨v,ty,xs',(hsame _ h2 (Ne.symm X.ne)).trans h1,h2,?_,h4.mono (Keeps.of_eq fun _ _ h=>h.elim),h5⟩,xKeep st.x hk,st.mp.1,hm⟩
 refine ⟨h3.1,?_⟩
 rcases h3.2 with h | ⟨gg,cap,cur,rfl,hbg,hgg,rest⟩
 ·exact .inl h
 ·exact .inr ⟨gg,cap,cur,rfl,hbg,(hsame gg (h5 gg rfl).1 (h5 gg rfl).2.2).trans hgg,rest⟩
theorem StC.after {X:FxC C s} {k k':Nat} {M G:Nat→Prop} {Pr Pr':Nat→Nat→Prop} {now:List Int} {w w':World} (st:StC X k M Pr now w) (hj:C.J k' (fun b=>(M b∨G b)∧¬ G b) Pr' w') (hG:∀ b,G b→¬ M b)
  (hs:∀ b,M b∨G b→¬ G b→w'.heap[b]? = w.heap[b]?) (hk:Keeps Pr Pr' w w'):StC X k' (fun b=>(M b∨G b)∧¬ G b) Pr' now w':=by
 have hMG:∀ b,M b→¬ G b:=fun b hb hg=>hG b hg hb
 have hsame:∀ b,M b→w'.heap[b]? = w.heap[b]? := fun b hb=>hs b (.inl hb) (hMG b hb)
 obtain ⟨v,ty,xs',h1,h2,h3,h4,h5⟩:=st.now
 refine ⟨hj,fun b hb => ?_,fun b h=>⟨⟨.inl (st.mi b h).1,hMG b (st.mi b h).1⟩,(st.mi b h).2.1,(st.mi b h).2.2.1,(hsame b (st.mi b h).1).trans (st.mi b h).2.2.2⟩,⟨v,ty,xs',(hsame _ h2).trans h1,⟨.inl h2,hMG _ h2⟩,?_,h4.mono (Keeps.of_eq fun _ _ h=>h.elim),fun b hb=>⟨⟨.inl (h5 b hb).1,hMG b (h5 b hb).1⟩,(h5 b hb).2⟩⟩,xKeep st.x hk,⟨.inl st.mp.1,hMG _ st.mp.1⟩,by rw [hsame _ st.mp.1];exact st.mp.2⟩
 ·have hb1:M b:=hb.1.resolve_right hb.2
  have:=st.lt b hb1
  have h2:=hsame b hb1
  rw [Array.getElem?_eq_getElem this] at h2
  exact (Array.getElem?_eq_some_iff.1 h2).1
 ·refine ⟨h3.1,?_⟩
  rcases h3.2 with h | ⟨gg,cap,cur,rfl,hbg,hgg,rest⟩
  ·exact .inl h
  ·exact .inr ⟨gg,cap,cur,rfl,hbg,(hsame gg (h5 gg rfl).1).trans hgg,rest⟩
def FxC.more (X:FxC C s) (w:World) (b6:Nat) (h:∀ b,X.MI b→w.heap[b]? = X.wI.heap[b]?):FxC C s:={
 bN:=X.bN
 bM:=X.bM
 bX:=X.bX
 oX:=X.oX
 fx:=X.fx
 cY:=X.cY
 cP:=X.cP
 cR:=X.cR
 MI b:=X.MI b∨b=b6
 wI:=w
 hY:=X.hY.mono (Keeps.of_eq fun b k hp=>⟨.inl hp,h b hp⟩) fun _ _ h=>h
 hP:=X.hP.mono (Keeps.of_eq fun b k hp=>⟨.inl hp,h b hp⟩) fun _ _ h=>h
 hR:=X.hR.mono (Keeps.of_eq fun b k hp=>⟨.inl hp,h b hp⟩) fun _ _ h=>h
 ne:=X.ne }
theorem StC.more {X:FxC C s} {k:Nat} {M:Nat→Prop} {Pr:Nat→Nat→Prop} {now:List Int} {w w':World} {b6:Nat} (st:StC X k M Pr now w) (hb:Below w.heap.size w w') (hlo:w.heap.size≤b6) (hhi:b6 < w'.heap.size) (h:∀ b,X.MI b→w'.heap[b]? = X.wI.heap[b]?):StC (X.more w' b6 h) k (fun b=>M b∨b=b6) Pr now w':=by
 have g:=st.grow hb
 have hno:¬ M b6:=fun hm=>by have:=st.lt _ hm;omega
 obtain ⟨v,ty,xs',h1,h2,h3,h4,h5⟩:=g.now
 refine ⟨C.turn st.j (Turn.of_below hb) fun b hm => ?_,fun b hm => ?_,fun b hm => ?_,⟨v,ty,xs',h1,.inl h2,h3,h4,fun b hb'=>⟨.inl (h5 b hb').1,?_,(h5 b hb').2.2⟩⟩,g.x,.inl g.mp.1,g.mp.2⟩
 ·rcases hm with hm | rfl
  ·exact ⟨g.lt b hm,.inl hm⟩
  ·exact ⟨hhi,.inr hlo⟩
 ·rcases hm with hm | rfl
  ·exact g.lt b hm
  ·exact hhi
 ·rcases hm with hm | rfl
  ·exact ⟨.inl (g.mi b hm).1,(g.mi b hm).2.1,(g.mi b hm).2.2.1,rfl⟩
  ·exact ⟨.inr rfl,fun e=>hno ((show b=X.bN from e) ▸ h2),fun e=>hno ((show b=X.bM from e) ▸ g.mp.1),rfl⟩
 ·rintro (hm | rfl)
  ·exact (h5 b hb').2.1 hm
  ·exact hno (h5 b hb').1
theorem StC.less {X:FxC C s} {k:Nat} {M:Nat→Prop} {Pr:Nat→Nat→Prop} {now:List Int} {w w1:World} {b6:Nat} {h:∀ b,X.MI b→w1.heap[b]? = X.wI.heap[b]?} (st:StC (X.more w1 b6 h) k M Pr now w):StC X k M Pr now w:=by
 obtain ⟨v,ty,xs',h1,h2,h3,h4,h5⟩:=st.now
 refine ⟨st.j,st.lt,fun b hm => ?_,⟨v,ty,xs',h1,h2,h3,h4,fun b hb=>⟨(h5 b hb).1,fun hm=>(h5 b hb).2.1 (.inl hm),(h5 b hb).2.2⟩⟩,st.x,st.mp⟩
 obtain ⟨q1,q2,q3,q4⟩:=st.mi b (.inl hm)
 exact ⟨q1,q2,q3,q4.trans (h b hm)⟩
theorem FrC.step {X:FxC C s} {a a':Act} (fr:FrC X a) (hsz:a'.tmps.size=70) (hds:a'.defers=[]) (h:∀ t,t < 5→a'.tmps.getD t undef=a.tmps.getD t undef):FrC X a' :=
 ⟨hsz,hds,(h 0 (by decide)).trans fr.t0,(h 1 (by decide)).trans fr.t1,(h 2 (by decide)).trans fr.t2,(h 3 (by decide)).trans fr.t3,(h 4 (by decide)).trans fr.t4⟩
theorem FrC.of {X:FxC C s} {a:Act} {w:World} {b6:Nat} {h:∀ b,X.MI b→w.heap[b]? = X.wI.heap[b]?} (fr:FrC X a):FrC (X.more w b6 h) a:=⟨fr.size,fr.defers,fr.t0,fr.t1,fr.t2,fr.t3,fr.t4⟩
def W5:Nat→Bool:=fun t=>decide (5≤t)
def W28:Nat→Bool:=fun t=>decide (28≤t)
theorem anyActs {P:Program} {ro:Option Nat} {m:Nat} {ops:Array Oper} {l:List Nat} {Q:Exit→Act→World→Prop} {a:Act} {w:World} (A:Act→Prop) (ha:A a) (h:∀ a,A a→wpOpsIn (FR ro) m P ops Q l a w):wpOpsIn (FR ro) m P ops Q l a w:=h a ha
theorem run_pickB {P:Program} {a:Act} {w:World} {o:Oper} {c x y:Operand} {b:Bool} (ho:o.op = .pick c x y) (hc:a.eval c = .bool b):(execOp a.eval o).run P w = .ok (.value (if b then a.eval x else a.eval y)) w:=by
 unfold execOp
 cases b<;>simp [ho,hc,asBool]
noncomputable def lo142:ACode:=ACode.snd (ACode.snd (ACode.snd (ACode.fst (ACode.snd (ACode.snd (ACode.snd c142))))))
noncomputable def in142:ACode:=ACode.snd (ACode.fst (ACode.snd (ACode.snd lo142)))
noncomputable def ap142:ACode:=ACode.snd (ACode.snd (ACode.snd in142))
noncomputable def at142:ACode:=ACode.fst (ACode.snd (ACode.snd in142))
def exL (len i:Nat) (n:Nat) (work:List Int) (v8:AV):Nat→AV:=fun t=>if t=6 then .ref [.int .i64 (n:Nat)] else if t=25 then vI work else if t=26 then .int .i64 (len:Nat) else if t=27 then .int .i64 (i:Nat) else if t=8 then v8 else .junk
set_option maxRecDepth 100000 in
theorem from_okC (s:CSheet) (hl:s.dry.length≤1000) (hb:dryOK s) (hwk:∀ x∈s.work,0≤x∧x < s.dry.length) (hwl:s.work.length≤1000) (hcl:s.coats.length≤1000) :
  ∀ (r:Nat) (X:FxC C s) (now:List Int) (k:Nat) (M:Nat→Prop) (Pr:Nat→Nat→Prop) (w:World) (tail:List AV),now.length+r=s.coats.length→(∀ x∈now,x∈s.work)→StC X k M Pr now w →
   xs.drop k=(plansI s r now).map vI++tail →
   Calls prog 142 #[.pointer (some ⟨X.bN,0,none⟩),.pointer (some ⟨X.bX,X.oX,none⟩),X.cY,X.cP,X.cR] w fun e w'=>∃ M' Pr',
    (e = .returned (.bool true)∧StC X (k+(plansI s r now).length) M' Pr' now w')∨(e = .returned (.bool false)∧C.X M' Pr' w'):=by
 intro r
 induction r using Nat.strongRecOn with
 |_ r ih =>
 intro X now k M Pr w tail hnr hnw st hxs
 refine (callsIn_FR (ro:=none) (m:=0)).1 (callsIn_of_wp func142 rfl trivial ?_)
 have fr:FrC X { tmps := #[.pointer (some ⟨X.bN,0,none⟩),.pointer (some ⟨X.bX,X.oX,none⟩),X.cY,X.cP,X.cR]++Array.replicate (f142.ntmps - 5) undef,defers:=[] } :=
  ⟨by simp [ntmps142],rfl,args_get _ _ 0 (by simp),args_get _ _ 1 (by simp),args_get _ _ 2 (by simp),args_get _ _ 3 (by simp),args_get _ _ 4 (by simp)⟩
 generalize hc:(fun e w'=>∃ M' Pr',(e=Ending.returned (.bool true)∧StC X (k+(plansI s r now).length) M' Pr' now w')∨(e = .returned (.bool false)∧C.X M' Pr' w'))=R
 have hnl:now.length≤s.coats.length:=by omega
 have hjunk:∀ (a:Act) (w:World),∀ t,5≤t→t < 70→(AV.junk).dem=AV.junk∧RV (fun b _=>b≠X.bM) noneA w AV.junk (a.tmps.getD t undef):=fun a w t _ _=>⟨rfl,.junk _⟩
 refine wpIn_seq ?_
 refine region_anew hGT hmix (ac:=ACode.fst c142) (W:=W5) (by kernel_rfl) (by kernel_rfl) (by kernel_rfl) trivial (fun b _=>b≠X.bM) (slotsC X now fun _ => .junk) fr.size fr.defers (st.slots_ok fr (hjunk _ _)) (K:=fun _ _=>True) ?_ ?_
 ·simp [c142,ACode.fst,awp,aops,awanted,astep,apure,assignQ]
 intro g S' H' a w1 hg R1 _ hsame
 have fr:=fr.step R1.size (by rw [R1.defers,hg];rfl) fun t ht=>hsame t (by simp [W5];omega)
 have st:=st.grow (by have:=R1.below;rwa [R1.base] at this)
 clear hsame R1 hg g S' H'
 show Code.wpIn _ _ _ _ _ a w1
 refine wpIn_seq ?_
 refine region_anew hGT hmix (ac:=ACode.fst (ACode.snd c142)) (W:=W5) (by kernel_rfl) (by kernel_rfl) (by kernel_rfl) trivial (fun b _=>b≠X.bM) (slotsC X now fun _ => .junk) fr.size fr.defers (st.slots_ok fr (hjunk _ _)) (K:=fun S H=>S 6 = .box 6 0∧H 6=some [.int .i64 now.length]) ?_ ?_
 ·simp [c142,ACode.fst,ACode.snd,slotsC,awp_all,qs_all,ops_all,dops_all,ops_nil,dops_nil,ops_call,ops_callv,ops_alloc,ops_box,dops_call,dops_alloc,kO_eq,kD_eq,awanted,apure,ev,Eff.S,Eff.H,tmpOf,upd,putD,AL.start,AV.dem,AV.cells,AV.storable,AV.scells,splice,scrub,abin,loadA,HR.okB,post,ares,aress,ares1,AV.out,AV.isData,ints_len,ints_get,fz,fz1,AV.vw,AV.vw1,boxy,vI,int,undefA,assignQ,thenQ,blockQ,seqQ,panQ,prol,prolH,allocOf]
 intro g S' H' a w2 hg R1 ⟨s6,h6⟩ hsame
 have fr:=fr.step R1.size (by rw [R1.defers,hg];rfl) fun t ht=>hsame t (by simp [W5];omega)
 obtain ⟨b6,al6,e6⟩:=slot_box R1 (by decide) s6
 obtain ⟨cs,vs,ty6,k0,k1,k2,k3,k4,k5,k6,k7,k8⟩:=R1.box 6 b6 al6
 rw [h6] at k0
 cases k0
 have hv6:vs = #[.int .i64 now.length]:=by
  obtain ⟨v0,rfl⟩:=arr_one (vs:=vs) (by rw [← k5];rfl)
  have:=(RV.data (al:=noneA) _ _ (k6 0 (by simp) (by simp))).int_eq
  simp only [List.getElem_toArray,List.getElem_cons_zero] at this
  rw [this]
 subst hv6
 have hbl:Below w1.heap.size w1 w2:=by have:=R1.below;rwa [R1.base] at this
 have hlo:w1.heap.size≤b6:=by rw [R1.base] at k1;exact k1
 have hhi:=(Array.getElem?_eq_some_iff.1 k2).1
 have hmiX:∀ b,X.MI b→w2.heap[b]? = X.wI.heap[b]? := fun b hm=>(st.grow hbl).mi b hm |>.2.2.2
 have st1:=st.more (b6:=b6) hbl hlo hhi hmiX
 have fr1:FrC (X.more w2 b6 hmiX) a:=fr.of
 obtain ⟨Y,hY⟩:∃ Y,Y=X.more w2 b6 hmiX:=⟨_,rfl⟩
 have less:∀ {k:Nat} {M:Nat→Prop} {Pr:Nat→Nat→Prop} {w:World},StC Y k M Pr now w→StC X k M Pr now w:=fun h=>by rw [hY] at h;exact h.less
 have yN:Y.bN=X.bN:=by rw [hY];rfl
 have yM:Y.bM=X.bM:=by rw [hY];rfl
 have y6:∀ {now:List Int} {k:Nat} {M:Nat→Prop} {Pr:Nat→Nat→Prop} {w:World},StC Y k M Pr now w→w.heap[b6]? = some (.cells #[.int .i64 now.length] ty6 (0,0))∨True:=fun h => .inr trivial
 have c6:∀ {now':List Int} {k:Nat} {M:Nat→Prop} {Pr:Nat→Nat→Prop} {w:World},StC Y k M Pr now' w→w.heap[b6]? = some (.cells #[.int .i64 (now.length:Nat)] ty6 (0,0)):=fun h=>by
  rw [hY] at h
  exact (h.mi b6 (.inr rfl)).2.2.2.trans k2
 have r6:∀ {now':List Int} {k:Nat} {M:Nat→Prop} {Pr:Nat→Nat→Prop} {w:World},StC Y k M Pr now' w→RV (fun b _=>b≠X.bM) noneA w (.ref [.int .i64 (now.length:Nat)]) (.pointer (some ⟨b6,0,none⟩)):=fun h=>by
  have h6:=c6 h
  refine .data _ _ (.ref _ _ _ (fun _ => .int .i64 (now.length:Nat)) (fun i hi => ?_) (fun k hk=>⟨?_,?_⟩) (fun k hk => ?_))
  ·have:i=0:=by simpa using hi
   subst this;rfl
  ·rw [hY] at h
   exact (h.mi b6 (.inr rfl)).2.2.1
  ·have:k=0:=by simpa using hk
   subst this
   simp [World.cell?,h6]
  ·have:k=0:=by simpa using hk
   subst this
   exact .int _ _
 rw [← hY] at st1 fr1
 have hret:∀ {b:Bool} {a:Act} {w':World},a.defers=[]→a.tmps.getD 5 undef = .bool b→R (.returned (.bool b)) w'→bodyPost prog f142 R .ret a w':=fun hd h5 hR=>⟨hd,_,results_tmp results142 h5,hR⟩
 clear hsame R1 hg g S' H' s6 h6 al6 k1 k3 k4 k5 k6 k7 k8 y6 st fr hbl
 show Code.wpIn _ _ _ _ _ a w2
 obtain ⟨ex6,hex6⟩:∃ ex6:Nat→AV,ex6=fun t=>if t=6 then .ref [.int .i64 (now.length:Nat)] else .junk:=⟨_,rfl⟩
 have hx6:∀ {now':List Int} {k:Nat} {M:Nat→Prop} {Pr:Nat→Nat→Prop} {w:World} {a:Act},StC Y k M Pr now' w→a.tmps.getD 6 undef = .pointer (some ⟨b6,0,none⟩)→∀ t,5≤t→t < 70→(ex6 t).dem=ex6 t∧RV (fun b _=>b≠X.bM) noneA w (ex6 t) (a.tmps.getD t undef):=fun h e6 t _ _=>by
  rw [hex6]
  by_cases ht:t=6
  ·subst ht
   rw [e6]
   exact ⟨rfl,r6 h⟩
  ·simp only [ht,if_false]
   exact ⟨rfl,.junk _⟩
 refine wpIn_seq (wpIn_seq ?_)
 refine region_anew hGT hmix (ac:=ACode.fst (ACode.fst (ACode.snd (ACode.snd c142)))) (W:=fun t=>decide (7≤t)) (by kernel_rfl) (by kernel_rfl) (by kernel_rfl) trivial (fun b _=>b≠Y.bM) (slotsC Y now ex6) fr1.size fr1.defers (st1.slots_ok fr1 (by rw [yM];exact hx6 st1 e6)) (K:=fun S _=>S 18 = .bool (decide (r=0))) ?_ ?_
 ·have hr:((now.length:Int)=s.coats.length)↔r=0:=by omega
  rw [hex6]
  simp [c142,ACode.fst,ACode.snd,slotsC,shopL,cshL,endsA,awp_all,qs_all,ops_all,dops_all,ops_nil,dops_nil,ops_call,ops_callv,ops_alloc,ops_box,dops_call,dops_alloc,kO_eq,kD_eq,awanted,apure,ev,Eff.S,Eff.H,tmpOf,upd,putD,AL.start,AV.dem,AV.cells,AV.storable,AV.scells,splice,scrub,abin,loadA,HR.okB,post,ares,aress,ares1,AV.out,AV.isData,ints_len,ints_get,fz,fz1,AV.vw,AV.vw1,boxy,vI,int,undefA,assignQ,thenQ,blockQ,seqQ,panQ,prol,prolH,allocOf]
  rw [Bool.eq_iff_iff]
  simp
  omega
 intro g S' H' a w3 hg R1 s18 hsame
 have fr:=fr1.step R1.size (by rw [R1.defers,hg];rfl) fun t ht=>hsame t (by simp;omega)
 have st:=st1.grow (by have:=R1.below;rwa [R1.base] at this)
 have e6:a.tmps.getD 6 undef = .pointer (some ⟨b6,0,none⟩):=(hsame 6 rfl).trans e6
 have t18:=R1.slot 18 (by decide) id
 rw [s18] at t18
 have e18:=t18.bool_eq
 clear t18 hsame R1 hg g S' H' s18
 show Code.wpIn _ _ _ _ _ a w3
 refine wpIn_cond (t:=decide (r=0)) e18 ?_
 cases r with
 |zero =>
  simp only [decide_true,if_true]
  have hch:plansI s 0 now=[now]:=rfl
  rw [hch] at hxs hc
  refine wpIn_seq ?_
  refine cut_anew hGT hmix (n:=70) (p:=3) (W:=W5) (l:=(ACode.dl (ACode.fst (ACode.lft (ACode.snd (ACode.fst (ACode.snd (ACode.snd c142))))))).take 3) (by kernel_rfl) (by kernel_rfl) (by kernel_rfl) (by kernel_rfl) (by kernel_rfl) (by kernel_rfl) trivial (fun b _=>b≠Y.bM) (slotsC Y now ex6) fr.size fr.defers (st.slots_ok fr (by rw [yM];exact hx6 st e6))
   (K:=fun S _=>S 19 = .val (.func (.yield l) #[] #[])∧S 21 = .slice (if (ints now).isEmpty then .nil else .own 3) (ints now)) ?_ ?_
  ·simp [c142,ACode.fst,ACode.snd,ACode.lft,ACode.dl,prol,prolH,allocOf,dops,awanted,dstep,apure,astep,Eff.S,Eff.H,ev,upd,putD,slotsC,loadA,AV.dem,AV.vw,AV.cells,AV.storable,AV.vw1,fz,fz1,acall,onOut,vI]
   refine ⟨rfl,by kernel_rfl,_,ac124 hGT _ (ints_ok now) (by rw [ints_len];omega),by simp [boxy],?_⟩
   by_cases ho:ints now=[]<;>simp [ho,upd]
  ·intro g' S' H' a w4 hg R3 ⟨hy,h21⟩ hsame
   have hbl:Below w3.heap.size w3 w4:=by have:=R3.below;rwa [R3.base] at this
   have fr:=fr.step R3.size (by rw [R3.defers,hg];rfl) fun t ht=>hsame t (by simp [W5];omega)
   have st3:=st.grow hbl
   have e19:=(R3.slot 19 (by decide) id)
   rw [hy] at e19
   have e19:=e19.val_eq
   obtain ⟨i3,hi3,hs3⟩:=info_size (P:=prog) (t:=3) (s:=1) (by kernel_rfl)
   have f21:=R3.freshSlice (t:=21) (by decide) (e:=3) hi3 (es:=ints now) h21 (fun x hx=>by obtain ⟨k,_,rfl⟩:=List.mem_map.1 hx;exact ⟨hs3.symm,rfl,fun c hc=>by simp [AV.cells] at hc;subst hc;rfl⟩) (fun x hx c hc=>by obtain ⟨k,_,rfl⟩:=List.mem_map.1 hx;simp [AV.cells] at hc;subst hc;rfl)
   rw [R3.base] at f21
   let G:Nat→Prop:=fun b=>w3.heap.size≤b∧b < w4.heap.size
   have hj:C.J k (fun b=>(M b∨b=b6)∨G b) Pr w4:=C.turn st.j (Turn.of_below hbl) fun b hb=>by
    rcases hb with hb | hb
    ·exact ⟨st3.lt b hb,.inl hb⟩
    ·exact ⟨hb.2,.inr hb.1⟩
   have hkx:k < xs.length:=by
    have:=congrArg List.length hxs
    simp at this;omega
   have hxk:xs[k]=vI now:=by
    have:=congrArg (·[0]?) hxs
    simp at this
    rw [List.getElem?_eq_getElem hkx] at this
    exact Option.some.inj this
   have hx:RD (fun b j=>Pr b j∨(G b∧j < g'.hi b)) w4 xs[k] (a.tmps.getD 21 undef):=by
    rw [hxk]
    exact f21.mono (Keeps.same fun b j _ h => .inr h)
   obtain ⟨ff,tmps,asg,bd,hy1,hround⟩:=C.round hkx G g'.hi _ hj (fun b hb => .inr hb) hx
   show wpOpsIn _ _ _ _ _ [3,4] a w4
   refine opIn_round rfl rfl (by rfl) ?_ hround ?_
   ·exact (run_callv_yield (f := .tmp 19) (x := .tmp 21) w4 rfl rfl rfl e19).trans hy1
   ·rintro e w5 ⟨hs4,Pr',hkp,hend⟩
    have hst:∀ {k'},C.J k' (fun b=>((M b∨b=b6)∨G b)∧¬ G b) Pr' w5→StC Y k' (fun b=>((M b∨b=b6)∨G b)∧¬ G b) Pr' now w5:=fun hj=>st3.after hj (fun b hg hm=>by have:=st.lt b hm;have:=hg.1;omega) hs4 hkp
    obtain ⟨b,rfl,hR⟩:∃ b:Bool,e = .returned (.bool b)∧R (.returned (.bool b)) w5:=by
     rcases hend with ⟨rfl,hj'⟩ | ⟨rfl,hx'⟩
     ·exact ⟨true,rfl,by rw [← hc];exact ⟨_,_,.inl ⟨rfl,less (hst hj')⟩⟩⟩
     ·exact ⟨false,rfl,by rw [← hc];exact ⟨_,_,.inr ⟨rfl,hx'⟩⟩⟩
    refine ⟨_,rfl,?_⟩
    have h22:(a.put (some 22) (.bool b)).tmps.getD 22 undef = .bool b:=by simp [Act.put,fr.size]
    refine opIn_val rfl rfl (by rfl) (v := .bool b) (w':=w5) ((run_assign (x := .tmp 22) w5 rfl).trans (congrArg (fun v=>Result.ok (Next.value v) w5) h22)) ?_
    show Code.wpIn _ _ _ _ _ _ _
    have h5:((a.put (some 22) (.bool b)).put (some 5) (.bool b)).tmps.getD 5 undef = .bool b:=by simp [Act.put,fr.size]
    exact wpIn_ret (hret fr.defers h5 hR)
 |succ r =>
  simp only [Nat.succ_ne_zero,decide_false,Bool.false_eq_true,if_false]
  refine wpIn_skip ?_
  show Code.wpIn _ _ _ _ _ a w3
  have hgp:∀ (a:Act) (d t:Nat) (c:Value),t≠d→(a.put (some d) c).tmps.getD t undef=a.tmps.getD t undef:=fun a d t c h=>by
   simp [Act.put,Array.getElem?_setIfInBounds_ne (Ne.symm h)]
  have hgs:∀ (a:Act) (d:Nat) (c:Value),a.tmps.size=70→d < 70→(a.put (some d) c).tmps.getD d undef=c:=fun a d c h hd=>by
   simp [Act.put,h,hd]
  have hps:∀ (a:Act) (d:Option Nat) (c:Value),(a.put d c).tmps.size=a.tmps.size:=fun a d c=>by cases d<;>simp [Act.put]
  have frput:∀ {a:Act} {d:Nat} {c:Value},FrC Y a→5≤d→FrC Y (a.put (some d) c):=fun h hd=>h.step (by rw [hps];exact h.size) h.defers fun t ht=>hgp _ _ _ _ (by omega)
  obtain ⟨d28,hd28,hd28'⟩:=under_agg (P:=prog) (t:=28) (by kernel_rfl)
  have hu28:prog.underlying 28=some (.slice 3):=by kernel_rfl
  obtain ⟨ad25,cap25,f25⟩:=slice_form (st.x 1 (by decide)).2.2
  rw [ints_len] at f25
  refine wpIn_seq (wpIn_seq (wpIn_region ?_))
  show wpOpsIn _ _ _ _ _ [0,1,2,3,4] a w3
  refine opIn_val rfl rfl (by rfl) (run_fieldAddrC (s:=89) (j:=0) (off0:=0) (sz:=3) (x := .tmp 1) (by kernel_rfl) (by decide) rfl fr.t1) ?_
  show wpOpsIn _ _ _ _ _ [1,2,3,4] (a.put (some 23) (.pointer (some ⟨Y.bX,Y.oX+0,none⟩))) w3
  refine anyActs (fun a=>FrC Y a∧a.tmps.getD 6 undef = .pointer (some ⟨b6,0,none⟩)∧a.tmps.getD 23 undef = .pointer (some ⟨Y.bX,Y.oX+0,none⟩)) ⟨frput fr (by decide),by rw [hgp _ _ _ _ (by decide)];exact e6,hgs _ _ _ fr.size (by decide)⟩ ?_
  clear e6 fr e18 a
  rintro a ⟨fr,e6,e23⟩
  refine opIn_val rfl rfl (by rfl) (run_fieldAddrC (s:=30) (j:=1) (off0:=1) (sz:=1) (x := .tmp 23) (by kernel_rfl) (by decide) rfl e23) ?_
  show wpOpsIn _ _ _ _ _ [2,3,4] (a.put (some 24) (.pointer (some ⟨Y.bX,Y.oX+1,none⟩))) w3
  refine anyActs (fun a=>FrC Y a∧a.tmps.getD 6 undef = .pointer (some ⟨b6,0,none⟩)∧a.tmps.getD 24 undef = .pointer (some ⟨Y.bX,Y.oX+1,none⟩)) ⟨frput fr (by decide),by rw [hgp _ _ _ _ (by decide)];exact e6,hgs _ _ _ fr.size (by decide)⟩ ?_
  clear e6 fr e23 a
  rintro a ⟨fr,e6,e24⟩
  refine opIn_val rfl rfl (by rfl) (run_load1 (t:=28) (x := .tmp 24) (v:=Y.fx 1) rfl e24 hd28 hd28' (st.x 1 (by decide)).2.1) ?_
  show wpOpsIn _ _ _ _ _ [3,4] (a.put (some 25) (Y.fx 1)) w3
  refine anyActs (fun a=>FrC Y a∧a.tmps.getD 6 undef = .pointer (some ⟨b6,0,none⟩)∧a.tmps.getD 25 undef=Y.fx 1) ⟨frput fr (by decide),by rw [hgp _ _ _ _ (by decide)];exact e6,hgs _ _ _ fr.size (by decide)⟩ ?_
  clear e6 fr e24 a
  rintro a ⟨fr,e6,e25⟩
  refine opIn_val rfl rfl (by rfl) (run_lenL rfl rfl rfl rfl hu28 (show a.eval (.tmp 25)=_ from e25.trans f25)) ?_
  show wpOpsIn _ _ _ _ _ [4] (a.put (some 26) (.int .i64 (s.work.length:Nat))) w3
  refine anyActs (fun a=>FrC Y a∧a.tmps.getD 6 undef = .pointer (some ⟨b6,0,none⟩)∧a.tmps.getD 25 undef=Y.fx 1∧a.tmps.getD 26 undef = .int .i64 (s.work.length:Nat)) ⟨frput fr (by decide),by rw [hgp _ _ _ _ (by decide)];exact e6,by rw [hgp _ _ _ _ (by decide)];exact e25,hgs _ _ _ fr.size (by decide)⟩ ?_
  clear e6 fr e25 a
  rintro a ⟨fr,e6,e25,e26⟩
  refine opIn_val rfl rfl (by rfl) (run_move (x := .const (.int .i64 0)) w3 rfl) ?_
  show Code.wpIn _ _ _ _ _ (a.put (some 27) (.int .i64 ((0:Nat):Int))) w3
  refine anyAct (fun a=>FrC Y a∧a.tmps.getD 6 undef = .pointer (some ⟨b6,0,none⟩)∧a.tmps.getD 25 undef=Y.fx 1∧a.tmps.getD 26 undef = .int .i64 (s.work.length:Nat)∧a.tmps.getD 27 undef = .int .i64 ((0:Nat):Int)) ⟨frput fr (by decide),by rw [hgp _ _ _ _ (by decide)];exact e6,by rw [hgp _ _ _ _ (by decide)];exact e25,by rw [hgp _ _ _ _ (by decide)];exact e26,hgs _ _ _ fr.size (by decide)⟩ ?_
  clear e6 fr e25 e26 a
  rintro a ⟨fr,e6,e25,e26,e27⟩
  obtain ⟨rem,hrem⟩:∃ rem:Nat→List (List Int),rem=fun i=>(s.work.drop i).flatMap fun x=>if okDay s r now x then plansI s r (now++[x]) else []:=⟨_,rfl⟩
  have hpl:plansI s (r+1) now=rem 0:=by rw [hrem];rfl
  rw [hpl] at hxs hc
  obtain ⟨FA,hFA⟩:∃ FA:Nat→Act→Prop,FA=fun i a=>FrC Y a∧a.tmps.getD 6 undef = .pointer (some ⟨b6,0,none⟩)∧a.tmps.getD 25 undef=Y.fx 1∧a.tmps.getD 26 undef = .int .i64 (s.work.length:Nat)∧a.tmps.getD 27 undef = .int .i64 (i:Nat):=⟨_,rfl⟩
  have fa:FA 0 a:=by rw [hFA];exact ⟨fr,e6,e25,e26,e27⟩
  have faS:∀ {i:Nat} {a a':Act} {W:Nat→Bool},FA i a→a'.tmps.size=70→a'.defers=[]→Same W a a'→(∀ t,t < 28→t≠8→t≠9→t≠10→W t=false)→FA i a':=by
   intro i a a' W h hsz hds hs hW
   rw [hFA] at h ⊢
   obtain ⟨fr,e6,e25,e26,e27⟩:=h
   exact ⟨fr.step hsz hds fun t ht=>hs t (hW t (by omega) (by omega) (by omega) (by omega)),(hs 6 (hW 6 (by decide) (by decide) (by decide) (by decide))).trans e6,(hs 25 (hW 25 (by decide) (by decide) (by decide) (by decide))).trans e25,(hs 26 (hW 26 (by decide) (by decide) (by decide) (by decide))).trans e26,(hs 27 (hW 27 (by decide) (by decide) (by decide) (by decide))).trans e27⟩
  have faX:∀ {i:Nat} {a:Act} {k:Nat} {M:Nat→Prop} {Pr:Nat→Nat→Prop} {w:World} {v8:AV},FA i a→StC Y k M Pr now w→(v8.dem=v8∧RV (fun b _=>b≠Y.bM) noneA w v8 (a.tmps.getD 8 undef)) →
    ∀ t,t < 70→(slotsC Y now (exL s.work.length i now.length s.work v8) t).dem=slotsC Y now (exL s.work.length i now.length s.work v8) t∧RV (fun b _=>b≠Y.bM) noneA w (slotsC Y now (exL s.work.length i now.length s.work v8) t) (a.tmps.getD t undef):=by
   intro i a k M Pr w v8 h st h8
   rw [hFA] at h
   obtain ⟨fr,e6,e25,e26,e27⟩:=h
   refine st.slots_ok fr fun t h5 ht => ?_
   unfold exL
   by_cases t6:t=6
   ·subst t6;rw [if_pos rfl,e6];exact ⟨rfl,by rw [yM];exact r6 st⟩
   rw [if_neg t6]
   by_cases t25:t=25
   ·subst t25
    rw [if_pos rfl,e25]
    exact ⟨rfl,.data _ _ ((st.x 1 (by decide)).2.2.mono (Keeps.same fun b k _ hp=>by rintro rfl;exact C.apart st.j _ k st.mp.1 hp))⟩
   rw [if_neg t25]
   by_cases t26:t=26
   ·subst t26;rw [if_pos rfl,e26];exact ⟨rfl,.data _ _ (.int _ _)⟩
   rw [if_neg t26]
   by_cases t27:t=27
   ·subst t27;rw [if_pos rfl,e27];exact ⟨rfl,.data _ _ (.int _ _)⟩
   rw [if_neg t27]
   by_cases t8:t=8
   ·subst t8;rw [if_pos rfl];exact h8
   rw [if_neg t8];exact ⟨rfl,.junk _⟩
  have fad:∀ {i:Nat} {a:Act},FA i a→a.tmps.size=70∧a.defers=[]∧FrC Y a:=fun h=>by rw [hFA] at h;exact ⟨h.1.size,h.1.defers,h.1⟩
  obtain ⟨NB,hNB⟩:∃ NB:Nat→Nat→World→Prop,NB=fun i k' w=>∃ M' Pr',StC Y k' M' Pr' now w∧xs.drop k'=(rem i).map vI++tail∧k'+(rem i).length=k+(rem 0).length:=⟨_,rfl⟩
  clear e6 fr e25 e26 e27
  refine wpIn_block (wpIn_loop (fun a w=>∃ i k',FA i a∧i≤s.work.length∧NB i k' w) (fun a _=>match a.tmps.getD 27 undef with | .int _ i=>s.work.length - i.toNat | _=>0) ⟨0,k,fa,Nat.zero_le _,by rw [hNB];exact ⟨_,_,st,hxs,rfl⟩⟩ ?_)
  clear fa st hxs a
  rintro a wl ⟨i,k',fa,hi,hnb⟩
  have e27:a.tmps.getD 27 undef = .int .i64 (i:Nat):=by rw [hFA] at fa;exact fa.2.2.2.2
  rw [hNB] at hnb
  obtain ⟨M',Pr',st,hxs,hcnt⟩:=hnb
  have j8:∀ (a:Act) (w:World),(AV.junk).dem=AV.junk∧RV (fun b _=>b≠Y.bM) noneA w AV.junk (a.tmps.getD 8 undef):=fun a w=>⟨rfl,.junk _⟩
  refine wpIn_seq ?_
  refine region_anew hGT hmix (ac:=ACode.fst lo142) (W:=W28) (by kernel_rfl) (by kernel_rfl) (by kernel_rfl) trivial (fun b _=>b≠Y.bM) (slotsC Y now (exL s.work.length i now.length s.work .junk)) (fad fa).1 (fad fa).2.1 (faX fa st (j8 _ _)) (K:=fun S _=>S 28 = .bool (decide (i < s.work.length))) ?_ ?_
  ·simp [c142,lo142,ACode.fst,ACode.snd,slotsC,exL,awp_all,qs_all,ops_all,dops_all,ops_nil,dops_nil,ops_call,ops_callv,ops_alloc,ops_box,dops_call,dops_alloc,kO_eq,kD_eq,awanted,apure,ev,Eff.S,Eff.H,tmpOf,upd,putD,AL.start,AV.dem,AV.cells,AV.storable,AV.scells,splice,scrub,abin,loadA,HR.okB,post,ares,aress,ares1,AV.out,AV.isData,ints_len,ints_get,fz,fz1,AV.vw,AV.vw1,boxy,vI,int,undefA,assignQ,thenQ,blockQ,seqQ,panQ,prol,prolH,allocOf]
  intro g S' H' a4 w4 hg R1 s28 hsame
  have fa:=faS fa R1.size (by rw [R1.defers,hg];rfl) hsame (fun t h _ _ _=>by simp [W28];omega)
  have st:=st.grow (by have:=R1.below;rwa [R1.base] at this)
  have t28:=R1.slot 28 (by decide) id
  rw [s28] at t28
  have e28:=t28.bool_eq
  clear t28 hsame R1 hg g S' H' s28
  show Code.wpIn _ _ _ _ _ a4 w4
  refine wpIn_seq (wpIn_cond (t:=decide (i < s.work.length)) e28 ?_)
  by_cases hlt:i < s.work.length
  case neg =>
   simp only [hlt,decide_false,Bool.false_eq_true,if_false]
   refine wpIn_exit ?_
   have hil:rem i=[]:=by rw [hrem];simp only;rw [List.drop_eq_nil_of_le (by omega)];rfl
   rw [hil] at hcnt
   show Code.wpIn _ _ _ _ _ a4 w4
   refine wpIn_seq (wpIn_region ?_)
   show wpOpsIn _ _ _ _ _ [0] a4 w4
   refine opIn_val rfl rfl (by rfl) (v := .bool true) (w':=w4) (run_assign (x := .const (.bool true)) w4 rfl) ?_
   show Code.wpIn _ _ _ _ _ (a4.put (some 5) (.bool true)) w4
   refine wpIn_ret (hret (fad fa).2.1 (hgs _ _ _ (fad fa).1 (by decide)) ?_)
   rw [← hc]
   refine ⟨M',Pr',.inl ⟨rfl,?_⟩⟩
   rw [← hcnt]
   exact less st
  case pos =>
   simp only [hlt,decide_true,if_true]
   refine wpIn_skip ?_
   show Code.wpIn _ _ _ _ _ a4 w4
   obtain ⟨x,hx⟩:∃ x,s.work[i]=x:=⟨_,rfl⟩
   have hxm:x∈s.work:=by rw [← hx];exact List.getElem_mem hlt
   obtain ⟨hx0,hxn⟩:=hwk x hxm
   obtain ⟨xn,rfl⟩:∃ xn:Nat,x=xn:=⟨x.toNat,by omega⟩
   have hri:rem i=(if okDay s r now xn then plansI s r (now++[(xn:Int)]) else [])++rem (i+1):=by
    rw [hrem]
    simp only
    rw [List.drop_eq_getElem_cons hlt,List.flatMap_cons,hx]
   rw [hri] at hxs hcnt
   obtain ⟨NX,hNX⟩:∃ NX:World→Prop,NX=fun w=>∃ k',NB (i+1) k' w:=⟨_,rfl⟩
   have skipD:∀ {M:Nat→Prop} {Pr:Nat→Nat→Prop} {w:World},okDay s r now xn=false→StC Y k' M Pr now w→NX w:=fun hno st=>by
    rw [hNX,hNB]
    rw [hno] at hxs hcnt
    exact ⟨k',_,_,st,by simpa using hxs,by simpa using hcnt⟩
   refine wpIn_seq (wpIn_block (wpIn_mono (Q:=fun e a w=>((e = .normal∨e = .exit 1)∧FA i a∧NX w)∨(e = .ret∧bodyPost prog f142 R .ret a w)) ?_ ?_))
   ·
    have fa0:=fad fa
    refine wpIn_seq ?_
    refine region_anew hGT hmix (ac:=ACode.fst in142) (W:=fun t=>decide (28≤t) || t==8) (by kernel_rfl) (by kernel_rfl) (by kernel_rfl) trivial (fun b _=>b≠Y.bM) (slotsC Y now (exL s.work.length i now.length s.work .junk)) fa0.1 fa0.2.1 (faX fa st (j8 _ _)) (K:=fun S H=>S 8 = .box 8 0∧H 8=some [.int .i64 (xn:Nat)]) ?_ ?_
    ·simp [c142,in142,lo142,ACode.fst,ACode.snd,slotsC,exL,hlt,hx,awp_all,qs_all,ops_all,dops_all,ops_nil,dops_nil,ops_call,ops_callv,ops_alloc,ops_box,dops_call,dops_alloc,kO_eq,kD_eq,awanted,apure,ev,Eff.S,Eff.H,tmpOf,upd,putD,AL.start,AV.dem,AV.cells,AV.storable,AV.scells,splice,scrub,abin,loadA,HR.okB,post,ares,aress,ares1,AV.out,AV.isData,ints_len,ints_get,fz,fz1,AV.vw,AV.vw1,boxy,vI,int,undefA,assignQ,thenQ,blockQ,seqQ,panQ,prol,prolH,allocOf]
    intro g S' H' a5 w5 hg R1 ⟨s8,h8⟩ hsame
    have fa:=faS fa R1.size (by rw [R1.defers,hg];rfl) hsame (fun t h h8 _ _=>by simp [h8];omega)
    have hbl:Below w4.heap.size w4 w5:=by have:=R1.below;rwa [R1.base] at this
    obtain ⟨b8,al8,e8⟩:=slot_box R1 (by decide) s8
    obtain ⟨cs,vs,ty8,k0,k1,k2,k3,k4,k5,k6,k7,k8⟩:=R1.box 8 b8 al8
    rw [h8] at k0
    cases k0
    have hv8:vs = #[.int .i64 (xn:Nat)]:=by
     obtain ⟨v0,rfl⟩:=arr_one (vs:=vs) (by rw [← k5];rfl)
     have:=(RV.data (al:=noneA) _ _ (k6 0 (by simp) (by simp))).int_eq
     simp only [List.getElem_toArray,List.getElem_cons_zero] at this
     rw [this]
    subst hv8
    have hlo8:w4.heap.size≤b8:=by rw [R1.base] at k1;exact k1
    have hM8:b8≠Y.bM:=by rintro rfl;have:=st.lt _ st.mp.1;omega
    have st:=st.grow hbl
    have q8:w5.heap[b8]? = some (.cells #[.int .i64 (xn:Nat)] ty8 (0,0)):=k2
    have r8:∀ {w:World},w.heap[b8]? = some (.cells #[.int .i64 (xn:Nat)] ty8 (0,0))→RV (fun b _=>b≠Y.bM) noneA w (.ref [.int .i64 (xn:Nat)]) (.pointer (some ⟨b8,0,none⟩)):=fun h=>by
     refine .data _ _ (.ref _ _ _ (fun _ => .int .i64 (xn:Nat)) (fun i hi => ?_) (fun k hk=>⟨hM8,?_⟩) (fun k hk => ?_))
     ·have:i=0:=by simpa using hi
      subst this;rfl
     ·have:k=0:=by simpa using hk
      subst this
      simp [World.cell?,h]
     ·have:k=0:=by simpa using hk
      subst this
      exact .int _ _
    clear hsame R1 hg g S' H' s8 h8 al8 k1 k2 k3 k4 k5 k6 k7 k8 fa0
    have st5:=st
    show Code.wpIn _ _ _ _ _ a5 w5
    have faX8:∀ {a:Act} {k:Nat} {M:Nat→Prop} {Pr:Nat→Nat→Prop} {w:World},FA i a→a.tmps.getD 8 undef = .pointer (some ⟨b8,0,none⟩)→w.heap[b8]? = some (.cells #[.int .i64 (xn:Nat)] ty8 (0,0))→StC Y k M Pr now w→_:=fun {a} {k} {M} {Pr} {w} fa e8 q8 st=>faX (v8 := .ref [.int .i64 (xn:Nat)]) fa st ⟨rfl,by rw [e8];exact r8 q8⟩
    obtain ⟨skip,hskip⟩:∃ skip:Bool,skip=(match now.getLast? with | none=>false | some d=>decide ((xn:Int)≤d)):=⟨_,rfl⟩
    refine wpIn_seq (wpIn_seq ?_)
    refine cut_anewT hGT hmix (n:=70) (p:=16) (W:=W28) (l:=(ACode.dl (ACode.fst (ACode.fst (ACode.snd in142)))).take 16) (by kernel_rfl) (by kernel_rfl) (by kernel_rfl) (by kernel_rfl) (by kernel_rfl) (by kernel_rfl) trivial (fun b _=>b≠Y.bM) (slotsC Y now (exL s.work.length i now.length s.work (.ref [.int .i64 (xn:Nat)]))) (fad fa).1 (fad fa).2.1 (faX8 fa e8 q8 st)
     (K:=fun S _=>S 42 = .bool skip∧(skip=false→S 43=shopA s∧S 44 = .int .i64 now.length∧S 45 = .int .i64 (xn:Nat)∧S 46 = .val (mapV Y.bM))) ?_ ?_
    ·rw [hskip]
     cases hgl:now.getLast? with
     |none =>
      have hn0:now=[]:=by cases now with | nil=>rfl | cons _ _=>simp at hgl
      subst hn0
      simp [c142,in142,lo142,ACode.fst,ACode.snd,ACode.dl,prol,prolH,allocOf,dops,awanted,dstep,apure,astep,Eff.S,Eff.H,ev,upd,putD,slotsC,exL,loadA,AV.dem,AV.vw,AV.cells,AV.storable,AV.vw1,vI,ints,abin,undefA,shopA,shopL,cshL]
     |some dl =>
      have hne:now≠[]:=by rintro rfl;cases hgl
      have hpos:0 < now.length:=by cases now with | nil=>exact absurd rfl hne | cons _ _=>simp
      have hwn:IntKind.i64.wrap ((now.length:Int) - 1)=((now.length - 1:Nat):Int):=by rw [wrapI (by omega)];omega
      have n1:¬ ((now.length - 1:Nat):Int) < 0:=by omega
      have n2:now.length - 1 < now.length:=by omega
      have hg':now[now.length - 1]'(by omega)=dl:=by
       rw [List.getLast?_eq_getElem?,List.getElem?_eq_getElem (by omega)] at hgl
       exact Option.some.inj hgl
      by_cases hle:(xn:Int)≤dl <;>
      simp [c142,in142,lo142,ACode.fst,ACode.snd,ACode.dl,prol,prolH,allocOf,dops,awanted,dstep,apure,astep,Eff.S,Eff.H,ev,upd,putD,slotsC,exL,loadA,AV.dem,AV.vw,AV.cells,AV.storable,AV.vw1,vI,ints,abin,undefA,shopA,shopL,cshL,hpos,hwn,n1,n2,hg',hle]
    intro g S' H' a6 w6 hg R1 ⟨s42,hns⟩ hsame
    show wpOpsIn _ _ _ _ _ [16,17,18] a6 w6
    have fa5:=fa
    have fa:=faS fa R1.size (by rw [R1.defers,hg];rfl) hsame (fun t h _ _ _=>by simp [W28];omega)
    have hbl6:Below w5.heap.size w5 w6:=by have:=R1.below;rwa [R1.base] at this
    have e8:a6.tmps.getD 8 undef = .pointer (some ⟨b8,0,none⟩):=(hsame 8 rfl).trans e8
    have hl8:b8 < w5.heap.size:=(Array.getElem?_eq_some_iff.1 q8).1
    have q8:w6.heap[b8]? = some (.cells #[.int .i64 (xn:Nat)] ty8 (0,0)):=(hbl6.block b8 hl8).trans q8
    have st:=st.grow hbl6
    have e42:a6.tmps.getD 42 undef = .bool skip:=by
     have:=R1.slot 42 (by decide) id
     rw [s42] at this
     exact this.bool_eq
    have sz6:=R1.size
    cases skip with
    |true =>
     have hno:okDay s r now xn=false:=by
      unfold okDay
      cases hgl:now.getLast? with
      |none=>rw [hgl] at hskip;cases hskip
      |some dl =>
       rw [hgl] at hskip
       have:¬ dl < (xn:Int):=by have:=of_decide_eq_true hskip.symm;omega
       simp [this]
     refine rest_step R1 hGT trivial (l2:=[16,17,18]) (os2:=[_,_,_]) rfl (by kernel_rfl) (al:=(ACode.dl (ACode.fst (ACode.fst (ACode.snd in142)))).drop 16) (by kernel_rfl) (by kernel_rfl) (W:=W28) (by kernel_rfl) (by rw [hg];exact fun _ h=>h) (K:=fun S _=>S 49 = .bool true) ?_ ?_
     ·simp [c142,in142,lo142,ACode.fst,ACode.snd,ACode.dl,aops,awanted,astep,apure,Eff.S,Eff.H,ev,upd,putD,s42,undefA,AV.dem]
     intro g2 S2 H2 a7 w7 hg2 R2 s49 hsame2
     have fa:=faS fa R2.size (by rw [R2.defers,hg2,hg];rfl) hsame2 (fun t h _ _ _=>by simp [W28];omega)
     have e49:a7.tmps.getD 49 undef = .bool true:=by
      have:=R2.slot 49 (by decide) id
      rw [s49] at this
      exact this.bool_eq
     have hbl7:Below w5.heap.size w5 w7:=by have:=R2.below;rwa [R2.base] at this
     show Code.wpIn _ _ _ _ _ a7 w7
     refine wpIn_cond (t:=true) e49 ?_
     simp only [if_true]
     exact wpIn_exit (.inl ⟨.inr rfl,fa,skipD hno (st5.grow hbl7)⟩)
    |false =>
     obtain ⟨s43,s44,s45,s46⟩:=hns rfl
     have r43:RD g.Pr w6 (shopA s) (a6.tmps.getD 43 undef):=by
      have:=R1.slot 43 (by decide) id
      rw [s43] at this
      exact this.toData rfl
     have e44:a6.tmps.getD 44 undef = .int .i64 (now.length:Nat):=slot_int R1 (by decide) s44
     have e45:a6.tmps.getD 45 undef = .int .i64 (xn:Nat):=slot_int R1 (by decide) s45
     have e46:a6.tmps.getD 46 undef=mapV Y.bM:=by
      have:=R1.slot 46 (by decide) id
      rw [s46] at this
      exact this.val_eq
     obtain ⟨hMM,es6,ck6,l6,m1,m2,m3⟩:=st.mp
     have hltM:Y.bM < w5.heap.size:=st5.lt _ st5.mp.1
     have hcall:=goes_ok s hl hb hwk hwl hcl r now.length xn (by omega) (by omega) w6 g.Pr Y.bM es6 ck6 l6 (a6.tmps.getD 43 undef) m1 m2 m3 (fun j hp=>by
      rcases hp with hp | hp
      ·rw [hg] at hp;exact hp.2 rfl
      ·have:=R1.base;omega) r43
     have wanted:∀ (a:Act),a.tmps.size=70→a.tmps.getD 42 undef = .bool false→a.tmps[42]? = some (.bool false):=fun a hs h=>by
      have h2:a.tmps[42]? = some (a.tmps.getD 42 undef):=by simp [hs]
      rw [h2,h]
     have e42':=wanted a6 sz6 e42
     refine opIn_callG rfl (by simp [Region.wanted,yielded,dstOf,e42']) (by rfl) (run_callF (k:=143) (args := #[a6.tmps.getD 43 undef,.int .i64 (now.length:Nat),.int .i64 (xn:Nat),mapV Y.bM]) w6 rfl rfl ?_ (by kernel_rfl)) hcall ?_
     ·simp only [List.map_toArray,List.map_cons,List.map_nil,Act.eval]
      rw [e44,e45,e46]
     rintro e w7 ⟨rfl,ht7,hM7⟩
     refine ⟨_,rfl,?_⟩
     obtain ⟨es7,ck7,l7,n1,n2,n3,_⟩:=hM7
     have st:=st.swap ht7 ⟨es7,ck7,l7,n1,n2,n3⟩
     have hl8':b8 < w6.heap.size:=(Array.getElem?_eq_some_iff.1 q8).1
     have q8:w7.heap[b8]? = some (.cells #[.int .i64 (xn:Nat)] ty8 (0,0)):=(ht7.block b8 hl8' hM8).trans q8
     obtain ⟨go,hgo⟩:∃ go,goesI s r now.length xn=go:=⟨_,rfl⟩
     rw [hgo]
     have z1:(a6.put (some 47) (.bool go)).tmps.size=70:=by rw [hps];exact sz6
     have f47:(a6.put (some 47) (.bool go)).tmps.getD 47 undef = .bool go:=hgs _ _ _ sz6 (by decide)
     have f42:=wanted _ z1 (by rw [hgp _ _ _ _ (by decide)];exact e42)
     refine opIn_valG rfl (by simp [Region.wanted,yielded,dstOf,f42]) (by rfl) (run_notB (x := .tmp 47) w7 rfl f47) ?_
     have z2:((a6.put (some 47) (.bool go)).put (some 48) (.bool !go)).tmps.size=70:=by rw [hps,hps];exact sz6
     have g48:((a6.put (some 47) (.bool go)).put (some 48) (.bool !go)).tmps.getD 48 undef = .bool !go:=hgs _ _ _ z1 (by decide)
     have g42:((a6.put (some 47) (.bool go)).put (some 48) (.bool !go)).tmps.getD 42 undef = .bool false:=by rw [hgp _ _ _ _ (by decide),hgp _ _ _ _ (by decide)];exact e42
     have e48:((a6.put (some 47) (.bool go)).put (some 48) (.bool !go)).eval (.tmp 48) = .bool !go:=g48
     refine opIn_val rfl rfl (by rfl) (v := .bool !go) (w':=w7) ((run_pickB (b:=false) (c := .tmp 42) (x := .const (.bool true)) (y := .tmp 48) rfl g42).trans (by simp only [Bool.false_eq_true,if_false];rw [e48])) ?_
     obtain ⟨a7,ha7⟩:∃ a7,((a6.put (some 47) (.bool go)).put (some 48) (.bool !go)).put (some 49) (.bool !go)=a7:=⟨_,rfl⟩
     have hsame7:Same W28 a6 a7:=fun t ht=>by
      have:t < 28:=by simp [W28] at ht;omega
      rw [← ha7,hgp _ _ _ _ (by omega),hgp _ _ _ _ (by omega),hgp _ _ _ _ (by omega)]
     have z7:a7.tmps.size=70:=by rw [← ha7,hps,hps,hps];exact sz6
     have d7:a7.defers=[]:=by rw [← ha7];exact (fad fa).2.1
     have fa:=faS fa z7 d7 hsame7 (fun t h _ _ _=>by simp [W28];omega)
     have e8:a7.tmps.getD 8 undef = .pointer (some ⟨b8,0,none⟩):=(hsame7 8 rfl).trans e8
     have e49:a7.tmps.getD 49 undef = .bool !go:=by rw [← ha7];exact hgs _ _ _ z2 (by decide)
     show Code.wpIn _ _ _ _ _ (((a6.put (some 47) (.bool go)).put (some 48) (.bool !go)).put (some 49) (.bool !go)) w7
     rw [ha7]
     clear e48 g48 g42 f42 f47 z1 z2 e42' e46 e45 e44 r43 s43 s44 s45 s46 hcall R1 hns s42 e42 hsame
     refine wpIn_cond (t := !go) e49 ?_
     cases go with
     |false =>
      simp only [Bool.not_false,if_true]
      refine wpIn_exit (.inl ⟨.inr rfl,fa,skipD ?_ st⟩)
      simp only [okDay,Int.toNat_natCast,hgo,Bool.false_and,Bool.and_false]
     |true =>
     simp only [Bool.not_true,Bool.false_eq_true,if_false]
     refine wpIn_skip ?_
     show Code.wpIn _ _ _ _ _ a7 w7
     refine wpIn_seq (wpIn_mono (Q:=fun e a w=>(e = .normal∧FA i a∧a.tmps.getD 8 undef = .pointer (some ⟨b8,0,none⟩)∧w.heap[b8]? = some (.cells #[.int .i64 (xn:Nat)] ty8 (0,0))∧(∃ M Pr,StC Y k' M Pr now w)∧okDay s r now xn=true)∨(e = .exit 1∧FA i a∧NX w)) ?_ ?_)
     ·refine wpIn_seq ?_
      refine region_anew hGT hmix (ac:=ACode.fst at142) (W:=W28) (by kernel_rfl) (by kernel_rfl) (by kernel_rfl) trivial (fun b _=>b≠Y.bM) (slotsC Y now (exL s.work.length i now.length s.work (.ref [.int .i64 (xn:Nat)]))) (fad fa).1 (fad fa).2.1 (faX8 fa e8 q8 st) (K:=fun S _=>S 51 = .bool (decide (0 < now.length))) ?_ ?_
      ·simp [c142,at142,in142,lo142,ACode.fst,ACode.snd,slotsC,exL,awp_all,qs_all,ops_all,dops_all,ops_nil,dops_nil,ops_call,ops_callv,ops_alloc,ops_box,dops_call,dops_alloc,kO_eq,kD_eq,awanted,apure,ev,Eff.S,Eff.H,tmpOf,upd,putD,AL.start,AV.dem,AV.cells,AV.storable,AV.scells,splice,scrub,abin,loadA,HR.okB,post,ares,aress,ares1,AV.out,AV.isData,ints_len,ints_get,fz,fz1,AV.vw,AV.vw1,boxy,vI,int,undefA,assignQ,thenQ,blockQ,seqQ,panQ,prol,prolH,allocOf]
      intro g S' H' a8 w8 hg R1 s51 hsame
      have fa:=faS fa R1.size (by rw [R1.defers,hg];rfl) hsame (fun t h _ _ _=>by simp [W28];omega)
      have hbl8:Below w7.heap.size w7 w8:=by have:=R1.below;rwa [R1.base] at this
      have hl87:b8 < w7.heap.size:=(Array.getElem?_eq_some_iff.1 q8).1
      have e8:a8.tmps.getD 8 undef = .pointer (some ⟨b8,0,none⟩):=(hsame 8 rfl).trans e8
      have q8:w8.heap[b8]? = some (.cells #[.int .i64 (xn:Nat)] ty8 (0,0)):=(hbl8.block b8 hl87).trans q8
      have st:=st.grow hbl8
      have e51:a8.tmps.getD 51 undef = .bool (decide (0 < now.length)):=by
       have:=R1.slot 51 (by decide) id
       rw [s51] at this
       exact this.bool_eq
      clear R1 hg s51 hsame g S' H'
      show Code.wpIn _ _ _ _ _ a8 w8
      refine wpIn_cond (t:=decide (0 < now.length)) e51 ?_
      cases hgl:now.getLast? with
      |none =>
       have hn0:now=[]:=by cases now with | nil=>rfl | cons _ _=>simp at hgl
       have hn0':¬ 0 < now.length:=by rw [hn0];simp
       simp only [hn0',decide_false,Bool.false_eq_true,if_false]
       refine wpIn_skip (.inl ⟨rfl,fa,e8,q8,⟨_,_,st⟩,?_⟩)
       unfold okDay
       rw [hgl]
       simp only [Int.toNat_natCast,hgo,Bool.true_and,Bool.and_true]
      |some dl =>
       have hne:now≠[]:=by rintro rfl;cases hgl
       have hpos:0 < now.length:=by cases now with | nil=>exact absurd rfl hne | cons _ _=>simp
       have hdm:dl∈s.work:=hnw dl (List.mem_of_getLast? hgl)
       obtain ⟨hd0,hdn⟩:=hwk dl hdm
       obtain ⟨dn,rfl⟩:∃ dn:Nat,dl=dn:=⟨dl.toNat,by omega⟩
       rw [hgl] at hskip
       have hdx:(dn:Int) < xn:=by have:=of_decide_eq_false hskip.symm;omega
       have hokd:okDay s r now xn=standsI s (now.length - 1) dn xn true:=by
        unfold okDay
        rw [hgl]
        simp only [Int.toNat_natCast,hgo,hdx,decide_true,Bool.true_and]
       simp only [hpos,decide_true,if_true]
       obtain ⟨c,e',hatt⟩:=att_of hGT s (f:=144) (by kernel_rfl) (ac144 s hl hb hnl hcl hgl (by omega) (x:=xn) (by omega))
       refine wpIn_seq ?_
       refine region_anew hGT hmix (ac:=ACode.fst (ACode.lft (ACode.snd at142))) (W:=fun t=>decide (28≤t) || t==9 || t==10) (by kernel_rfl) (by kernel_rfl) (by kernel_rfl) trivial (fun b _=>b≠Y.bM) (slotsC Y now (exL s.work.length i now.length s.work (.ref [.int .i64 (xn:Nat)]))) (fad fa).1 (fad fa).2.1 (faX8 fa e8 q8 st) (K:=fun S _=>S 10 = .int .i64 (if standsI s (now.length - 1) dn xn true then 0 else 7)) ?_ ?_
       ·simp [c142,at142,in142,lo142,ACode.fst,ACode.snd,ACode.lft,slotsC,exL,awp_all,qs_all,ops_all,dops_all,ops_nil,dops_nil,ops_call,ops_callv,ops_alloc,ops_box,dops_call,dops_alloc,kO_eq,kD_eq,awanted,apure,ev,Eff.S,Eff.H,tmpOf,upd,putD,AL.start,AV.dem,AV.cells,AV.storable,AV.scells,splice,scrub,abin,loadA,HR.okB,post,ares,aress,ares1,AV.out,AV.isData,ints_len,ints_get,fz,fz1,AV.vw,AV.vw1,boxy,vI,int,undefA,assignQ,thenQ,blockQ,seqQ,panQ,prol,prolH,allocOf]
        refine ⟨_,by kernel_rfl,hatt,by simp [boxy,boxy1],?_⟩
        simp [attO,awp_all,qs_all,ops_all,dops_all,ops_nil,dops_nil,ops_call,ops_callv,ops_alloc,ops_box,dops_call,dops_alloc,kO_eq,kD_eq,awanted,apure,ev,Eff.S,Eff.H,tmpOf,upd,putD,AL.start,AV.dem,AV.cells,AV.storable,AV.scells,splice,scrub,abin,loadA,HR.okB,post,ares,aress,ares1,AV.out,AV.isData,ints_len,ints_get,fz,fz1,AV.vw,AV.vw1,boxy,vI,int,undefA,assignQ,thenQ,blockQ,seqQ,panQ,prol,prolH,allocOf]
       intro g S' H' a9 w9 hg R1 s10 hsame
       have fa:=faS fa R1.size (by rw [R1.defers,hg];rfl) hsame (fun t h _ h9 h10=>by simp [h9,h10];omega)
       have hl88:b8 < w8.heap.size:=(Array.getElem?_eq_some_iff.1 q8).1
       have e8:a9.tmps.getD 8 undef = .pointer (some ⟨b8,0,none⟩):=(hsame 8 rfl).trans e8
       show Code.wpIn _ _ _ _ _ a9 w9
       refine wpIn_seq ?_
       refine region_step R1 hGT trivial hmix (ac:=ACode.fst (ACode.snd (ACode.lft (ACode.snd at142)))) (W:=W28) (by kernel_rfl) (by kernel_rfl) (by kernel_rfl) (by rw [hg];exact fun _ h=>h) (K:=fun S _=>S 58 = .bool (!standsI s (now.length - 1) dn xn true)) ?_ ?_
       ·cases hst:standsI s (now.length - 1) dn xn true<;>rw [hst] at s10<;>simp [c142,at142,in142,lo142,ACode.fst,ACode.snd,ACode.lft,s10,awp_all,qs_all,ops_all,dops_all,ops_nil,dops_nil,ops_call,ops_callv,ops_alloc,ops_box,dops_call,dops_alloc,kO_eq,kD_eq,awanted,apure,ev,Eff.S,Eff.H,tmpOf,upd,putD,AL.start,AV.dem,AV.cells,AV.storable,AV.scells,splice,scrub,abin,loadA,HR.okB,post,ares,aress,ares1,AV.out,AV.isData,ints_len,ints_get,fz,fz1,AV.vw,AV.vw1,boxy,vI,int,undefA,assignQ,thenQ,blockQ,seqQ,panQ,prol,prolH,allocOf]
       intro g2 S2 H2 a10 w10 hg2 R2 s58 hsame2
       have fa:=faS fa R2.size (by rw [R2.defers,hg2,hg];rfl) hsame2 (fun t h _ _ _=>by simp [W28];omega)
       have hbl10:Below w8.heap.size w8 w10:=by have:=R2.below;rwa [R2.base] at this
       have e8:a10.tmps.getD 8 undef = .pointer (some ⟨b8,0,none⟩):=(hsame2 8 rfl).trans e8
       have e58:a10.tmps.getD 58 undef = .bool (!standsI s (now.length - 1) dn xn true):=by
        have:=R2.slot 58 (by decide) id
        rw [s58] at this
        exact this.bool_eq
       have q8:w10.heap[b8]? = some (.cells #[.int .i64 (xn:Nat)] ty8 (0,0)):=(hbl10.block b8 hl88).trans q8
       have st:=st.grow hbl10
       show Code.wpIn _ _ _ _ _ a10 w10
       refine wpIn_cond (t := !standsI s (now.length - 1) dn xn true) e58 ?_
       cases hst:standsI s (now.length - 1) dn xn true with
       |false =>
        simp only [Bool.not_false,if_true]
        exact wpIn_exit (.inr ⟨rfl,fa,skipD (by rw [hokd];exact hst) st⟩)
       |true =>
        simp only [Bool.not_true,Bool.false_eq_true,if_false]
        exact wpIn_skip (.inl ⟨rfl,fa,e8,q8,⟨_,_,st⟩,by rw [hokd];exact hst⟩)
     ·rintro e a10 w10 (⟨rfl,fa,e8,q8,⟨M,Pr,st⟩,hok⟩ | ⟨rfl,fa,hn⟩)
      case inr=>exact .inl ⟨.inr rfl,fa,hn⟩
      show Code.wpIn _ _ _ _ _ a10 w10
      have fr:=(fad fa).2.2
      obtain ⟨v,ty,xs',hN,hMN,hown,hfl,hvM⟩:=st.now
      obtain ⟨i3,hi3,hs3⟩:=info_size (P:=prog) (t:=3) (s:=1) (by kernel_rfl)
      obtain ⟨i28,hi28,hs28⟩:=info_size (P:=prog) (t:=28) (s:=1) (by kernel_rfl)
      obtain ⟨d3,hd3,hd3'⟩:=under_agg (P:=prog) (t:=3) (by kernel_rfl)
      have hlA:(ints now).length=now.length:=ints_len now
      have cN:w10.cell? ⟨Y.bN,0,none⟩=some v:=by simp [World.cell?,hN]
      have c8:w10.cell? ⟨b8,0,none⟩=some (.int .i64 (xn:Nat)):=by simp [World.cell?,q8]
      refine wpIn_seq (wpIn_region ?_)
      show wpOpsIn _ _ _ _ _ [0,1,2,3,4] a10 w10
      refine loads_swap (i:=0) (j:=1) (d:=59) (e:=60) rfl rfl rfl rfl rfl rfl rfl rfl (by decide) (run_load1 (t:=28) (x := .tmp 0) (v:=v) rfl fr.t0 hd28 hd28' cN) (run_load1 (t:=3) (x := .tmp 8) (v := .int .i64 (xn:Nat)) rfl ((hgp _ _ _ _ (by decide)).trans e8) hd3 hd3' c8) (run_load1 (t:=28) (x := .tmp 0) (v:=v) rfl ((hgp _ _ _ _ (by decide)).trans fr.t0) hd28 hd28' cN) ?_
      have frp:=frput (c := .int .i64 (xn:Nat)) fr (d:=60) (by decide)
      have fap:FA i (a10.put (some 60) (.int .i64 (xn:Nat))):=faS fa frp.size frp.defers (W:=W28) (fun t ht=>hgp _ _ _ _ (by rintro rfl;simp [W28] at ht)) (fun t h _ _ _=>by simp [W28];omega)
      have p60:(a10.put (some 60) (.int .i64 (xn:Nat))).tmps.getD 60 undef = .int .i64 (xn:Nat):=hgs _ _ _ fr.size (by decide)
      refine stack_list (n:=70) (l2:=[0,2,3,4]) (os2:=[_,_,_,_]) rfl (by kernel_rfl) (al:=(ACode.dl (ACode.fst ap142)).take 1++(ACode.dl (ACode.fst ap142)).drop 2) (by kernel_rfl) (by kernel_rfl) (W:=W28) (by kernel_rfl) (fun _ _=>False)
       (fun t=>if t=0 then .box 0 0 else if t=60 then .int .i64 (xn:Nat) else .junk) (nm:=0) (tp:=0) (es:=ints now) (es':=ints (now++[(xn:Int)])) (by decide) rfl frp.t0 frp.size frp.defers hN hi3 (by rw [hs3,hlA];exact hown) (by rw [hs3];exact hfl.mono (Keeps.same fun _ _ _ h=>h.elim)) ?_ ?_ ?_ ?_ ?_
      ·intro t ht
       by_cases t0:t=0
       ·subst t0;rw [if_pos rfl];exact ⟨rfl,.inl ⟨rfl,frp.t0⟩⟩
       rw [if_neg t0]
       by_cases t60:t=60
       ·subst t60;rw [if_pos rfl,p60];exact ⟨rfl,.inr (.data _ _ (.int _ _))⟩
       rw [if_neg t60];exact ⟨rfl,.inr (.junk _)⟩
      ·have hsm:now.length+1 < 1048576:=by omega
       cases hvo:v.ownBlock with
       |none =>
        have he:now=[]:=by
         rcases hown.2 with ⟨_,h⟩ | ⟨gg,cap,cur,rfl,_⟩
         ·exact List.eq_nil_of_length_eq_zero h
         ·cases hvo
        subst he
        simp [c142,ap142,in142,lo142,ACode.fst,ACode.snd,ACode.dl,aops,awanted,astep,apure,Eff.S,Eff.H,ev,upd,putD,loadA,AV.dem,AV.vw,AV.cells,AV.storable,AV.vw1,stackA,hvo,HR.okB,tmpOf,ints,elemsOK,splice,AV.scells]
       |some bv =>
        simp [c142,ap142,in142,lo142,ACode.fst,ACode.snd,ACode.dl,aops,awanted,astep,apure,Eff.S,Eff.H,ev,upd,putD,loadA,AV.dem,AV.vw,AV.cells,AV.storable,AV.vw1,stackA,hvo,HR.okB,tmpOf,ints,elemsOK,splice,AV.scells,hsm]
      ·intro y hy
       obtain ⟨z,_,rfl⟩:=List.mem_map.1 hy
       exact ⟨hs3.symm,rfl,fun c hc=>by simp [AV.cells] at hc;subst hc;rfl⟩
      ·intro y hy c hc
       obtain ⟨z,_,rfl⟩:=List.mem_map.1 hy
       simp [AV.cells] at hc;subst hc;rfl
      intro a2 w2x v' ty' xs2 hsz2 hds2 hsame2 hN2 hown2 hfl2 hturn hnew
      have fa2:=faS fap hsz2 hds2 hsame2 (fun t h _ _ _=>by simp [W28];omega)
      have hMv:∀ b,(b=Y.bN∨v.ownBlock=some b)→M b∧¬ Y.MI b∧b≠Y.bM:=by
       rintro b (rfl | hb)
       ·exact ⟨hMN,fun h=>(st.mi _ h).2.1 rfl,Ne.symm Y.ne⟩
       ·exact hvM b hb
      have hk2:Keeps Pr Pr w10 w2x:=Keeps.of_moved fun b k hlt hp=>hturn.block b hlt fun hm=>C.apart st.j b k (hMv b hm).1 hp
      have hmiv:∀ b,Y.MI b→w2x.heap[b]? = w10.heap[b]? := fun b h=>hturn.block b (st.lt b (st.mi b h).1) fun hm=>(hMv b hm).2.1 h
      have hmpv:w2x.heap[Y.bM]? = w10.heap[Y.bM]? := hturn.block _ (st.lt _ st.mp.1) fun hm=>(hMv _ hm).2.2 rfl
      have hlA2:(ints (now++[(xn:Int)])).length=(now++[(xn:Int)]).length:=ints_len _
      have st2:StC Y k' (fun b=>M b∨(w10.heap.size≤b∧b < w2x.heap.size)) Pr (now++[(xn:Int)]) w2x:=by
       refine ⟨C.turn st.j (M':=fun b=>M b∨(w10.heap.size≤b∧b < w2x.heap.size)) ⟨hturn.os,hturn.tape,hturn.output,hturn.size,fun b hb hm=>hturn.block b hb fun h=>hm (hMv b h).1⟩ fun b hb => ?_,fun b hb => ?_,fun b h=>⟨.inl (st.mi b h).1,(st.mi b h).2.1,(st.mi b h).2.2.1,(hmiv b h).trans (st.mi b h).2.2.2⟩,⟨v',ty',xs2,hN2,.inl hMN,?_,?_,fun b hb => ?_⟩,xKeep st.x hk2,.inl st.mp.1,by rw [hmpv];exact st.mp.2⟩
       ·rcases hb with hb | hb
        ·exact ⟨Nat.lt_of_lt_of_le (st.lt b hb) hturn.size,.inl hb⟩
        ·exact ⟨hb.2,.inr hb.1⟩
       ·rcases hb with hb | hb
        ·exact Nat.lt_of_lt_of_le (st.lt b hb) hturn.size
        ·exact hb.2
       ·rw [hs3,hlA2] at hown2;exact hown2
       ·rw [hs3] at hfl2;exact hfl2
       ·rcases hnew b hb with h | h
        ·exact ⟨.inl (hvM b h).1,(hvM b h).2⟩
        ·refine ⟨.inr ⟨h,(hown2.lt b hb).2⟩,fun hm => ?_,?_⟩
         ·have:=st.lt b (st.mi b hm).1
          omega
         ·rintro rfl
          have:=st.lt _ st.mp.1
          omega
      clear hMv hk2 hmiv hmpv hnew hown2 hfl2 hN2 hturn hown hfl hN cN c8 hvM
      show Code.wpIn _ _ _ _ _ a2 w2x
      have fr2:=(fad fa2).2.2
      refine wpIn_seq (wpIn_seq ?_)
      refine front_anew hGT (p:=1) (l2:=[1,2]) rfl (by kernel_rfl) (by kernel_rfl) (l:=(ACode.dl (ACode.fst (ACode.fst (ACode.snd ap142)))).take 1) (by kernel_rfl) (by decide) (W:=W28) (by kernel_rfl) trivial (fun b _=>b≠Y.bM) (slotsC Y (now++[(xn:Int)]) fun _ => .junk) fr2.size fr2.defers (st2.slots_ok fr2 fun _ _ _=>⟨rfl,.junk _⟩) (K:=fun S _=>S 63 = .val Y.fv) ?_ ?_
      ·simp [c142,ap142,in142,lo142,ACode.fst,ACode.snd,ACode.dl,aops,awanted,astep,apure,Eff.S,Eff.H,ev,upd,putD,slotsC,loadA,AV.dem]
      rintro g S' H' a3 w3x hg R1 s63 hsame3
      have fa3:=faS fa2 R1.size (by rw [R1.defers,hg];rfl) hsame3 (fun t h _ _ _=>by simp [W28];omega)
      have st3:=st2.grow (by have:=R1.below;rwa [R1.base] at this)
      have e63:=R1.slot 63 (by decide) id
      rw [s63] at e63
      have e63:=e63.val_eq
      clear R1 hg hsame3 s63
      have hrr:okDay s r now xn=true:=hok
      rw [hok] at hxs hcnt
      simp only [if_true] at hxs hcnt
      rw [List.map_append,List.append_assoc] at hxs
      have hcall:=ih r (Nat.lt_succ_self r) Y (now++[(xn:Int)]) k' _ Pr w3x _ (by simp;omega) (fun y hy=>by
       rcases List.mem_append.1 hy with h | h
       ·exact hnw y h
       ·rw [List.mem_singleton] at h;rw [h];exact hxm) st3 hxs
      refine opIn_call rfl rfl (by rfl) (run_callv0 (f := .tmp 63) w3x rfl rfl rfl e63 (by kernel_rfl)) hcall ?_
      rintro e w4x ⟨M4,Pr4,hend⟩
      obtain ⟨b,rfl⟩:∃ b:Bool,e = .returned (.bool b):=by rcases hend with ⟨rfl,_⟩ | ⟨rfl,_⟩<;>exact ⟨_,rfl⟩
      refine ⟨_,rfl,?_⟩
      have h64:(a3.put (some 64) (.bool b)).tmps.getD 64 undef = .bool b:=hgs _ _ _ (fad fa3).1 (by decide)
      refine opIn_val rfl rfl (by rfl) (v := .bool !b) (w':=w4x) (run_notB (x := .tmp 64) w4x rfl h64) ?_
      show Code.wpIn _ _ _ _ _ ((a3.put (some 64) (.bool b)).put (some 65) (.bool !b)) w4x
      obtain ⟨a4x,ha4⟩:∃ a4x,(a3.put (some 64) (.bool b)).put (some 65) (.bool !b)=a4x:=⟨_,rfl⟩
      have hs4:Same W28 a3 a4x:=fun t ht=>by
       have:t < 28:=by simp [W28] at ht;omega
       rw [← ha4,hgp _ _ _ _ (by omega),hgp _ _ _ _ (by omega)]
      have fa4:=faS fa3 (by rw [← ha4,hps,hps];exact (fad fa3).1) (by rw [← ha4];exact (fad fa3).2.1) hs4 (fun t h _ _ _=>by simp [W28];omega)
      have h65:a4x.tmps.getD 65 undef = .bool !b:=by rw [← ha4];exact hgs _ _ _ (by rw [hps];exact (fad fa3).1) (by decide)
      rw [ha4]
      refine wpIn_cond (t := !b) h65 ?_
      cases b with
      |false =>
       have hX:C.X M4 Pr4 w4x:=by
        rcases hend with ⟨h,_⟩ | ⟨_,h⟩
        ·cases h
        ·exact h
       simp only [Bool.not_false,if_true]
       refine wpIn_seq (wpIn_region ?_)
       show wpOpsIn _ _ _ _ _ [0] a4x w4x
       refine opIn_val rfl rfl (by rfl) (v := .bool false) (w':=w4x) (run_assign (x := .const (.bool false)) w4x rfl) ?_
       show Code.wpIn _ _ _ _ _ (a4x.put (some 5) (.bool false)) w4x
       refine wpIn_ret (.inr ⟨rfl,hret (fad fa4).2.1 (hgs _ _ _ (fad fa4).1 (by decide)) ?_⟩)
       rw [← hc]
       exact ⟨M4,Pr4,.inr ⟨rfl,hX⟩⟩
      |true =>
       have st4:StC Y (k'+(plansI s r (now++[(xn:Int)])).length) M4 Pr4 (now++[(xn:Int)]) w4x:=by
        rcases hend with ⟨_,h⟩ | ⟨h,_⟩
        ·exact h
        ·cases h
       simp only [Bool.not_true,Bool.false_eq_true,if_false]
       refine wpIn_skip ?_
       show Code.wpIn _ _ _ _ _ a4x w4x
       obtain ⟨v4,ty4,xs4,hN4,hMN4,hown4,hfl4,hvM4⟩:=st4.now
       have hl4:xs4.length=(now.length+1) * 1:=by have:=hown4.1;simpa using this
       have hown4':w4x.ownsRow (Y.bN+1) 3 1 v4 (now.length+1) (xs4.take now.length++xs4.drop now.length):=by rw [List.take_append_drop];simpa using hown4
       obtain ⟨gg4,cap4,rfl,hcap4,hpop⟩:=popped_row (P:=prog) hown4' (by rw [List.length_take,hl4];omega)
       have fr4:=(fad fa4).2.2
       have cN4:w4x.cell? ⟨Y.bN,0,none⟩=some (.slice (some ⟨gg4,0,none⟩) (now.length+1) cap4):=by simp [World.cell?,hN4]
       have c64:w4x.cell? ⟨b6,0,none⟩=some (.int .i64 (now.length:Nat)):=by simp [World.cell?,c6 st4]
       have e6:a4x.tmps.getD 6 undef = .pointer (some ⟨b6,0,none⟩):=by rw [hFA] at fa4;exact fa4.2.1
       refine wpIn_region ?_
       show wpOpsIn _ _ _ _ _ [0,1,2,3] a4x w4x
       refine opIn_val rfl rfl (by rfl) (run_load1 (t:=28) (x := .tmp 0) rfl fr4.t0 hd28 hd28' cN4) ?_
       show wpOpsIn _ _ _ _ _ [1,2,3] (a4x.put (some 66) (.slice (some ⟨gg4,0,none⟩) (now.length+1) cap4)) w4x
       refine anyActs (fun a=>FA i a∧a.tmps.getD 66 undef = .slice (some ⟨gg4,0,none⟩) (now.length+1) cap4) ⟨faS fa4 (by rw [hps];exact fr4.size) fr4.defers (W:=W28) (fun t ht=>hgp _ _ _ _ (by rintro rfl;simp [W28] at ht)) (fun t h _ _ _=>by simp [W28];omega),hgs _ _ _ fr4.size (by decide)⟩ ?_
       rintro a5x ⟨fa5x,e66⟩
       have e6:a5x.tmps.getD 6 undef = .pointer (some ⟨b6,0,none⟩):=by rw [hFA] at fa5x;exact fa5x.2.1
       refine opIn_val rfl rfl (by rfl) (run_load1 (t:=3) (x := .tmp 6) rfl e6 hd3 hd3' c64) ?_
       show wpOpsIn _ _ _ _ _ [2,3] (a5x.put (some 67) (.int .i64 (now.length:Nat))) w4x
       refine anyActs (fun a=>FA i a∧a.tmps.getD 66 undef = .slice (some ⟨gg4,0,none⟩) (now.length+1) cap4∧a.tmps.getD 67 undef = .int .i64 (now.length:Nat)) ⟨faS fa5x (by rw [hps];exact (fad fa5x).1) (fad fa5x).2.1 (W:=W28) (fun t ht=>hgp _ _ _ _ (by rintro rfl;simp [W28] at ht)) (fun t h _ _ _=>by simp [W28];omega),(hgp _ _ _ _ (by decide)).trans e66,hgs _ _ _ (fad fa5x).1 (by decide)⟩ ?_
       rintro a6x ⟨fa6x,e66,e67⟩
       refine opIn_val rfl rfl (by rfl) (run_popped (t:=28) (x := .tmp 66) (y := .tmp 67) rfl hu28 hi3 e66 e67 hcap4) ?_
       show wpOpsIn _ _ _ _ _ [3] (a6x.put (some 68) (.slice (some ⟨gg4,0,none⟩) now.length cap4)) w4x
       refine anyActs (fun a=>FA i a∧a.tmps.getD 68 undef = .slice (some ⟨gg4,0,none⟩) now.length cap4) ⟨faS fa6x (by rw [hps];exact (fad fa6x).1) (fad fa6x).2.1 (W:=W28) (fun t ht=>hgp _ _ _ _ (by rintro rfl;simp [W28] at ht)) (fun t h _ _ _=>by simp [W28];omega),hgs _ _ _ (fad fa6x).1 (by decide)⟩ ?_
       rintro a7x ⟨fa7x,e68⟩
       refine opIn_skip rfl rfl (by rfl) (run_store1 (t:=28) (x := .tmp 0) (y := .tmp 68) rfl (fad fa7x).2.2.t0 hi28 hs28 hN4 e68 rfl) ?_
       show ((Exit.normal = .normal∨Exit.normal = .exit 1)∧FA i a7x∧NX (w4x.setRow Y.bN #[.slice (some ⟨gg4,0,none⟩) now.length cap4]))∨_
       refine .inl ⟨.inl rfl,fa7x,?_⟩
       have hoth:∀ b,b≠Y.bN→(w4x.setRow Y.bN #[.slice (some ⟨gg4,0,none⟩) now.length cap4]).heap[b]? = w4x.heap[b]? := fun b hb=>setRow_other w4x Y.bN b _ hb
       have hsz5w:(w4x.setRow Y.bN #[.slice (some ⟨gg4,0,none⟩) now.length cap4]).heap.size=w4x.heap.size:=by simp
       have hk5:Keeps Pr4 Pr4 w4x (w4x.setRow Y.bN #[.slice (some ⟨gg4,0,none⟩) now.length cap4]):=Keeps.of_moved fun b k _ hp=>hoth b (by rintro rfl;exact C.apart st4.j _ k hMN4 hp)
       have st5x:StC Y (k'+(plansI s r (now++[(xn:Int)])).length) M4 Pr4 now (w4x.setRow Y.bN #[.slice (some ⟨gg4,0,none⟩) now.length cap4]):=by
        refine ⟨C.turn st4.j ⟨rfl,rfl,rfl,by rw [hsz5w];exact Nat.le_refl _,fun b _ hm=>hoth b (by rintro rfl;exact hm hMN4)⟩ fun b hb=>⟨by rw [hsz5w];exact st4.lt b hb,.inl hb⟩,fun b hb=>by rw [hsz5w];exact st4.lt b hb,fun b h=>⟨(st4.mi b h).1,(st4.mi b h).2.1,(st4.mi b h).2.2.1,(hoth b (st4.mi b h).2.1).trans (st4.mi b h).2.2.2⟩,
         ⟨_,ty4,xs4.take now.length,setRow_heap w4x Y.bN _ _ ty4 (0,0) hN4,hMN4,?_,?_,fun b hb=>hvM4 b hb⟩,xKeep st4.x hk5,st4.mp.1,by rw [hoth _ Y.ne];exact st4.mp.2⟩
        ·refine ⟨hpop.1,?_⟩
         rcases hpop.2 with h | ⟨gg,cap,cur,hv,hbg,hgg',rest⟩
         ·exact .inl h
         ·exact .inr ⟨gg,cap,cur,hv,hbg,(hoth gg (by omega)).trans hgg',rest⟩
        ·refine ⟨fun y hy=>by obtain ⟨z,_,rfl⟩:=List.mem_map.1 hy;exact ⟨rfl,rfl,fun c hc=>by simp [AV.cells] at hc;subst hc;rfl⟩,fun j hj k hk => ?_⟩
         have hje:j < now.length:=by simpa [ints] using hj
         have hj':j < (ints (now++[(xn:Int)])).length:=by simp [ints];omega
         have hget:(ints (now++[(xn:Int)]))[j]=(ints now)[j]:=by
          simp only [ints,List.map_append,List.map_cons,List.map_nil]
          exact List.getElem_append_left (by simpa using hje)
         obtain ⟨u,u1,u2⟩:=hfl4.2 j hj' k (by rw [hget];exact hk)
         refine ⟨u,?_,?_⟩
         ·have hk2:k < 1:=by
           simpa [ints,AV.cells] using hk
          rw [List.getElem?_take_of_lt (by omega)];exact u1
         ·simp only [hget] at u2
          exact u2.mono (Keeps.of_eq fun _ _ h=>h.elim)
       rw [hNX,hNB]
       refine ⟨_,_,_,st5x,?_,?_⟩
       ·rw [← List.drop_drop,hxs]
        simp
       ·rw [List.length_append] at hcnt
        omega
   ·have hw:IntKind.i64.wrap ((i:Int)+1)=i+1:=wrapI (by omega)
    rintro e a2 w2' (⟨he,fa,hn⟩ | ⟨rfl,hr⟩)
    case inr=>exact hr
    rw [hNX,hNB] at hn
    obtain ⟨k2,M2,Pr2,st,hx2,hc2⟩:=hn
    rcases he with rfl | rfl
    all_goals
     show Code.wpIn _ _ _ _ _ a2 w2'
     refine region_anew hGT hmix (ac:=ACode.snd (ACode.snd (ACode.snd lo142))) (W:=fun t=>t==27 || t==69) (by kernel_rfl) (by kernel_rfl) (by kernel_rfl) trivial (fun b _=>b≠Y.bM) (slotsC Y now (exL s.work.length i now.length s.work .junk)) (fad fa).1 (fad fa).2.1 (faX fa st (j8 _ _)) (K:=fun S _=>S 27 = .int .i64 ((i+1:Nat):Int)) ?_ ?_
     ·simp [c142,lo142,ACode.fst,ACode.snd,slotsC,exL,hw,awp_all,qs_all,ops_all,dops_all,ops_nil,dops_nil,ops_call,ops_callv,ops_alloc,ops_box,dops_call,dops_alloc,kO_eq,kD_eq,awanted,apure,ev,Eff.S,Eff.H,tmpOf,upd,putD,AL.start,AV.dem,AV.cells,AV.storable,AV.scells,splice,scrub,abin,loadA,HR.okB,post,ares,aress,ares1,AV.out,AV.isData,ints_len,ints_get,fz,fz1,AV.vw,AV.vw1,boxy,vI,int,undefA,assignQ,thenQ,blockQ,seqQ,panQ,prol,prolH,allocOf]
     intro g S' H' a16 w16 hg R1 s27 hsame
     have e27':a16.tmps.getD 27 undef = .int .i64 ((i+1:Nat):Int):=slot_int R1 (by decide) s27
     have st:=st.grow (by have:=R1.below;rwa [R1.base] at this)
     have fa':FA (i+1) a16:=by
      have hd:a16.defers=[]:=by rw [R1.defers,hg];rfl
      have hz:=R1.size
      rw [hFA] at fa ⊢
      obtain ⟨fr,f6,f25,f26,f27⟩:=fa
      exact ⟨fr.step hz hd fun t ht=>hsame t (by simp;omega),(hsame 6 rfl).trans f6,(hsame 25 rfl).trans f25,(hsame 26 rfl).trans f26,e27'⟩
     refine ⟨⟨i+1,k2,fa',by omega,by rw [hNB];exact ⟨M2,Pr2,st,hx2,hc2⟩⟩,?_⟩
     simp only [e27',e27]
     simp
     omega
end Go.Proofs.Tryz
namespace Go.Proofs.Tryz
open Go Go.AL Go.RowKit Go.Proofs
theorem run_boxV {P:Program} {a:Act} {o:Oper} {t:TypeId} {x:Operand} {v:Value} (w:World) (ho:o.op = .box t x) (hx:a.eval x=v):(execOp a.eval o).run P w = .ok (.value (.pointer (some ⟨w.heap.size,0,none⟩))) (w.alloc (.cells v.cells t)):=by
 unfold execOp
 simp [ho,hx,Instr.box,newVar,newRow]
theorem ref_form {Pr:Nat→Nat→Prop} {w:World} {s:CSheet} {c:Value} (h:RV Pr noneA w (.ref (shopL s)) c):∃ (bX oX:Nat) (fx:Nat→Value),c = .pointer (some ⟨bX,oX,none⟩)∧∀ j (h:j < 5),Pr bX (oX+j)∧w.cell? ⟨bX,oX+j,none⟩=some (fx j)∧RD Pr w ((shopL s)[j]'(by simpa [shopL,cshL] using h)) (fx j):=by
 cases h with
 |data _ _ h =>
  cases h with
  |ref cs b off f h1 h2 h3=>exact ⟨b,off,f,rfl,fun j hj=>⟨(h2 j (by simpa [shopL,cshL] using hj)).1,(h2 j (by simpa [shopL,cshL] using hj)).2,h3 j (by simpa [shopL,cshL] using hj)⟩⟩
set_option maxRecDepth 100000 in
theorem it141 (s:CSheet) (hl:s.dry.length≤1000) (hb:dryOK s) (hwk:∀ x∈s.work,0≤x∧x < s.dry.length) (hwl:s.work.length≤1000) (hcl:s.coats.length≤1000) :
  IterC prog GT 141 [.ref (shopL s)] ((plansI s s.coats.length []).map vI):=by
 intro l C w Pr cargs hJ hlen hr
 obtain ⟨cX,rfl⟩:∃ cX,cargs = #[cX]:=arr_one (by simpa using hlen.symm)
 have hrX:=hr 0 (by simp) (by simp)
 simp only [List.getElem_cons_zero,List.getElem_toArray] at hrX
 obtain ⟨bX,oX,fx,rfl,hx⟩:=ref_form hrX
 refine (callsIn_FR (ro:=none) (m:=0)).1 (callsIn_of_wp func141 rfl trivial ?_)
 refine anyAct (fun a=>a.tmps.size=10∧a.defers=[]∧a.tmps.getD 0 undef = .func (.yield l) #[] #[]∧a.tmps.getD 1 undef = .pointer (some ⟨bX,oX,none⟩)) ⟨by simp [ntmps141],rfl,args_get _ _ 0 (by simp),args_get _ _ 1 (by simp)⟩ ?_
 rintro a ⟨hsz,hds,e0,e1⟩
 have hgp:∀ (a:Act) (d t:Nat) (c:Value),t≠d→(a.put (some d) c).tmps.getD t undef=a.tmps.getD t undef:=fun a d t c h=>by
  simp [Act.put,Array.getElem?_setIfInBounds_ne (Ne.symm h)]
 have hgs:∀ (a:Act) (d:Nat) (c:Value),a.tmps.size=10→d < 10→(a.put (some d) c).tmps.getD d undef=c:=fun a d c h hd=>by
  simp [Act.put,h,hd]
 have hps:∀ (a:Act) (d:Option Nat) (c:Value),(a.put d c).tmps.size=a.tmps.size:=fun a d c=>by cases d<;>simp [Act.put]
 obtain ⟨b0,hb0⟩:∃ b0,w.heap.size=b0:=⟨_,rfl⟩
 have hnew:∀ (w:World) (o:Obj),(w.alloc o).heap[w.heap.size]? = some o:=fun w o=>World.alloc_heap_new w o
 have hold:∀ (w:World) (o:Obj) (k:Nat),k < w.heap.size→(w.alloc o).heap[k]? = w.heap[k]? := fun w o k hk=>Below.heap_alloc _ _ _ hk
 refine wpIn_seq (wpIn_region ?_)
 show wpOpsIn _ _ _ _ _ [0] a w
 refine opIn_val rfl rfl (by rfl) (run_boxV (t:=157) (x := .tmp 0) w rfl e0) ?_
 obtain ⟨w1,hw1⟩:∃ w1,w.alloc (.cells #[.func (.yield l) #[] #[]] 157)=w1:=⟨_,rfl⟩
 have s1:w1.heap.size=b0+1:=by rw [← hw1];simp [hb0]
 have n1:w1.heap[b0]? = some (.cells #[.func (.yield l) #[] #[]] 157 (0,0)):=by rw [← hw1,← hb0];exact hnew w _
 have o1:∀ k,k < b0→w1.heap[k]? = w.heap[k]? := fun k hk=>by rw [← hw1];exact hold w _ k (by omega)
 show Code.wpIn _ _ _ _ _ (a.put (some 2) (.pointer (some ⟨w.heap.size,0,none⟩))) (w.alloc (.cells #[.func (.yield l) #[] #[]] 157))
 rw [hw1,hb0]
 refine anyAct (fun a=>a.tmps.size=10∧a.defers=[]∧a.tmps.getD 1 undef = .pointer (some ⟨bX,oX,none⟩)∧a.tmps.getD 2 undef = .pointer (some ⟨b0,0,none⟩)) ⟨by rw [hps];exact hsz,hds,(hgp _ _ _ _ (by decide)).trans e1,hgs _ _ _ hsz (by decide)⟩ ?_
 clear e0 e1 hds hsz a
 rintro a ⟨hsz,hds,e1,e2⟩
 refine wpIn_seq (wpIn_region ?_)
 show wpOpsIn _ _ _ _ _ [0,1,2] a w1
 refine opIn_val rfl rfl (by rfl) (run_makeMap (t:=232) rfl) ?_
 obtain ⟨w2,hw2⟩:∃ w2,w1.alloc (.map #[] 0)=w2:=⟨_,rfl⟩
 have s2:w2.heap.size=b0+2:=by rw [← hw2];simp [s1]
 have n2:w2.heap[b0+1]? = some (.map #[] 0):=by rw [← hw2,← s1];exact hnew w1 _
 have o2:∀ k,k < b0+1→w2.heap[k]? = w1.heap[k]? := fun k hk=>by rw [← hw2];exact hold w1 _ k (by omega)
 show wpOpsIn _ _ _ _ _ [1,2] (a.put (some 6) (.map (some w1.heap.size))) (w1.alloc (.map #[] 0))
 rw [hw2,s1]
 refine anyActs (fun a=>a.tmps.size=10∧a.defers=[]∧a.tmps.getD 1 undef = .pointer (some ⟨bX,oX,none⟩)∧a.tmps.getD 2 undef = .pointer (some ⟨b0,0,none⟩)∧a.tmps.getD 6 undef=mapV (b0+1)) ⟨by rw [hps];exact hsz,hds,(hgp _ _ _ _ (by decide)).trans e1,(hgp _ _ _ _ (by decide)).trans e2,hgs _ _ _ hsz (by decide)⟩ ?_
 clear e1 e2 hds hsz a
 rintro a ⟨hsz,hds,e1,e2,e6⟩
 refine opIn_val rfl rfl (by rfl) (run_alloc1 (t:=232) (z := .map none) rfl (by kernel_rfl)) ?_
 obtain ⟨w3,hw3⟩:∃ w3,w2.alloc (.cells #[.map none] 232)=w3:=⟨_,rfl⟩
 have s3:w3.heap.size=b0+3:=by rw [← hw3];simp [s2]
 have n3:w3.heap[b0+2]? = some (.cells #[.map none] 232 (0,0)):=by rw [← hw3,← s2];exact hnew w2 _
 have o3:∀ k,k < b0+2→w3.heap[k]? = w2.heap[k]? := fun k hk=>by rw [← hw3];exact hold w2 _ k (by omega)
 show wpOpsIn _ _ _ _ _ [2] (a.put (some 3) (.pointer (some ⟨w2.heap.size,0,none⟩))) (w2.alloc (.cells #[.map none] 232))
 rw [hw3,s2]
 refine anyActs (fun a=>a.tmps.size=10∧a.defers=[]∧a.tmps.getD 1 undef = .pointer (some ⟨bX,oX,none⟩)∧a.tmps.getD 2 undef = .pointer (some ⟨b0,0,none⟩)∧a.tmps.getD 6 undef=mapV (b0+1)∧a.tmps.getD 3 undef = .pointer (some ⟨b0+2,0,none⟩)) ⟨by rw [hps];exact hsz,hds,(hgp _ _ _ _ (by decide)).trans e1,(hgp _ _ _ _ (by decide)).trans e2,(hgp _ _ _ _ (by decide)).trans e6,hgs _ _ _ hsz (by decide)⟩ ?_
 clear e1 e2 e6 hds hsz a
 rintro a ⟨hsz,hds,e1,e2,e6,e3⟩
 obtain ⟨i232,hi232,hs232⟩:=info_size (P:=prog) (t:=232) (s:=1) (by kernel_rfl)
 refine opIn_skip rfl rfl (by rfl) (run_store1 (t:=232) (x := .tmp 3) (y := .tmp 6) rfl e3 hi232 hs232 n3 e6 rfl) ?_
 obtain ⟨w4,hw4⟩:∃ w4,w3.setRow (b0+2) #[mapV (b0+1)]=w4:=⟨_,rfl⟩
 have s4:w4.heap.size=b0+3:=by rw [← hw4];simpa using s3
 have n4:w4.heap[b0+2]? = some (.cells #[mapV (b0+1)] 232 (0,0)):=by rw [← hw4];exact setRow_heap w3 _ _ _ _ _ n3
 have o4:∀ k,k≠b0+2→w4.heap[k]? = w3.heap[k]? := fun k hk=>by rw [← hw4];exact setRow_other w3 _ _ _ hk
 show Code.wpIn _ _ _ _ _ a (w3.setRow (b0+2) #[mapV (b0+1)])
 rw [hw4]
 refine wpIn_seq (wpIn_region ?_)
 show wpOpsIn _ _ _ _ _ [0] a w4
 refine opIn_val rfl rfl (by rfl) (run_alloc1 (t:=28) (z := .slice none 0 0) rfl (by kernel_rfl)) ?_
 obtain ⟨w5,hw5⟩:∃ w5,w4.alloc (.cells #[.slice none 0 0] 28)=w5:=⟨_,rfl⟩
 have s5:w5.heap.size=b0+4:=by rw [← hw5];simp [s4]
 have n5:w5.heap[b0+3]? = some (.cells #[.slice none 0 0] 28 (0,0)):=by rw [← hw5,← s4];exact hnew w4 _
 have o5:∀ k,k < b0+3→w5.heap[k]? = w4.heap[k]? := fun k hk=>by rw [← hw5];exact hold w4 _ k (by omega)
 show Code.wpIn _ _ _ _ _ (a.put (some 4) (.pointer (some ⟨w4.heap.size,0,none⟩))) (w4.alloc (.cells #[.slice none 0 0] 28))
 rw [hw5,s4]
 refine anyAct (fun a=>a.tmps.size=10∧a.defers=[]∧a.tmps.getD 1 undef = .pointer (some ⟨bX,oX,none⟩)∧a.tmps.getD 2 undef = .pointer (some ⟨b0,0,none⟩)∧a.tmps.getD 3 undef = .pointer (some ⟨b0+2,0,none⟩)∧a.tmps.getD 4 undef = .pointer (some ⟨b0+3,0,none⟩)) ⟨by rw [hps];exact hsz,hds,(hgp _ _ _ _ (by decide)).trans e1,(hgp _ _ _ _ (by decide)).trans e2,(hgp _ _ _ _ (by decide)).trans e3,hgs _ _ _ hsz (by decide)⟩ ?_
 clear e1 e2 e3 e6 hds hsz a
 rintro a ⟨hsz,hds,e1,e2,e3,e4⟩
 refine wpIn_seq (wpIn_region ?_)
 show wpOpsIn _ _ _ _ _ [0] a w5
 refine opIn_val rfl rfl (by rfl) (run_alloc1 (t:=24) (z := .nilFunc) rfl (by kernel_rfl)) ?_
 obtain ⟨w6,hw6⟩:∃ w6,w5.alloc (.cells #[.nilFunc] 24)=w6:=⟨_,rfl⟩
 have s6:w6.heap.size=b0+5:=by rw [← hw6];simp [s5]
 have n6:w6.heap[b0+4]? = some (.cells #[.nilFunc] 24 (0,0)):=by rw [← hw6,← s5];exact hnew w5 _
 have o6:∀ k,k < b0+4→w6.heap[k]? = w5.heap[k]? := fun k hk=>by rw [← hw6];exact hold w5 _ k (by omega)
 show Code.wpIn _ _ _ _ _ (a.put (some 5) (.pointer (some ⟨w5.heap.size,0,none⟩))) (w5.alloc (.cells #[.nilFunc] 24))
 rw [hw6,s5]
 refine anyAct (fun a=>a.tmps.size=10∧a.defers=[]∧a.tmps.getD 1 undef = .pointer (some ⟨bX,oX,none⟩)∧a.tmps.getD 2 undef = .pointer (some ⟨b0,0,none⟩)∧a.tmps.getD 3 undef = .pointer (some ⟨b0+2,0,none⟩)∧a.tmps.getD 4 undef = .pointer (some ⟨b0+3,0,none⟩)∧a.tmps.getD 5 undef = .pointer (some ⟨b0+4,0,none⟩)) ⟨by rw [hps];exact hsz,hds,(hgp _ _ _ _ (by decide)).trans e1,(hgp _ _ _ _ (by decide)).trans e2,(hgp _ _ _ _ (by decide)).trans e3,(hgp _ _ _ _ (by decide)).trans e4,hgs _ _ _ hsz (by decide)⟩ ?_
 clear e1 e2 e3 e4 hds hsz a
 rintro a ⟨hsz,hds,e1,e2,e3,e4,e5⟩
 refine wpIn_seq (wpIn_region ?_)
 show wpOpsIn _ _ _ _ _ [0,1] a w6
 refine opIn_val rfl rfl (by rfl) (run_mkf (fn := .func 142) (c := #[.tmp 4,.tmp 1,.tmp 2,.tmp 3,.tmp 5]) rfl) ?_
 have hcap:(#[Operand.tmp 4,.tmp 1,.tmp 2,.tmp 3,.tmp 5].map a.eval) = #[.pointer (some ⟨b0+3,0,none⟩),.pointer (some ⟨bX,oX,none⟩),.pointer (some ⟨b0,0,none⟩),.pointer (some ⟨b0+2,0,none⟩),.pointer (some ⟨b0+4,0,none⟩)]:=by
  simp only [List.map_toArray,List.map_cons,List.map_nil,Act.eval]
  rw [e1,e2,e3,e4,e5]
 rw [hcap]
 obtain ⟨fv,hfv⟩:∃ fv:Value,fv = .func (.func 142) #[] #[.pointer (some ⟨b0+3,0,none⟩),.pointer (some ⟨bX,oX,none⟩),.pointer (some ⟨b0,0,none⟩),.pointer (some ⟨b0+2,0,none⟩),.pointer (some ⟨b0+4,0,none⟩)]:=⟨_,rfl⟩
 rw [← hfv]
 show wpOpsIn _ _ _ _ _ [1] (a.put (some 7) fv) w6
 refine anyActs (fun a=>a.tmps.size=10∧a.defers=[]∧a.tmps.getD 5 undef = .pointer (some ⟨b0+4,0,none⟩)∧a.tmps.getD 7 undef=fv) ⟨by rw [hps];exact hsz,hds,(hgp _ _ _ _ (by decide)).trans e5,hgs _ _ _ hsz (by decide)⟩ ?_
 clear hcap e1 e2 e3 e4 e5 hds hsz a
 rintro a ⟨hsz,hds,e5,e7⟩
 obtain ⟨i24,hi24,hs24⟩:=info_size (P:=prog) (t:=24) (s:=1) (by kernel_rfl)
 refine opIn_skip rfl rfl (by rfl) (run_store1 (t:=24) (x := .tmp 5) (y := .tmp 7) rfl e5 hi24 hs24 n6 e7 (by rw [hfv];rfl)) ?_
 obtain ⟨w7,hw7⟩:∃ w7,w6.setRow (b0+4) #[fv]=w7:=⟨_,rfl⟩
 have s7:w7.heap.size=b0+5:=by rw [← hw7];simpa using s6
 have n7:w7.heap[b0+4]? = some (.cells #[fv] 24 (0,0)):=by rw [← hw7];exact setRow_heap w6 _ _ _ _ _ n6
 have o7:∀ k,k≠b0+4→w7.heap[k]? = w6.heap[k]? := fun k hk=>by rw [← hw7];exact setRow_other w6 _ _ _ hk
 show Code.wpIn _ _ _ _ _ a (w6.setRow (b0+4) #[fv])
 rw [hw7]
 have q0:w7.heap[b0]? = some (.cells #[.func (.yield l) #[] #[]] 157 (0,0)):=by rw [o7 _ (by omega),o6 _ (by omega),o5 _ (by omega),o4 _ (by omega),o3 _ (by omega),o2 _ (by omega)];exact n1
 have q1:w7.heap[b0+1]? = some (.map #[] 0):=by rw [o7 _ (by omega),o6 _ (by omega),o5 _ (by omega),o4 _ (by omega),o3 _ (by omega)];exact n2
 have q2:w7.heap[b0+2]? = some (.cells #[mapV (b0+1)] 232 (0,0)):=by rw [o7 _ (by omega),o6 _ (by omega),o5 _ (by omega)];exact n4
 have q3:w7.heap[b0+3]? = some (.cells #[.slice none 0 0] 28 (0,0)):=by rw [o7 _ (by omega),o6 _ (by omega)];exact n5
 have ql:∀ k,k < b0→w7.heap[k]? = w.heap[k]? := fun k hk=>by rw [o7 _ (by omega),o6 _ (by omega),o5 _ (by omega),o4 _ (by omega),o3 _ (by omega),o2 _ (by omega),o1 _ hk]
 have hturn:Turn (fun _=>False) w w7:=by
  refine ⟨?_,?_,?_,by omega,fun k hk _=>ql k (by omega)⟩
  ·rw [← hw7,← hw6,← hw5,← hw4,← hw3,← hw2,← hw1];rfl
  ·rw [← hw7,← hw6,← hw5,← hw4,← hw3,← hw2,← hw1];rfl
  ·rw [← hw7,← hw6,← hw5,← hw4,← hw3,← hw2,← hw1];rfl
 have hkeep:Keeps Pr Pr w w7:=Keeps.of_moved fun b k hb _=>hturn.block b hb (fun h=>h)
 have ref1:∀ {b:Nat} {v:Value} {ty:TypeId} {MI:Nat→Prop},MI b→w7.heap[b]? = some (.cells #[v] ty (0,0))→v.oneCell'=true→RV (fun b _=>MI b) noneA w7 (.ref [.val v]) (.pointer (some ⟨b,0,none⟩)):=by
  intro b v ty MI hm hh h1
  refine .data _ _ (.ref _ _ _ (fun _=>v) (fun i hi => ?_) (fun k hk=>⟨hm,?_⟩) (fun k hk => ?_))
  ·have:i=0:=by simpa using hi
   subst this;rfl
  ·have:k=0:=by simpa using hk
   subst this
   simp [World.cell?,hh]
  ·have:k=0:=by simpa using hk
   subst this
   exact .val _ h1
 let X:FxC C s:={
  bN:=b0+3
  bM:=b0+1
  bX:=bX
  oX:=oX
  fx:=fx
  cY := .pointer (some ⟨b0,0,none⟩)
  cP := .pointer (some ⟨b0+2,0,none⟩)
  cR := .pointer (some ⟨b0+4,0,none⟩)
  MI:=fun b=>b=b0∨b=b0+2∨b=b0+4
  wI:=w7
  hY:=ref1 (.inl rfl) q0 rfl
  hP:=ref1 (.inr (.inl rfl)) q2 rfl
  hR:=by
   have:=ref1 (MI:=fun b=>b=b0∨b=b0+2∨b=b0+4) (.inr (.inr rfl)) n7 (by rw [hfv];rfl)
   rw [hfv] at this
   exact this
  ne:=by omega }
 have st:StC X 0 (fun b=>b0≤b∧b < b0+5) Pr [] w7:=by
  refine ⟨C.turn hJ hturn fun b hb=>⟨by omega,.inr (by omega)⟩,fun b hb=>by omega,fun b hb => ?_,⟨.slice none 0 0,28,[],q3,⟨by show b0≤b0+3;omega,by show b0+3 < b0+5;omega⟩,⟨rfl,.inl ⟨rfl,rfl⟩⟩,⟨fun x hx=>(by cases hx),fun j hj=>(by simp [ints] at hj)⟩,fun b hb=>(by cases hb)⟩,xKeep (X:=X) hx hkeep,⟨by show b0≤b0+1;omega,by show b0+1 < b0+5;omega⟩,#[],0,[],q1,⟨rfl,fun i hi=>by simp at hi⟩,fun x hx=>by cases hx⟩
  have hb:b=b0∨b=b0+2∨b=b0+4:=hb
  exact ⟨by omega,by show b≠b0+3;omega,by show b≠b0+1;omega,rfl⟩
 have hmain:=from_okC s hl hb hwk hwl hcl s.coats.length X [] 0 _ Pr w7 [] (by simp) (fun x hx=>by cases hx) st (by simp)
 refine wpIn_region ?_
 show wpOpsIn _ _ _ _ _ [0,1] a w7
 obtain ⟨d24,hd24,hd24'⟩:=under_agg (P:=prog) (t:=24) (by kernel_rfl)
 refine opIn_val rfl rfl (by rfl) (run_load1 (t:=24) (x := .tmp 5) (v:=fv) rfl e5 hd24 hd24' (by simp [World.cell?,n7])) ?_
 show wpOpsIn _ _ _ _ _ [1] (a.put (some 8) fv) w7
 refine anyActs (fun a=>a.tmps.size=10∧a.defers=[]∧a.tmps.getD 8 undef=fv) ⟨by rw [hps];exact hsz,hds,hgs _ _ _ hsz (by decide)⟩ ?_
 rintro a ⟨hsz,hds,e8⟩
 refine opIn_call rfl rfl (by rfl) (run_callv0 (f := .tmp 8) (k:=142) (cap := #[.pointer (some ⟨X.bN,0,none⟩),.pointer (some ⟨X.bX,X.oX,none⟩),X.cY,X.cP,X.cR]) w7 rfl rfl rfl (show a.tmps.getD 8 undef=_ from e8.trans hfv) (by kernel_rfl)) hmain ?_
 rintro e w8 ⟨M',Pr',hend⟩
 obtain ⟨b,rfl,hv⟩:∃ b:Bool,e = .returned (.bool b)∧(C.J ((plansI s s.coats.length []).map vI).length M' Pr' w8∨C.X M' Pr' w8):=by
  rcases hend with ⟨rfl,h⟩ | ⟨rfl,h⟩
  ·refine ⟨true,rfl,.inl ?_⟩
   have:=h.j
   simpa using this
  ·exact ⟨false,rfl,.inr h⟩
 refine ⟨_,rfl,?_⟩
 show bodyPost prog f141 _ .normal (a.put (some 9) (.bool b)) w8
 refine ⟨hds,.tuple #[],?_,.tuple #[],_,_,rfl,hv⟩
 simp [results,results141]
end Go.Proofs.Tryz
namespace Go.Proofs.Tryz
open Go Go.AL Go.RowKit Go.Proofs
theorem ac70 (s:CSheet):AC prog GT 70 [shopA s] (.ret (.func (.func 141) [] [.ref (shopL s)])):=by
 refine AC.of_bodyF hGT hmix func70 rfl ntmps70 (by simp) (ac:=c70) (by kernel_rfl) ?_
 simp [c70,shopA,shopL,cshL,vI,awp,aops,awanted,astep,apure,thenQ,ev,Eff.S,Eff.H,upd,putD,AL.start,AV.dem,AV.cells,AV.storable,scrub,scrub1,tmpOf]
 refine ⟨2,.func 141,[],[.box 1 0],rfl,by decide,by simp [upd],?_⟩
 simp [upd,fz,fz1,AV.vw1]
def keptP (l:List (List Int)):AV := .slice (if l.isEmpty then .nil else .own 28) (l.map vI)
def plansA (l:List (List Int)):AV := .slice (if l.isEmpty then .nil else .view) (l.map vI)
def csPl (s:CSheet):AV := .func (.func 141) [] [.ref (shopL s)]
set_option maxRecDepth 100000 in
theorem ac140 (s:CSheet) {ps:List (List Int)} (hlen:ps.length≤1000000) (hit:IterC prog GT 141 [.ref (shopL s)] (ps.map vI)) :
  AC prog GT 140 [.slice .nil [],csPl s] (.ret (plansA ps)):=by
 refine AC.of_SW func140 rfl ntmps140 (by simp) fun cc w => ?_
 refine SW.cut hGT hmix (by kernel_rfl) (ac:=ACode.fst c140) (by kernel_rfl) (fun _ _ h=>h) (fun S' H'=>S' 1=csPl s∧S' 2 = .box 2 0∧H' 2=some [.slice .nil []]) ?_ ?_
 ·simp [c140,csPl,ACode.fst,awp,aops,awanted,astep,apure,ev,Eff.S,Eff.H,upd,putD,AL.start,AV.dem,AV.cells,AV.storable,scrub,scrub1,tmpOf,vI,assignQ]
 rintro S1 H1 ⟨s1,s2,h2⟩
 refine SW.seq (SW.cut hGT hmix (by kernel_rfl) (ac:=ACode.fst (ACode.fst (ACode.snd c140))) (by kernel_rfl) (fun _ _ h=>h) (fun S' H'=>S' 2 = .box 2 0∧S' 6=csPl s∧H' 2=some [.slice .nil []]) ?_ ?_)
 ·simp [c140,csPl,ACode.fst,ACode.snd,awp,aops,awanted,astep,apure,ev,Eff.S,Eff.H,upd,putD,s2,h2,assignQ,AV.dem]
  rw [s1];rfl
 rintro S3 H3 ⟨s2,s6,h2⟩
 refine SW.block (SW.range hGT hmix (gop := .tmp 6) (y := .t 6) (p:=7) (f:=141) (caps:=[.ref (shopL s)]) (xs:=ps.map vI) rfl s6 (by kernel_rfl) rfl hit (by decide) (fun x hx=>by obtain ⟨e,_,rfl⟩:=List.mem_map.1 hx;rfl)
  (fun d=>d==99) (aa := .ops [⟨(some 5),none,.mv true (.t 7)⟩]) (ab := .block 1 (.ops [⟨(some 8),none,.loadT .any (.t 2)⟩,⟨(some 9),none,.mv false (.t 5)⟩,⟨(some 10),none,.buildSlice 82 28 1 [(.t 9)]⟩,⟨(some 11),none,.append 82 28 1 24 (.t 8) (.t 10)⟩,⟨none,none,.store .any 1 (.t 2) (.t 11)⟩]))
  (by kernel_rfl) (by kernel_rfl) (by simp [ACode.names,AOpr.lays,AOp.lays]) (by simp [ACode.names,AOpr.lays,AOp.lays]) (fun _ _ h=>h) (by kernel_rfl) (by kernel_rfl)
  (fun k H'=>H' 2=some [keptP (ps.take k)]) (fun _ _=>False) h2 ?_ ?_ ?_)
 ·rintro k hk H' h2
  have hk':k < ps.length:=by simpa using hk
  have hxk:(ps.map vI)[k]=vI ps[k]:=by simp
  have htk:ps.take (k+1)=ps.take k++[ps[k]]:=by rw [List.take_succ_eq_append_getElem hk']
  have s2':noL (fun d=>d==99) (S3 2) = .box 2 0:=by rw [s2];rfl
  rw [hxk,htk]
  have hL:(List.take k ps).length≤1000000:=by simp;omega
  generalize List.take k ps=L at hL h2 ⊢
  cases L with
  |nil=>simp [awp,aops,awanted,astep,apure,ev,Eff.S,Eff.H,upd,putD,assignQ,s2',h2,HR.okB,vI,AV.cells,AV.storable,AV.dem,splice,AV.scells,tmpOf,thenQ,blockQ,loadA,roundQ,keptP,elemsOK,AV.vw,AV.vw1]
  |cons x L =>
   have hsm:L.length+1+1 < 1048576:=by simp at hL;omega
   have hok:elemsOK 1 (vI x::L.map vI)=true:=by simp [elemsOK,vI,AV.storable,AV.cells]
   simp [awp,aops,awanted,astep,apure,ev,Eff.S,Eff.H,upd,putD,assignQ,s2',h2,HR.okB,vI,AV.cells,AV.storable,AV.dem,splice,AV.scells,tmpOf,thenQ,blockQ,loadA,roundQ,keptP,elemsOK,AV.vw,AV.vw1,hsm]
 ·rintro D H' hD h2
  show SW prog GT 13 none (.seq _ .ret) _ _ _ _
  have s2':noL (fun d=>d==99) (S3 2) = .box 2 0:=by rw [s2];rfl
  have htk:List.take (ps.map vI).length ps=ps:=List.take_of_length_le (by simp)
  rw [htk] at h2
  refine SW.cut hGT hmix (by kernel_rfl) (ac:=ACode.fst (ACode.snd (ACode.snd c140))) (by kernel_rfl) (fun _ _ h=>h) (fun S' _=>S' 4=plansA ps) ?_ ?_
  ·cases ps<;>simp [c140,ACode.fst,ACode.snd,awp,aops,awanted,astep,apure,ev,Eff.S,Eff.H,upd,putD,loadA,s2',h2,HR.okB,assignQ,keptP,plansA,AV.dem,tmpOf]
  intro S4 H4 s4
  refine SW.ret ⟨(Marked.plain rfl).mark hD,rfl,_,?_,rfl⟩
  show ares prog 13 [.tmp 4] S4 H4=_
  simp [ares,aress,ares1,s4,plansA,AV.isData,AV.out]
 ·exact fun _ _ _ _ _ h=>h.elim
theorem ac69 (s:CSheet) {ps:List (List Int)} (hlen:ps.length≤1000000) (hit:IterC prog GT 141 [.ref (shopL s)] (ps.map vI)):AC prog GT 69 [csPl s] (.ret (plansA ps)):=by
 refine AC.of_SW func69 rfl ntmps69 (by simp) fun cc w => ?_
 refine SW.cut hGT hmix (by kernel_rfl) (ac:=ACode.fst c69) (by kernel_rfl) (fun _ _ h=>h) (fun S' H'=>S' 0=csPl s) ?_ ?_
 ·simp [c69,csPl,ACode.fst,awp,aops,awanted,astep,apure,ev,Eff.S,Eff.H,upd,putD,AL.start,AV.dem,assignQ,tmpOf]
 intro S1 H1 s0
 refine SW.seq (SW.hand hGT (p:=1) (lm:=[1]) (l2:=[2]) (os1:=[_]) (oh:=[_]) (os2:=[_]) rfl rfl rfl rfl (by kernel_rfl) (fun _ h=>h)
  (al1:=(ACode.dl (ACode.fst (ACode.snd c69))).take 1) (al2:=(ACode.dl (ACode.fst (ACode.snd c69))).drop 2) (by kernel_rfl) (by kernel_rfl) (by kernel_rfl) (by kernel_rfl)
  (K1:=fun S _=>S 3=csPl s) (K2:=fun o S _=>o=Old.plain cc w∧S 4=plansA ps) (K3:=fun o S _=>o=Old.plain cc w∧S 2=plansA ps) ?_ ?_ ?_ ?_)
 ·simp [c69,ACode.fst,ACode.snd,ACode.dl,aops,awanted,astep,apure,Eff.S,Eff.H,ev,upd,putD]
  rw [s0];rfl
 ·rintro w0 g S2 H2 a w' m hG0 ho R s3
  have r3:=R.slot 3 (by decide) id
  rw [s3] at r3
  refine opIn_call rfl rfl (by rfl) (run_callF (k:=140) (args := #[.slice none 0 0,a.tmps.getD 3 undef]) w' rfl rfl ?_ (by kernel_rfl)) (ac140 s hlen hit w' (callOld g false) #[.slice none 0 0,a.tmps.getD 3 undef] trivial rfl (fun i h h'=>by
   match i,h with
   |0,_=>exact .data _ _ (.nils _)
   |1,_=>exact (r3.noneA rfl).mono (Keeps.same fun b k _ hp => .inl hp) fun _ _ h=>h)) ?_
  ·simp only [List.map_toArray,List.map_cons,List.map_nil,Act.eval]
  rintro e w2 ⟨hb2,hi,hfr,c,rfl,hrv,hown⟩
  refine ⟨_,rfl,?_⟩
  obtain ⟨g',q1,q2,R'⟩:=R.call (some 4) (fun t ht=>by cases ht;exact ⟨by decide,id⟩) false hb2 hfr hrv hown (fun h=>by cases h)
  exact ⟨g',_,_,R',q2.trans ho,upd_same _ _ _⟩
 ·rintro o S2 H2 ⟨rfl,s4⟩
  refine ⟨fun _ h=>h,?_⟩
  cases ps<;>simp [c69,ACode.fst,ACode.snd,ACode.dl,aops,awanted,astep,apure,Eff.S,Eff.H,ev,upd,putD,s4,plansA,tmpOf]
 ·rintro o S2 H2 ⟨rfl,s2⟩
  refine SW.ret ⟨Marked.plain rfl,rfl,_,?_,rfl⟩
  show ares prog 5 [.tmp 2] S2 H2=_
  simp [ares,aress,ares1,s2,plansA,AV.isData,AV.out]
structure CGood (s:CSheet):Prop where
 dry1:1≤s.dry.length
 dry12:s.dry.length≤12
 coats1:1≤s.coats.length
 coats5:s.coats.length≤5
 ok:dryOK s
 work:∀ x∈s.work,0≤x∧x < s.dry.length
 len:s.work.length≤12
theorem rises_len {l:List Int} (h:risesC l=true) {n:Nat} (hb:∀ x∈l,0≤x∧x < n):l.length≤n:=by
 rw [risesC_iff] at h
 have key:∀ j,j < l.length→(j:Int)≤l.getD j 0:=by
  intro j
  induction j with
  |zero =>
   intro hj
   have:=hb l[0] (List.getElem_mem hj)
   simp [List.getD_eq_getElem?_getD,hj];omega
  |succ j ih =>
   intro hj
   have h1:=ih (by omega)
   have h2:=h j hj
   omega
 rcases Nat.eq_zero_or_pos l.length with h0 | h0
 ·omega
 ·have h1:=key (l.length - 1) (by omega)
  have h2:=hb (l[l.length - 1]'(by omega)) (List.getElem_mem _)
  have h3:l.getD (l.length - 1) 0=l[l.length - 1]'(by omega):=by
   simp [List.getD_eq_getElem?_getD,show l.length - 1 < l.length by omega]
  omega
theorem csh_good {s:CSheet} (h:cshI s=true):CGood s:=by
 simp only [cshI,Bool.and_eq_true,inI,decide_eq_true_eq,Bool.not_eq_true',List.any_eq_false,isDayI,Bool.not_eq_true,Bool.not_eq_false'] at h
 obtain ⟨⟨⟨⟨⟨⟨d1,d2⟩,c1,c2⟩,hd⟩,hc⟩,hr⟩,hw⟩:=h
 have hwork:∀ x∈s.work,0≤x∧x < s.dry.length:=fun x hx=>by
  have:=hw x hx
  simp at this
  omega
 refine ⟨by omega,by omega,by omega,by omega,fun x hx => ?_,hwork,?_⟩
 ·have:=hd x hx
  simp [wrongS,inI] at this
  omega
 ·have:=rises_len hr hwork
  omega
end Go.Proofs.Tryz
namespace Go.Proofs.Tryz
open Go Go.AL Go.RowKit Go.Proofs
attribute [local simp] awp_all qs_all ops_all dops_all ops_nil dops_nil ops_call ops_callv ops_alloc ops_box dops_call dops_alloc kO_eq kD_eq awanted apure ev Eff.S Eff.H tmpOf upd putD AL.start AV.dem AV.cells AV.storable AV.scells splice scrub abin loadA HR.okB post ares aress ares1 AV.out AV.isData ints_len ints_get fz fz1 AV.vw AV.vw1 boxy vI int undefA assignQ thenQ blockQ seqQ panQ prol prolH allocOf
def allT (s:CSheet):List (List Int):=plansI s s.coats.length []
structure CSlim (s:CSheet):Prop where
 dry:s.dry.length < 1000000
 work:s.work.length < 1000000
 coats:s.coats.length < 1000000
 few:cshI s=true→(allT s).length≤1000000
theorem it_all {s:CSheet} (h:CGood s):IterC prog GT 141 [.ref (shopL s)] ((allT s).map vI) :=
 it141 s (by have:=h.dry12;omega) h.ok h.work (by have:=h.len;omega) (by have:=h.coats5;omega)
def allO (s:CSheet) (none:Int):List AV :=
 if cshI s=true then (if (allT s).isEmpty then [.slice .view [],.int .i64 none] else [.slice .view ((allT s).map vI),.int .i64 0]) else [.slice .view [],.int .i64 2]
theorem ac26 (s:CSheet) (hs:CSlim s) (e:Int):AC prog GT 26 [cshA s,.int .i64 e] (.ret (.tup (allO s e))):=by
 have hG:Stable GT:=hGT
 have h29:=ac29 hGT s hs.dry hs.work hs.coats
 unfold allO
 cases hc:cshI s with
 |false =>
  rw [hc] at h29
  simp only [Bool.false_eq_true,if_false]
  refine AC.of_body hG hmix func26 rfl ntmps26 (by simp) (ac:=c26) (by kernel_rfl) ?_
  simp [c26,cshA,cshL,endsA]
  refine ⟨_,by kernel_rfl,h29,by simp [boxy],?_⟩
  simp
 |true =>
  rw [hc] at h29
  have hg:=csh_good hc
  have h31:=ac31 hGT s (by have:=hg.dry12;omega) hg.ok
  have h69:=ac69 s (hs.few hc) (it_all hg)
  simp only [if_true]
  refine AC.of_SW func26 rfl ntmps26 (by simp) fun cc w => ?_
  refine SW.cut hGT hmix (by kernel_rfl) (ac:=ACode.fst c26) (by kernel_rfl) (fun _ _ h=>h) (fun S H=>S 1 = .int .i64 e∧S 2 = .box 2 0∧H 2=some (cshL s)) ?_ ?_
  ·simp [c26,ACode.fst,cshA,cshL,endsA]
  rintro S1 H1 ⟨s1,s2,h2⟩
  refine SW.cut hGT hmix (by kernel_rfl) (ac:=ACode.fst (ACode.snd c26)) (by kernel_rfl) (fun _ _ h=>h) (fun S H=>S 1 = .int .i64 e∧S 2 = .box 2 0∧H 2=some (cshL s)) ?_ ?_
  ·simp [c26,ACode.fst,ACode.snd,cshL,endsA,s1,s2,h2]
   refine ⟨_,by kernel_rfl,h29,by simp [boxy],?_⟩
   simp [s1,s2,h2]
   try rfl
  rintro S2 H2 ⟨s1,s2,h2⟩
  refine SW.cut hGT hmix (by kernel_rfl) (ac:=ACode.fst (ACode.snd (ACode.snd c26))) (by kernel_rfl) (fun _ _ h=>h) (fun S H=>S 1 = .int .i64 e∧S 6=plansA (allT s)) ?_ ?_
  ·simp [c26,ACode.fst,ACode.snd,cshL,endsA,s1,s2,h2]
   refine ⟨_,by kernel_rfl,h31,by simp [boxy],?_⟩
   simp [shopA,shopL,cshL,endsA,s1,s2,h2]
   refine ⟨_,by kernel_rfl,ac70 s,by simp [boxy],?_⟩
   simp [shopL,cshL,endsA,s1,s2,h2]
   refine ⟨_,by kernel_rfl,h69,by simp [boxy,boxy1],?_⟩
   cases allT s<;>simp [plansA,s1,s2,h2]
  rintro S3 H3 ⟨s1,s6⟩
  refine SW.of_awp hGT hmix (by kernel_rfl) (fun _ _ h=>h) (ac:=ACode.snd (ACode.snd (ACode.snd c26))) (by kernel_rfl) ?_
  cases hp:allT s with
  |nil =>
   rw [hp] at s6
   simp [c26,ACode.snd,Post.awp,retS,s1,s6,plansA]
   exact ⟨Marked.plain rfl,rfl⟩
  |cons p l =>
   rw [hp] at s6
   simp [c26,ACode.snd,Post.awp,retS,s1,s6,plansA]
   exact ⟨Marked.plain rfl,rfl⟩
def firstO (s:CSheet):List AV :=
 if cshI s=true then (match allT s with | []=>[.slice .view [],.int .i64 5] | p::_=>[vI p,.int .i64 0]) else [.slice .view [],.int .i64 2]
theorem ac22 (s:CSheet) (hs:CSlim s):AC prog GT 22 [cshA s] (.ret (.tup (firstO s))):=by
 have hG:Stable GT:=hGT
 have h26:=ac26 s hs 5
 unfold allO at h26
 unfold firstO
 cases hc:cshI s with
 |false =>
  rw [hc] at h26
  simp only [Bool.false_eq_true,if_false] at h26 ⊢
  refine AC.of_body hG hmix func22 rfl ntmps22 (by simp) (ac:=c22) (by kernel_rfl) ?_
  simp [c22,cshA,cshL,endsA]
  refine ⟨_,by kernel_rfl,h26,by simp [boxy],?_⟩
  simp
 |true =>
  rw [hc] at h26
  simp only [if_true] at h26 ⊢
  cases hp:allT s with
  |nil =>
   rw [hp] at h26
   simp only [List.isEmpty_nil,if_true] at h26
   refine AC.of_body hG hmix func22 rfl ntmps22 (by simp) (ac:=c22) (by kernel_rfl) ?_
   simp [c22,cshA,cshL,endsA]
   refine ⟨_,by kernel_rfl,h26,by simp [boxy],?_⟩
   simp
  |cons p l =>
   rw [hp] at h26
   simp only [List.isEmpty_cons,Bool.false_eq_true,if_false] at h26
   refine AC.of_body hG hmix func22 rfl ntmps22 (by simp) (ac:=c22) (by kernel_rfl) ?_
   simp [c22,cshA,cshL,endsA]
   refine ⟨_,by kernel_rfl,h26,by simp [boxy],?_⟩
   simp
end Go.Proofs.Tryz
namespace Go.Proofs.Tryz
open Go Go.AL Go.RowKit Go.Proofs
attribute [local simp] awp_all qs_all ops_all dops_all ops_nil dops_nil ops_call ops_callv ops_alloc ops_box dops_call dops_alloc kO_eq kD_eq awanted apure ev Eff.S Eff.H tmpOf upd putD AL.start AV.dem AV.cells AV.storable AV.scells splice scrub abin loadA HR.okB post ares aress ares1 AV.out AV.isData ints_len ints_get fz fz1 AV.vw AV.vw1 boxy vI int undefA assignQ thenQ blockQ seqQ panQ prol prolH allocOf
def bestC (p:List Int) (l:List (List Int)):List Int:=l.foldl (fun o x=>if o.getD 0 0 < x.getD 0 0 then x else o) p
theorem ac28 {a b:List Int} (ha:a≠[]) (hb:b≠[]):AC prog GT 28 [vI a,vI b] (.ret (.bool (decide (b.getD 0 0 < a.getD 0 0)))):=by
 have hG:Stable GT:=hGT
 obtain ⟨x,a,rfl⟩:∃ x a',a=x::a':=by cases a with | nil=>exact absurd rfl ha | cons x a=>exact ⟨x,a,rfl⟩
 obtain ⟨y,b,rfl⟩:∃ x a',b=x::a':=by cases b with | nil=>exact absurd rfl hb | cons x a=>exact ⟨x,a,rfl⟩
 refine AC.of_body hG hmix func28 rfl ntmps28 (by simp) (ac:=c28) (by kernel_rfl) ?_
 simp [c28,dops,dstep,astep,ints]
theorem bestC_mem (p:List Int) (l:List (List Int)):bestC p l=p∨bestC p l∈l:=by
 induction l generalizing p with
 |nil=>exact .inl rfl
 |cons x l ih =>
  show bestC (if p.getD 0 0 < x.getD 0 0 then x else p) l=p∨bestC (if p.getD 0 0 < x.getD 0 0 then x else p) l∈x::l
  split
  ·rcases ih x with h | h
   ·exact .inr (by rw [h];simp)
   ·exact .inr (List.mem_cons_of_mem _ h)
  ·rcases ih p with h | h
   ·exact .inl h
   ·exact .inr (List.mem_cons_of_mem _ h)
theorem ac27 {p:List Int} {l:List (List Int)} (hl:l.length≤1000000) (hp:p≠[]) (hne:∀ x∈l,x≠[]):AC prog GT 27 [.slice .view ((p::l).map vI),.func (.func 28) [] []] (.ret (vI (bestC p l))):=by
 have hG:Stable GT:=hGT
 refine AC.of_body hG hmix func27 rfl ntmps27 (by simp) (ac:=c27) (by kernel_rfl) ?_
 have hok:elemsOK 1 (AV.slice Ow.view (ints p)::List.map vI l)=true:=by simp [elemsOK,vI,AV.storable,AV.cells]
 have b1:(1:Int)≤(l.length:Int)+1:=by omega
 have b2:((l.length:Int)+1).toNat=l.length+1:=by omega
 have b3:List.take (l.length+1) (AV.slice Ow.view (ints p)::List.map vI l)=AV.slice Ow.view (ints p)::List.map vI l:=List.take_of_length_le (by simp)
 simp [c27,bound,hok,b1,b2,b3]
 refine awp_loop 14 l.length (fun i S H=>S 1 = .func (.func 28) [] []∧S 5=vI (bestC p (l.take i))∧S 12 = .slice .view (l.map vI)∧S 13 = .int .i64 l.length∧S 14 = .int .i64 (i:Nat)) (fun i S H h=>h.2.2.2.2) ⟨by simp,by simp [bestC],by simp,by simp,by simp⟩ ?_
 rintro i hi S H ⟨s1,s5,s12,s13,s14⟩
 by_cases hlt:i < l.length
 ·have hw:IntKind.i64.wrap ((i:Int)+1)=i+1:=wrapI (by omega)
  have hb:bestC p (l.take i)≠[]:=by
   rcases bestC_mem p (l.take i) with h | h
   ·rw [h];exact hp
   ·exact hne _ (List.mem_of_mem_take h)
  have hx:=ac28 (hne l[i] (List.getElem_mem hlt)) hb
  have htk:bestC p (l.take (i+1))=if (bestC p (l.take i)).getD 0 0 < l[i].getD 0 0 then l[i] else bestC p (l.take i):=by
   rw [List.take_succ_eq_append_getElem hlt]
   simp only [bestC,List.foldl_append,List.foldl_cons,List.foldl_nil]
   congr
  by_cases hc:(bestC p (l.take i)).getD 0 0 < l[i].getD 0 0
  ·rw [if_pos hc] at htk
   simp only [hc,decide_true] at hx
   simp [s1,s5,s12,s13,s14,hlt]
   refine ⟨_,by kernel_rfl,hx,by simp [boxy],?_⟩
   simp [s1,s5,s12,s13,s14,hlt,hw,htk]
  ·rw [if_neg hc] at htk
   simp only [hc,decide_false] at hx
   simp [s1,s5,s12,s13,s14,hlt]
   refine ⟨_,by kernel_rfl,hx,by simp [boxy],?_⟩
   simp [s1,s5,s12,s13,s14,hlt,hw,htk]
   try rfl
 ·have hil:i=l.length:=by omega
  subst hil
  rw [List.take_length] at s5
  simp [s1,s5,s12,s13,s14]
def lateO (s:CSheet):List AV :=
 if cshI s=true then (match allT s with | []=>[.int .i64 0,.int .i64 5] | p::l=>[.int .i64 ((bestC p l).getD 0 0),.int .i64 0]) else [.int .i64 0,.int .i64 2]
theorem plans_long {s:CSheet}:∀ (r:Nat) (now p:List Int),p∈plansI s r now→p.length=now.length+r:=by
 intro r
 induction r with
 |zero=>intro now p hp;simp [plansI] at hp;subst hp;rfl
 |succ r ih =>
  intro now p hp
  simp only [plansI,List.mem_flatMap] at hp
  obtain ⟨x,_,hx⟩:=hp
  split at hx
  ·have:=ih _ _ hx
   simp at this;omega
  ·cases hx
theorem ac9 (s:CSheet) (hs:CSlim s):AC prog GT 9 [cshA s] (.ret (.tup (lateO s))):=by
 have hG:Stable GT:=hGT
 have h26:=ac26 s hs 5
 unfold allO at h26
 unfold lateO
 cases hc:cshI s with
 |false =>
  rw [hc] at h26
  simp only [Bool.false_eq_true,if_false] at h26 ⊢
  refine AC.of_body hG hmix func9 rfl ntmps9 (by simp) (ac:=c9) (by kernel_rfl) ?_
  simp [c9,cshA,cshL,endsA]
  refine ⟨_,by kernel_rfl,h26,by simp [boxy],?_⟩
  simp
 |true =>
  rw [hc] at h26
  simp only [if_true] at h26 ⊢
  cases hp:allT s with
  |nil =>
   rw [hp] at h26
   simp only [List.isEmpty_nil,if_true] at h26
   refine AC.of_body hG hmix func9 rfl ntmps9 (by simp) (ac:=c9) (by kernel_rfl) ?_
   simp [c9,cshA,cshL,endsA]
   refine ⟨_,by kernel_rfl,h26,by simp [boxy],?_⟩
   simp
  |cons p l =>
   rw [hp] at h26
   simp only [List.isEmpty_cons,Bool.false_eq_true,if_false] at h26
   have hfew:=hs.few hc
   rw [hp] at hfew
   have hne:∀ x∈p::l,x≠[]:=fun x hx=>by
    have:=plans_long s.coats.length [] x (by rw [← hp] at hx;exact hx)
    have h1:=(csh_good hc).coats1
    rintro rfl
    simp at this;omega
   have h27:=ac27 (p:=p) (l:=l) (by simp at hfew;omega) (hne p (by simp)) (fun x hx=>hne x (List.mem_cons_of_mem _ hx))
   have hbn:bestC p l≠[]:=by
    rcases bestC_mem p l with h | h
    ·rw [h];exact hne p (by simp)
    ·exact hne _ (List.mem_cons_of_mem _ h)
   obtain ⟨y,q,hy⟩:∃ y q,bestC p l=y::q:=by
    cases h:bestC p l with
    |nil=>exact absurd h hbn
    |cons y q=>exact ⟨y,q,rfl⟩
   show AC prog GT 9 [cshA s] (.ret (.tup [.int .i64 ((bestC p l).getD 0 0),.int .i64 0]))
   rw [hy] at h27 ⊢
   refine AC.of_body hG hmix func9 rfl ntmps9 (by simp) (ac:=c9) (by kernel_rfl) ?_
   simp [c9,cshA,cshL,endsA]
   refine ⟨_,by kernel_rfl,h26,by simp [boxy],?_⟩
   simp
   refine ⟨_,by kernel_rfl,h27,by simp [boxy],?_⟩
   simp [ints]
end Go.Proofs.Tryz
namespace Go.Proofs.Tryz
open Go Go.AL Go.RowKit Go.Proofs
attribute [local simp] awp_all qs_all ops_all dops_all ops_nil dops_nil ops_call ops_callv ops_alloc ops_box dops_call dops_alloc kO_eq kD_eq awanted apure ev Eff.S Eff.H tmpOf upd putD AL.start AV.dem AV.cells AV.storable AV.scells splice scrub abin loadA HR.okB post ares aress ares1 AV.out AV.isData ints_len ints_get fz fz1 AV.vw AV.vw1 boxy vI int undefA assignQ thenQ blockQ seqQ panQ prol prolH allocOf
theorem ac80 (s:CSheet) (hw:s.work.length < 1000000) (v:Int):AC prog GT 80 [.int .i64 v,.ref (cshL s)] (.ret (.bool (!s.work.contains v))):=by
 have hG:Stable GT:=hGT
 refine AC.of_body hG hmix func80 rfl ntmps80 (by simp) (ac:=c80) (by kernel_rfl) ?_
 simp [c80,cshL]
 refine ⟨_,by kernel_rfl,ac81 hGT s.work hw v,by simp [boxy],?_⟩
 simp
def isPlanI (s:CSheet) (l:List Int):Bool:=decide (l.length=s.coats.length) && (risesC l && !l.any fun x => !s.work.contains x)
theorem ac30 (s:CSheet) (hw:s.work.length < 1000000) (l:List Int) (hl:l.length < 1000000):AC prog GT 30 [cshA s,vI l] (.ret (.bool (isPlanI s l))):=by
 have hG:Stable GT:=hGT
 refine AC.of_body hG hmix func30 rfl ntmps30 (by simp) (ac:=c30) (by kernel_rfl) ?_
 simp [c30,cshA,cshL,endsA]
 unfold isPlanI
 by_cases e1:l.length=s.coats.length
 case neg =>
  have e1':¬ ((l.length:Int)=s.coats.length):=by omega
  have e2:((l.length:Int)==(s.coats.length:Int))=false:=by simpa using e1'
  simp [e1,e1',e2]
 have e1':((l.length:Int)=s.coats.length):=by omega
 simp [e1]
 refine ⟨_,by kernel_rfl,ac76 hG l hl,by simp [boxy],?_⟩
 cases e2:risesC l
 ·simp
 simp
 refine ⟨_,by kernel_rfl,ac77 hG l hl 80 [.ref (cshL s)] (.inr ⟨_,rfl⟩) (fun n => !s.work.contains n) (by kernel_rfl) (fun n _=>ac80 s hw n),fun _=>rfl,?_⟩
 simp
theorem ac33 (s:CSheet) (hl:s.dry.length < 1000000):AC prog GT 33 [shopA s,vI [0],.int .i64 0] (.ret (.tup [.int .i64 s.dry.length,.bool false])):=by
 have hG:Stable GT:=hGT
 refine AC.of_body hG hmix func33 rfl ntmps33 (by simp) (ac:=c33) (by kernel_rfl) ?_
 have w0:IntKind.i64.wrap 0=0:=wrapI (by omega)
 simp [c33,shopA,shopL,cshL,endsA,w0]
theorem ac83 (s:CSheet) (hl:s.dry.length≤1000) (hb:dryOK s) (h1:s.coats.length=1):AC prog GT 83 [.ref [vI [0]],.ref (shopL s)] (standsO s 0 0 s.dry.length false):=by
 have hG:Stable GT:=hGT
 have h33:=ac33 s (by omega)
 have h84:=ac84 hG s hl hb (k:=0) (a:=0) (b:=s.dry.length) false (by omega) (by omega) (Nat.le_refl _)
 have w1:IntKind.i64.wrap 1=1:=wrapI (by omega)
 rcases standsO_cases s 0 0 s.dry.length false with ⟨_,e⟩ | ⟨_,r,e⟩
 ·rw [e] at h84 ⊢
  refine AC.of_body hG hmix func83 rfl ntmps83 (by simp) (ac:=c83) (by kernel_rfl) ?_
  simp [c83]
  refine awp_loop 8 1 (fun i S H=>S 0 = .ref [vI [0]]∧S 1 = .ref (shopL s)∧S 6=vI [0]∧S 7 = .int .i64 1∧S 8 = .int .i64 (i:Nat)) (fun i S H h=>h.2.2.2.2) ⟨by simp,by simp,by simp,by simp,by simp⟩ ?_
  rintro i hi S H ⟨s0,s1,s6,s7,s8⟩
  by_cases hlt:i=0
  ·subst hlt
   simp [shopL,cshL,endsA,s0,s1,s6,s7,s8]
   refine ⟨_,by kernel_rfl,h33,by simp [boxy],?_⟩
   simp [shopL,cshL,endsA,s0,s1,s6,s7,s8]
   refine ⟨_,by kernel_rfl,h84,by simp [boxy],?_⟩
   simp [s0,s1,s6,s7,s8,w1]
   rfl
  ·have:i=1:=by omega
   subst this
   simp [s0,s1,s6,s7,s8,w1]
 ·rw [e] at h84 ⊢
  refine AC.of_body hG hmix func83 rfl ntmps83 (by simp) (ac:=c83) (by kernel_rfl) ?_
  simp [c83]
  refine awp_loop 8 1 (fun i S H=>i=0∧S 0 = .ref [vI [0]]∧S 1 = .ref (shopL s)∧S 6=vI [0]∧S 7 = .int .i64 1∧S 8 = .int .i64 (i:Nat)) (fun i S H h=>h.2.2.2.2.2) ⟨rfl,by simp,by simp,by simp,by simp,by simp⟩ ?_
  rintro i hi S H ⟨rfl,s0,s1,s6,s7,s8⟩
  simp [shopL,cshL,endsA,s0,s1,s6,s7,s8]
  refine ⟨_,by kernel_rfl,h33,by simp [boxy],?_⟩
  simp [shopL,cshL,endsA,s0,s1,s6,s7,s8]
  refine ⟨_,by kernel_rfl,h84,by simp [boxy,faultA,AOut.scal],?_⟩
  simp [s0,s1,s6,s7,s8,faultA]
theorem ac32 (s:CSheet) (hl:s.dry.length≤1000) (hb:dryOK s) (h1:s.coats.length=1):∃ c r,AC prog GT 32 [shopA s,vI [0]] (.ret (attO c r (if standsI s 0 0 s.dry.length false then 0 else 7))):=by
 have hG:Stable GT:=hGT
 obtain ⟨c,r,h⟩:∃ c r,AC prog GT 82 [.func (.func 83) [] [.ref [vI [0]],.ref (shopL s)]] (.ret (attO c r (if standsI s 0 0 s.dry.length false then 0 else 7))):=by
  have h:=ac83 s hl hb h1
  rcases standsO_cases s 0 0 s.dry.length false with ⟨e1,e⟩ | ⟨e1,r,e⟩
  ·rw [e] at h
   exact ⟨0,0,by rw [e1];exact ac82 hG (by kernel_rfl) h (.inl ⟨_,rfl,rfl,rfl,rfl⟩)⟩
  ·rw [e] at h
   exact ⟨0,r,by rw [e1];exact ac82 hG (by kernel_rfl) h (.inr ⟨rfl,rfl⟩)⟩
 refine ⟨c,r,?_⟩
 generalize (if standsI s 0 0 s.dry.length false then (0:Int) else 7)=e at h ⊢
 refine AC.of_SW func32 rfl ntmps32 (by simp) fun cc w => ?_
 refine SW.cut hG hmix (by kernel_rfl) (ac:=ACode.fst c32) (by kernel_rfl) (fun _ _ h=>h) (fun S' H'=>S' 2 = .box 2 0∧H' 2=some (shopL s)∧S' 3 = .box 3 0∧H' 3=some [vI [0]]∧S' 4 = .box 4 0∧H' 4=some [.int .i64 0,.int .i64 0]) ?_ ?_
 ·simp [c32,ACode.fst,shopA,shopL,cshL,endsA]
 rintro S1 H1 ⟨s2,h2,s3,h3,s4,h4⟩
 refine SW.freeze (i:=2) h2 rfl ?_
 refine SW.freeze (i:=3) (by rw [upd_ne _ _ (by decide)];exact h3) rfl ?_
 refine SW.cut hG hmix (by kernel_rfl) (ac:=ACode.fst (ACode.snd c32)) (by kernel_rfl) (fun _ _ h=>h) (fun S' H'=>S' 4 = .box 4 0∧H' 4=some [.int .i64 c,.int .i64 r]∧S' 5 = .int .i64 e) ?_ ?_
 ·simp [c32,ACode.fst,ACode.snd,frz,s2,s3,s4,h4,upd_ne,shopL_dem]
  refine ⟨_,by kernel_rfl,h,by simp [boxy,boxy1],?_⟩
  simp [attO,frz,s2,s3,s4,h4,upd_ne,scrub,fillA]
 rintro S2 H2 ⟨s4,h4,s5⟩
 refine SW.ret ⟨Marked.plain rfl,rfl,_,?_,rfl⟩
 obtain ⟨i93,hi93,hs93⟩:=info_size (P:=prog) (t:=93) (s:=2) (by kernel_rfl)
 obtain ⟨fs,hfs⟩:=under_struct (P:=prog) (t:=93) (by kernel_rfl)
 show ares prog 10 [.cell 4 93,.tmp 5] S2 H2=_
 simp [ares,aress,ares1,s4,h4,s5,hi93,hfs,hs93,loadA,aggT,AV.out,attO,AV.dem,AV.isData]
 try exact ⟨rfl,rfl⟩
def wordO (s:CSheet):List AV :=
 if cshI s && isPlanI s [0] then (if standsI s 0 0 s.dry.length false then [.int .i64 3,.int .i64 0] else if sumS (highS s) 0 s.dry.length < needS s 0 then [.int .i64 1,.int .i64 0] else [.int .i64 2,.int .i64 0])
 else [.int .i64 0,.int .i64 2]
theorem ac10 (s:CSheet) (hs:CSlim s) (h1:s.coats.length=1):AC prog GT 10 [cshA s,vI [0]] (.ret (.tup (wordO s))):=by
 have hG:Stable GT:=hGT
 have h29:=ac29 hG s hs.dry hs.work hs.coats
 have h30:=ac30 s hs.work [0] (by simp)
 have w1:IntKind.i64.wrap 1=1:=wrapI (by omega)
 unfold wordO
 cases e1:cshI s with
 |false =>
  rw [e1] at h29
  refine AC.of_body hG hmix func10 rfl ntmps10 (by simp) (ac:=c10) (by kernel_rfl) ?_
  simp [c10,cshA,cshL,endsA]
  refine ⟨_,by kernel_rfl,h29,by simp [boxy],?_⟩
  simp
 |true =>
 rw [e1] at h29
 cases e2:isPlanI s [0] with
 |false =>
  rw [e2] at h30
  refine AC.of_body hG hmix func10 rfl ntmps10 (by simp) (ac:=c10) (by kernel_rfl) ?_
  simp [c10,cshA,cshL,endsA]
  refine ⟨_,by kernel_rfl,h29,by simp [boxy],?_⟩
  simp
  refine ⟨_,by kernel_rfl,h30,by simp [boxy],?_⟩
  simp
 |true =>
 rw [e2] at h30
 have hg:=csh_good e1
 have hl:s.dry.length≤1000:=by have:=hg.dry12;omega
 have h31:=ac31 hG s hl hg.ok
 obtain ⟨c,r,h32⟩:=ac32 s hl hg.ok h1
 cases e3:standsI s 0 0 s.dry.length false with
 |true =>
  rw [e3] at h32
  simp only [if_true] at h32
  refine AC.of_body hG hmix func10 rfl ntmps10 (by simp) (ac:=c10) (by kernel_rfl) ?_
  simp [c10,cshA,cshL,endsA]
  refine ⟨_,by kernel_rfl,h29,by simp [boxy],?_⟩
  simp
  refine ⟨_,by kernel_rfl,h30,by simp [boxy],?_⟩
  simp
  refine ⟨_,by kernel_rfl,h31,by simp [boxy],?_⟩
  simp [shopA,shopL,cshL,endsA,fillA]
  refine ⟨_,by kernel_rfl,h32,by simp [boxy],?_⟩
  simp [attO,fillA]
 |false =>
 rw [e3] at h32
 simp only [Bool.false_eq_true,if_false] at h32
 have h33:=ac33 s (by omega)
 have h34:=ac34 hG s hl hg.ok (a:=0) (b:=s.dry.length) (by omega) (Nat.le_refl _)
 have hcl:0 < s.coats.length:=by omega
 have en:needS s 0=s.coats[0].1:=by simp [needS,hcl]
 refine AC.of_body hG hmix func10 rfl ntmps10 (by simp) (ac:=c10) (by kernel_rfl) ?_
 simp [c10,cshA,cshL,endsA]
 refine ⟨_,by kernel_rfl,h29,by simp [boxy],?_⟩
 simp
 refine ⟨_,by kernel_rfl,h30,by simp [boxy],?_⟩
 simp
 refine ⟨_,by kernel_rfl,h31,by simp [boxy],?_⟩
 simp [shopA,shopL,cshL,endsA,fillA]
 refine ⟨_,by kernel_rfl,h32,by simp [boxy],?_⟩
 simp [attO,fillA]
 refine awp_loop 35 1 (fun i S H=>S 1=vI [0]∧S 2 = .box 2 0∧H 2=some (cshL s)∧S 6 = .box 6 0∧H 6=some (shopL s)∧S 33=vI [0]∧S 34 = .int .i64 1∧S 35 = .int .i64 (i:Nat)∧(0 < i→¬ sumS (highS s) 0 s.dry.length < needS s 0)) (fun i S H h=>h.2.2.2.2.2.2.2.1) ⟨by simp,by simp,by simp [cshL,endsA],by simp,by simp [shopL,cshL,endsA],by simp,by simp,by simp,by simp⟩ ?_
 rintro i hi S H ⟨t1,t2,e2,t6,e6,t33,t34,t35,hb⟩
 by_cases hlt:i=0
 ·subst hlt
  clear hb
  simp [shopL,cshL,endsA,t1,t2,e2,t6,e6,t33,t34,t35]
  refine ⟨_,by kernel_rfl,h33,by simp [boxy],?_⟩
  simp [shopL,cshL,endsA,t1,t2,e2,t6,e6,t33,t34,t35]
  refine ⟨_,by kernel_rfl,h34,by simp [boxy],?_⟩
  by_cases hc:sumS (highS s) 0 s.dry.length < needS s 0
  ·simp [shopL,cshL,endsA,endA,fillA,dops,dstep,astep,t1,t2,e2,t6,e6,t33,t34,t35,hcl,← en,hc]
  ·simp [shopL,cshL,endsA,endA,fillA,dops,dstep,astep,t1,t2,e2,t6,e6,t33,t34,t35,hcl,← en,hc,w1]
   omega
 ·have hi1:i=1:=by omega
  subst hi1
  have hb:=hb (by omega)
  simp [t1,t2,e2,t6,e6,t33,t34,t35,hb]
end Go.Proofs.Tryz
namespace Go.Proofs.Tryz
open Go Go.AL Go.RowKit Go.Proofs Go.Proofs.Tram
attribute [local simp] awp_all qs_all ops_all dops_all ops_nil dops_nil ops_call ops_callv ops_alloc ops_box dops_call dops_alloc kO_eq kD_eq awanted apure ev Eff.S Eff.H tmpOf upd putD AL.start AV.dem AV.cells AV.storable AV.scells splice scrub abin loadA HR.okB post ares aress ares1 AV.out AV.isData ints_len ints_get fz fz1 AV.vw AV.vw1 boxy vI int undefA assignQ thenQ blockQ seqQ panQ prol prolH allocOf
variable {GI:World→Prop}
theorem ac6 (hG:Stable GI) (n lo hi:Int):AC prog GI 6 [.int .i64 n,.int .i64 lo,.int .i64 hi] (.ret (.bool (inI n lo hi))):=by
  refine AC.of_body hG hmix func6 rfl ntmps6 (by simp) (ac:=c6) (by kernel_rfl) ?_
  by_cases h1:lo≤n<;>by_cases h2:n≤hi<;>simp [c6,inI,h1,h2]
theorem info3:∃ it,prog.info? 3=some it∧it.size=1∧it.zero=some (.int .i64 0)∧it.bytes=8:=by
  have h:(prog.info? 3).map (fun i=>(i.size,i.zero,i.bytes))=some (1,some (.int .i64 0),8):=by kernel_rfl
  cases hi:prog.info? 3 with
  |none=>rw [hi] at h;cases h
  |some it=>rw [hi] at h;simp at h;exact ⟨it,rfl,h.1,h.2.1,h.2.2⟩
theorem run_make {a:Act} {w:World} {o:Oper} {x y:Operand} {k:Nat} (hk:1≤k∧k≤6) (ho:o.op = .makeSlice 28 x y) (hx:a.eval x = .int .i64 (k:Nat)) (hy:a.eval y = .int .i64 (k:Nat)) :
    (execOp a.eval o).run prog w = .ok (.value (.slice (some ⟨w.heap.size,0,none⟩) k k)) (w.alloc (.cells (Array.replicate k (.int .i64 0)) 3)):=by
  obtain ⟨it,hi,hs,hz,hb⟩:=info3
  have hun:prog.underlying 28=some (.slice 3):=by kernel_rfl
  have hw:IntKind.i64.wrap (k:Int)=k:=wrapI (by omega)
  have hroom:¬ (k * 8 > roomBytes):=by
    have:roomBytes=roomBytes:=rfl
    unfold roomBytes;omega
  have harr:(Array.range k).map (fun x=>(#[Value.int .i64 0])[x % 1]!)=Array.replicate k (.int .i64 0):=by
    apply Array.ext
    · simp
    · intro i h1 h2
      simp [Nat.mod_one]
  have h0:¬ (k:Int) < 0:=by omega
  have h8:¬ (281474976710656:Int) < 8 * (k:Int):=by omega
  have h1:¬ (k:Int)≤0:=by omega
  have hk0:k≠0:=by omega
  have harr2:(Array.range k).map (fun x=>([Value.int .i64 0][x % 1]?).getD default)=Array.replicate k (.int .i64 0):=by
    apply Array.ext
    · simp
    · intro i h1 h2
      simp [Nat.mod_one]
  unfold execOp
  simp [ho,hx,hy,Instr.makeSlice,run_underlying hun,asInt,asIntOf,typeInfo,hi,hs,hz,hb,hw,h0,h8,h1,askRoom,hroom,sizeOf,zeroValue,hk0,newRow,Value.cells,harr2]
theorem arr_eq {A B:Array Value} {v:Value} (hs:A.size=B.size) (h:∀ i (h:i < A.size),A[i]=v) (hB:∀ i (h:i < B.size),B[i]=v):A=B:=by
  apply Array.ext
  · exact hs
  · intro i h1 h2
    rw [h i h1,hB i h2]
theorem set_const {A:Array Value} {v:Value} (h:∀ i (h:i < A.size),A[i]=v) (j:Nat):∀ i (hi:i < (A.setIfInBounds j v).size),(A.setIfInBounds j v)[i]=v:=by
  intro i hi
  rw [Array.getElem_setIfInBounds]
  split
  · rfl
  · exact h i (by simpa using hi)
def zeroPs (k:Nat):Array (Nat×Operand):=(((List.replicate k (Operand.const (.int .i64 0))).zipIdx 0).map fun x=>(x.2,x.1)).toArray
theorem run_zeros {a:Act} {w:World} {o:Oper} {k:Nat} (hk:1≤k∧k≤6) (ho:o.op = .buildSlice 28 k (zeroPs k)) :
    (execOp a.eval o).run prog w = .ok (.value (.slice (some ⟨w.heap.size,0,none⟩) k k)) (w.alloc (.cells (Array.replicate k (.int .i64 0)) 3)):=by
  obtain ⟨it,hi,hs,hz,hb⟩:=info3
  cases it
  simp only at hs hz hb
  subst hs hz hb
  have hun:prog.underlying 28=some (.slice 3):=by kernel_rfl
  have hc:∀ n:Int,a.eval (.const (.int .i64 n)) = .int .i64 n:=fun n=>rfl
  have h6:k=1∨k=2∨k=3∨k=4∨k=5∨k=6:=by omega
  unfold execOp
  rcases h6 with rfl | rfl | rfl | rfl | rfl | rfl <;>
    simp [ho,zeroPs,List.replicate,List.zipIdx,hc,Instr.buildSlice,run_underlying hun,sizeOf,typeInfo,hi,zeroValue,newRow,Value.cells,Instr.fill,Array.range,Nat.mod_one] <;>
    (refine congrArg (fun c=>w.alloc (Obj.cells c 3)) (arr_eq (v := .int .i64 0) (by simp) ?_ (by intro i hi;simp))
     repeat first | exact fun i hi=>by simp | refine set_const ?_ _)
theorem opds_zeros:∀ k,opds 6 (List.replicate k (Operand.const (.int .i64 0)))=some (List.replicate k (.c (.int .i64 0)))
  |0=>rfl
  |k+1=>by simp [List.replicate_succ,opds,opds_zeros k,opd,constAV]
set_option maxRecDepth 100000 in
theorem ac25 (hG:Stable GI) {k:Nat} (hk:1≤k∧k≤6):AC prog GI 25 [.int .i64 (k:Nat)] (.ret (wordA ⟨List.replicate k 0,[],false⟩)):=by
  refine AC.of_SW func25 rfl ntmps25 (by simp) fun cc w => ?_
  refine SW.cut hG hmix (by kernel_rfl) (ac:=ACode.fst c25) (by kernel_rfl) (fun _ _ h=>h) (fun S' H'=>S' 0 = .int .i64 (k:Nat)∧S' 2 = .box 2 0∧H' 2=some [.slice .nil [],.slice .nil [],.bool false]) ?_ ?_
  · simp [c25,ACode.fst]
  rintro S1 H1 ⟨s0,s2,h2⟩
  refine SW.seq (SW.hand hG (p:=1) (lm:=[1]) (l2:=[2,3]) (os1:=[_]) (oh:=[_]) (os2:=[_,_]) rfl rfl rfl rfl (by kernel_rfl) (fun _ h=>h)
    (al1:=(ACode.dl (ACode.fst (ACode.snd c25))).take 1) (al2:=(ACode.dl (ACode.fst (ACode.snd c25))).drop 2) (by kernel_rfl) (by kernel_rfl) (by kernel_rfl) (by kernel_rfl)
    (K1:=fun S H=>S 3 = .int .i64 (k:Nat)∧S 2 = .box 2 0∧H 2=some [.slice .nil [],.slice .nil [],.bool false])
    (K2:=fun o S H=>o=Old.plain cc w∧S 4 = .slice (.own 3) (ints (List.replicate k 0))∧S 2 = .box 2 0∧H 2=some [.slice .nil [],.slice .nil [],.bool false])
    (K3:=fun o S H=>o=Old.plain cc w∧S 2 = .box 2 0∧∃ o',H 2=some [.slice o' (ints (List.replicate k 0)),.slice .nil [],.bool false]) ?_ ?_ ?_ ?_)
  · simp [c25,ACode.fst,ACode.snd,ACode.dl,s0,s2,h2]
  · rintro w0 g S2 H2 a w' m hG0 ho R ⟨s3,s2,h2⟩
    have e3:a.eval (.tmp 3) = .int .i64 (k:Nat):=slot_int R (by decide) s3
    obtain ⟨it,hi,hs,hz,hb⟩:=info3
    have hun:prog.underlying 28=some (.slice 3):=by kernel_rfl
    have hap:apure S2 H2 (.buildSlice 28 3 it.size (List.replicate k (.c (.int .i64 0))))=some { v := .slice (.own 3) (ints (List.replicate k 0)) }:=by
      have hm:(List.replicate k (Opd.c (.int .i64 0))).map (ev S2)=List.replicate k (.int .i64 0):=by simp [ev]
      have hkl:k≤16777216:=by omega
      simp only [apure,hm,hs]
      simp [elemsOK,AV.storable,AV.cells,AV.vw,AV.vw1,ints,hkl]
    obtain ⟨c,w2,g2,hrun,hgb,hgo,R2⟩:=does_buildSlice R (o:={ dst:=some 4,op := .buildSlice 28 k (zeroPs k),type:=28,pos := "",after := #[],guard:=none }) (xs:=List.replicate k (.const (.int .i64 0))) (ys:=List.replicate k (.c (.int .i64 0))) rfl (fun t ht=>by cases ht;exact ⟨by decide,id⟩) hun hi hz (by omega) (by simp [zeroPs]) (by simp) (by omega) (opds_zeros k) (fun y hy t ht=>id) hap
    · have hz':=run_zeros (a:=a) (w:=w') (o:={ dst:=some 4,op := .buildSlice 28 k (zeroPs k),type:=28,pos := "",after := #[],guard:=none }) hk rfl
      rw [hz'] at hrun
      obtain ⟨rfl,rfl⟩:Value.slice (some ⟨w'.heap.size,0,none⟩) k k=c∧w'.alloc (.cells (Array.replicate k (.int .i64 0)) 3)=w2:=by
        rcases hrun with h | ⟨h,_⟩
        · cases h;exact ⟨rfl,rfl⟩
        · cases h
      refine opIn_val rfl rfl (by rfl) (run_make (x := .tmp 3) (y := .tmp 3) hk rfl e3 e3) ?_
      exact ⟨g2,_,_,R2,by rw [hgo,ho],by simp [Eff.S,AL.putD,upd],by simp [Eff.S,AL.putD,upd,s2],by simpa [Eff.H] using h2⟩
  · rintro o S2 H2 ⟨rfl,s4,s2,h2⟩
    refine ⟨fun _ h=>h,?_⟩
    simp [c25,ACode.fst,ACode.snd,ACode.dl,s4,s2,h2,fillA]
    try exact ⟨_,rfl⟩
  · rintro o S2 H2 ⟨rfl,s2,o',h2⟩
    refine SW.ret ⟨Marked.plain rfl,rfl,_,?_,rfl⟩
    obtain ⟨i58,hi58,hs58⟩:=info_size (P:=prog) (t:=58) (s:=3) (by kernel_rfl)
    obtain ⟨fs,hfs⟩:=under_struct (P:=prog) (t:=58) (by kernel_rfl)
    show ares prog 6 [.cell 2 58] S2 H2=_
    simp [ares,aress,ares1,s2,h2,hi58,hfs,hs58,loadA,aggT,AV.out,wordA,vI,ints,AV.dem,AV.isData]
    try cases o'<;>first | exact ⟨rfl,rfl,rfl⟩ | rfl
def nameS (k:Nat):Sheet:=⟨[1],[],0,0,0,0,1,[⟨List.replicate k 0,[],false⟩],400,1⟩
theorem ac8 (hG:Stable GI) {k:Nat} (hk:1≤k∧k≤6):AC prog GI 8 [vI [(k:Int)]] (.ret (sheetA (nameS k))):=by
  have h25:=ac25 hG hk
  obtain ⟨i36,hi36,hs36⟩:=info_size (P:=prog) (t:=36) (s:=10) (by kernel_rfl)
  obtain ⟨fs,hfs⟩:=under_struct (P:=prog) (t:=36) (by kernel_rfl)
  have hw1:IntKind.i64.wrap 1=1:=wrapI (by omega)
  refine AC.of_body hG hmix func8 rfl ntmps8 (by simp) (ac:=c8) (by kernel_rfl) ?_
  refine awp_cut (fun S H=>S 0=vI [(k:Int)]∧S 2 = .box 2 0∧(∃ z,H 2=some z∧z.length=10)) (by simp) ?_
  rintro S H ⟨s0,s2,z,h2,hz⟩
  refine awp_cut (fun S H=>S 0=vI [(k:Int)]∧S 2 = .box 2 0∧(∃ z,H 2=some z∧z.length=10)∧S 3 = .box 3 0∧∃ o,H 3=some [.slice o (ints [1]),.slice .nil [],.int .i64 0,.int .i64 0,.int .i64 0,.int .i64 0,.int .i64 1,.slice .nil [],.int .i64 400,.int .i64 1]) ?_ ?_
  · simp [s0,s2,h2,hz,fillA,ints,elemsOK]
    try exact ⟨_,rfl⟩
  clear s0 s2 h2 hz z S H
  rintro S H ⟨s0,s2,⟨z,h2,hz⟩,s3,o,h3⟩
  simp [s0,s2,h2,hz,s3,h3]
  refine awp_loop 4 1 (fun i S H=>S 0=vI [(k:Int)]∧S 2 = .box 2 0∧(∃ z,H 2=some z∧z.length=10)∧S 3 = .box 3 0∧(∃ o,H 3=some [.slice o (ints [1]),.slice .nil [],.int .i64 0,.int .i64 0,.int .i64 0,.int .i64 0,.int .i64 1,(if i=0 then .slice .nil [] else .slice (.own 58) [wordA ⟨List.replicate k 0,[],false⟩]),.int .i64 400,.int .i64 1])∧S 4 = .int .i64 (i:Nat)) (fun i S H h=>h.2.2.2.2.2) ⟨by simp [s0],by simp [s2],⟨z,by simp [h2],hz⟩,by simp [s3],⟨o,by simp [h3]⟩,by simp⟩ ?_
  clear s0 s2 h2 hz z s3 h3 o S H
  rintro i hi S H ⟨s0,s2,⟨z,h2,hz⟩,s3,⟨o,h3⟩,s4⟩
  by_cases h0:i=0
  · subst h0
    simp only [if_true] at h3
    simp [s0,s2,h2,hz,s3,h3,s4]
    refine ⟨_,by kernel_rfl,h25,by simp [boxy],?_⟩
    simp [s0,s2,h2,hz,s3,h3,s4,hw1,wordA,elemsOK]
  · have h1:i=1:=by omega
    subst h1
    simp only [Nat.one_ne_zero,if_false] at h3
    simp [s0,s2,h2,hz,s3,h3,s4,hi36,hs36,hfs,aggT,sheetA,sheetL,nameS]
    cases o<;>rfl
end Go.Proofs.Tryz
namespace Go.Proofs.Tryz
open Go Go.AL Go.RowKit Go.Proofs Go.Proofs.Tram
attribute [local simp] awp_all qs_all ops_all dops_all ops_nil dops_nil ops_call ops_callv ops_alloc ops_box dops_call dops_alloc kO_eq kD_eq awanted apure ev Eff.S Eff.H tmpOf upd putD AL.start AV.dem AV.cells AV.storable AV.scells splice scrub abin loadA HR.okB post ares aress ares1 AV.out AV.isData ints_len ints_get fz fz1 AV.vw AV.vw1 boxy vI int undefA assignQ thenQ blockQ seqQ panQ prol prolH allocOf
def bS:Sheet:=⟨[6,4,8],[⟨0,1,1,3⟩,⟨2,0,0,2⟩],2,4,5,8,3,[⟨[2,0,1],[],false⟩,⟨[0,2],[1],true⟩],18,2⟩
def aS:CSheet:=⟨[(6,8),(4,6),(8,10),(2,4),(6,6),(5,9),(8,12),(4,4)],[0,2,3,5,6],[(9,20),(10,20),(8,30)]⟩
theorem over_b:overI bS=3:=by kernel_rfl
theorem good_b:sheetI bS=true:=by kernel_rfl
theorem good_a:cshI aS=true:=by kernel_rfl
theorem first_a:allT aS=[0,2,5]::(allT aS).tail:=by kernel_rfl
theorem few_a:(allT aS).length=1:=by kernel_rfl
theorem slim_b:Slim bS:=⟨by decide,by decide,by decide,fun w hw=>by
 simp [bS] at hw;rcases hw with rfl | rfl<;>decide,fun w hw=>by
 simp [bS] at hw;rcases hw with rfl | rfl<;>decide⟩
theorem slim_a:CSlim aS:=⟨by decide,by decide,by decide,fun _=>by rw [few_a];decide⟩
variable {GI:World→Prop}
theorem ac139 (hG:Stable GI) (a b:Int):AC prog GI 139 [.int .i64 a,.int .i64 b] (.ret (endA (a,b))):=by
 obtain ⟨i33,hi33,hs33⟩:=info_size (P:=prog) (t:=33) (s:=2) (by kernel_rfl)
 obtain ⟨fs,hfs⟩:=under_struct (P:=prog) (t:=33) (by kernel_rfl)
 refine AC.of_body hG hmix func139 rfl ntmps139 (by simp) (ac:=c139) (by kernel_rfl) ?_
 simp [c139,hi33,hs33,hfs,aggT,endA,fillA]
theorem ac68 (hG:Stable GI) (a b:Int):AC prog GI 68 [.int .i64 a,.int .i64 b] (.ret (endA (a,b))):=by
 obtain ⟨i33,hi33,hs33⟩:=info_size (P:=prog) (t:=33) (s:=2) (by kernel_rfl)
 obtain ⟨fs,hfs⟩:=under_struct (P:=prog) (t:=33) (by kernel_rfl)
 refine AC.of_body hG hmix func68 rfl ntmps68 (by simp) (ac:=c68) (by kernel_rfl) ?_
 simp [c68,hi33,hs33,hfs,aggT,endA,fillA]
theorem ac67 (hG:Stable GI):AC prog GI 67 [] (.ret (sheetA { bS with wide:=21 })):=by
 obtain ⟨i36,hi36,hs36⟩:=info_size (P:=prog) (t:=36) (s:=10) (by kernel_rfl)
 obtain ⟨fs,hfs⟩:=under_struct (P:=prog) (t:=36) (by kernel_rfl)
 refine AC.of_body hG hmix func67 rfl ntmps67 (by simp) (ac:=c67) (by kernel_rfl) ?_
 simp [c67,elemsOK]
 refine ⟨_,by kernel_rfl,ac139 hG 1 3,by simp [boxy],?_⟩
 simp [endA,fillA,elemsOK]
 refine ⟨_,by kernel_rfl,ac139 hG 0 2,by simp [boxy],?_⟩
 simp [endA,fillA,elemsOK]
 refine ⟨_,by kernel_rfl,ac139 hG 2 4,by simp [boxy],?_⟩
 simp [endA,fillA,elemsOK]
 refine ⟨_,by kernel_rfl,ac139 hG 5 8,by simp [boxy],?_⟩
 simp [endA,fillA,elemsOK,hi36,hs36,hfs,aggT,sheetA,sheetL,bS,wordA,pairA,ints]
theorem ac21 (hG:Stable GI):AC prog GI 21 [] (.ret (sheetA bS)):=by
 obtain ⟨i36,hi36,hs36⟩:=info_size (P:=prog) (t:=36) (s:=10) (by kernel_rfl)
 obtain ⟨fs,hfs⟩:=under_struct (P:=prog) (t:=36) (by kernel_rfl)
 refine AC.of_body hG hmix func21 rfl ntmps21 (by simp) (ac:=c21) (by kernel_rfl) ?_
 simp [c21]
 refine ⟨_,by kernel_rfl,ac67 hG,by simp [boxy],?_⟩
 simp [sheetA,sheetL,bS,hi36,hs36,hfs,aggT,wordA,pairA,ints]
theorem ac23 (hG:Stable GI):AC prog GI 23 [] (.ret (cshA aS)):=by
 obtain ⟨i30,hi30,hs30⟩:=info_size (P:=prog) (t:=30) (s:=3) (by kernel_rfl)
 obtain ⟨fs,hfs⟩:=under_struct (P:=prog) (t:=30) (by kernel_rfl)
 refine AC.of_body hG hmix func23 rfl ntmps23 (by simp) (ac:=c23) (by kernel_rfl) ?_
 simp [c23]
 refine ⟨_,by kernel_rfl,ac68 hG 6 8,by simp [boxy],?_⟩
 simp [endA]
 refine ⟨_,by kernel_rfl,ac68 hG 4 6,by simp [boxy],?_⟩
 simp [endA]
 refine ⟨_,by kernel_rfl,ac68 hG 8 10,by simp [boxy],?_⟩
 simp [endA]
 refine ⟨_,by kernel_rfl,ac68 hG 2 4,by simp [boxy],?_⟩
 simp [endA]
 refine ⟨_,by kernel_rfl,ac68 hG 6 6,by simp [boxy],?_⟩
 simp [endA]
 refine ⟨_,by kernel_rfl,ac68 hG 5 9,by simp [boxy],?_⟩
 simp [endA]
 refine ⟨_,by kernel_rfl,ac68 hG 8 12,by simp [boxy],?_⟩
 simp [endA]
 refine ⟨_,by kernel_rfl,ac68 hG 4 4,by simp [boxy],?_⟩
 simp [endA,fillA,elemsOK,hi30,hs30,hfs,aggT,cshA,cshL,aS,endsA,ints]
theorem ac24 (hG:Stable GI) (l:List Int) (hl:l.length < 1000):AC prog GI 24 [vI l,vI l] (.ret (.bool true)):=by
 refine AC.of_body hG hmix func24 rfl ntmps24 (by simp) (ac:=c24) (by kernel_rfl) ?_
 simp [c24]
 refine awp_loop 5 l.length (fun i S H=>S 0=vI l∧S 1=vI l∧S 5 = .int .i64 (i:Nat)) (fun i S H h=>h.2.2) ⟨by simp,by simp,by simp⟩ ?_
 rintro i hi S H ⟨s0,s1,s5⟩
 by_cases hlt:i < l.length
 ·have hw:IntKind.i64.wrap ((i:Int)+1)=i+1:=wrapI (by omega)
  have hn:¬ (i:Int) < 0:=by omega
  simp [s0,s1,s5,hlt,hw,hn,dops,dstep,astep]
 ·have hil:i=l.length:=by omega
  subst hil
  simp [s0,s1,s5]
theorem ac7:AC prog GT 7 [] (.ret (.bool true)):=by
 have hG:Stable GT:=hGT
 have h20:=ac20 hG bS slim_b
 have h22:=ac22 aS slim_a
 have e20:overO bS=[.int .i64 3,.int .i64 0]:=by unfold overO;rw [if_pos good_b,over_b];rfl
 have e22:firstO aS=[vI [0,2,5],.int .i64 0]:=by unfold firstO;rw [if_pos good_a,first_a]
 rw [e20] at h20
 rw [e22] at h22
 refine AC.of_body hG hmix func7 rfl ntmps7 (by simp) (ac:=c7) (by kernel_rfl) ?_
 simp [c7]
 refine ⟨_,by kernel_rfl,ac21 hG,by simp [boxy],?_⟩
 simp [sheetA,sheetL]
 refine ⟨_,by kernel_rfl,h20,by simp [boxy],?_⟩
 simp
 refine ⟨_,by kernel_rfl,ac23 hG,by simp [boxy],?_⟩
 simp [cshA,cshL]
 refine ⟨_,by kernel_rfl,h22,by simp [boxy],?_⟩
 simp [elemsOK]
 refine ⟨_,by kernel_rfl,ac24 hG [0,2,5] (by decide),by simp [boxy],?_⟩
 simp
end Go.Proofs.Tryz
namespace Go.Proofs.Tryz
open Go Go.AL Go.RowKit Go.Proofs Go.Proofs.Tram Go.Proofs.Coat
def jobS (l:List End) (need:Int):CSheet:=⟨l,(List.range l.length).map fun i:Nat=>(i:Int),[(need,400)]⟩
def dayS (l:List End) (pace:Int) (k:Nat):TSheet:=⟨l.map fun e=>⟨e.1,e.2,false⟩,l.length,12,pace,0,nameS k⟩
theorem name_ok {k:Nat} (hk:1≤k∧k≤6):sheetI (nameS k)=true∧(∃ es,setE (nameS k)=some es∧cntE es 0 k=0):=by
 have h6:k=1∨k=2∨k=3∨k=4∨k=5∨k=6:=by omega
 have key:∀ k,(setE (nameS k)).any (fun es=>cntE es 0 k==0)=true→∃ es,setE (nameS k)=some es∧cntE es 0 k=0:=fun k h=>by
  cases hs:setE (nameS k) with
  |none=>rw [hs] at h;cases h
  |some es=>rw [hs] at h;exact ⟨es,rfl,by simpa using h⟩
 rcases h6 with rfl | rfl | rfl | rfl | rfl | rfl<;>exact ⟨by kernel_rfl,key _ (by kernel_rfl)⟩
theorem name_slim {k:Nat} (hk:1≤k∧k≤6):Slim (nameS k):=⟨by simp [nameS],by simp [nameS],by simp [nameS],fun w hw=>by
 simp [nameS] at hw;subst hw;simp;omega,fun w hw=>by
 simp [nameS] at hw;subst hw;simp⟩
structure WArg (l:List End) (k:Nat) (pace:Int):Prop where
 n:1≤l.length∧l.length≤12
 k:1≤k∧k≤6
 pace:1≤pace∧pace≤9
 ticks:∀ e∈l,1≤e.1∧e.1≤e.2∧e.2≤20
theorem job_ok {l:List End} {k:Nat} {pace:Int} (h:WArg l k pace):cshI (jobS l (pace * k))=true:=by
 have hn:=h.n
 have hk:=h.k
 have hp:=h.pace
 have hm1:1≤pace * (k:Int):=by
  have:=Int.mul_le_mul (a:=1) (b:=1) (c:=pace) (d:=(k:Int)) (by omega) (by omega) (by omega) (by omega)
  simpa using this
 have hm2:pace * (k:Int)≤9 * 6:=Int.mul_le_mul (by omega) (by omega) (by omega) (by omega)
 have h3:l.any wrongS=false:=by
  rw [List.any_eq_false]
  intro e he
  have:=h.ticks e he
  simp [wrongS,inI];omega
 have h4:[((pace * (k:Int)),(400:Int))].any badC=false:=by
  simp [badC,inI];omega
 have h5:risesC ((List.range l.length).map fun i:Nat=>(i:Int))=true:=by
  rw [risesC_iff]
  intro j hj
  simp at hj
  simp [List.getD_eq_getElem?_getD,hj,show j < l.length by omega]
  omega
 have h6:((List.range l.length).map fun i:Nat=>(i:Int)).any (fun n => !isDayI (jobS l (pace * k)) n)=false:=by
  rw [List.any_eq_false]
  intro x hx
  obtain ⟨i,hi,rfl⟩:=List.mem_map.1 hx
  have:=List.mem_range.1 hi
  simp [isDayI,inI,jobS]
  exact decide_eq_true (by omega)
 unfold cshI
 show (inI (l.length:Int) 1 12 && inI ((1:Nat):Int) 1 5 && !l.any wrongS && ![((pace * (k:Int)),(400:Int))].any badC && risesC ((List.range l.length).map fun i:Nat=>(i:Int)) && !((List.range l.length).map fun i:Nat=>(i:Int)).any fun n => !isDayI (jobS l (pace * k)) n)=true
 rw [h3,h4,h5,h6]
 simp [inI];omega
theorem day_ok {l:List End} {k:Nat} {pace:Int} (h:WArg l k pace):tshI (dayS l pace k)=true:=by
 have hn:=h.n
 have hp:=h.pace
 have h3:(l.map fun e=>(⟨e.1,e.2,false⟩:TCell)).any wrongT=false:=by
  rw [List.any_eq_false]
  intro c hc
  obtain ⟨e,he,rfl⟩:=List.mem_map.1 hc
  have:=h.ticks e he
  simp [wrongT,inI];omega
 unfold tshI
 simp only [dayS,h3,(name_ok h.k).1,List.length_map]
 simp [inI];omega
theorem sumS_D (l:List Int) {d:Nat} (hd:d≤l.length):sumS l d l.length=sumD l d l.length:=by
 unfold sumS sumD
 have e1:l.take l.length=l:=List.take_of_length_le (Nat.le_refl _)
 have e2:(l.drop d).take (l.length - d)=l.drop d:=List.take_of_length_le (by simp)
 rw [e1,e2]
 have:(l.take d).sum+(l.drop d).sum=l.sum:=by rw [← List.sum_append,List.take_append_drop]
 omega
theorem job_ok1 {l:List End} {need:Int} {d:Nat} (hd:d < l.length):okDay (jobS l need) 0 [] (d:Int)=decide (need≤sumD (l.map (·.1)) d l.length):=by
 have e:=sumS_D (l.map (·.1)) (d:=d) (by simp;omega)
 rw [List.length_map] at e
 unfold okDay
 simp only [List.getLast?_nil,List.length_nil,goesI,Bool.and_true,Bool.true_and,Int.toNat_natCast]
 unfold standsI
 show (!decide (sumS (lowS (jobS l need)) d l.length < needS (jobS l need) 0) && !(false && _))=_
 have e1:lowS (jobS l need)=l.map (·.1):=rfl
 have e2:needS (jobS l need) 0=need:=rfl
 rw [e1,e2,e,Bool.eq_iff_iff]
 simp
theorem flat_filter {α β:Type} (p:α→Bool) (f:α→β):∀ l:List α,(l.flatMap fun x=>if p x then [f x] else [])=(l.filter p).map f
 |[]=>rfl
 |x::l=>by
  rw [List.flatMap_cons,flat_filter p f l,List.filter_cons]
  cases p x<;>simp
theorem job_all {l:List End} {need:Int}:allT (jobS l need)=((List.range l.length).filter fun d=>decide (need≤sumD (l.map (·.1)) d l.length)).map fun d:Nat=>[(d:Int)]:=by
 have h1:allT (jobS l need)=(List.range l.length).flatMap fun d:Nat=>if okDay (jobS l need) 0 [] (d:Int) then [[(d:Int)]] else []:=by
  show ((List.range l.length).map fun i:Nat=>(i:Int)).flatMap _=_
  rw [List.flatMap_map]
  rfl
 rw [h1,flat_filter (fun d:Nat=>okDay (jobS l need) 0 [] (d:Int)) (fun d:Nat=>[(d:Int)])]
 congr 1
 refine List.filter_congr fun d hd=>job_ok1 (List.mem_range.1 hd)
theorem job_slim {l:List End} {k:Nat} {pace:Int} (h:WArg l k pace):CSlim (jobS l (pace * k)):=by
 have hn:=h.n
 refine ⟨?_,?_,?_,fun _ => ?_⟩
 ·show l.length < 1000000;omega
 ·show ((List.range l.length).map fun i:Nat=>(i:Int)).length < 1000000
  simp;omega
 ·show 1 < 1000000;omega
 ·rw [job_all,List.length_map]
  have:=List.length_filter_le (fun d=>decide (pace * (k:Int)≤sumD (l.map (·.1)) d l.length)) (List.range l.length)
  simp only [List.length_range] at this
  omega
theorem day_slim {l:List End} {k:Nat} {pace:Int} (h:WArg l k pace):TSlim (dayS l pace k):=⟨by have:=h.n;show (l.map _).length < 1000000;simp;omega,name_slim h.k⟩
theorem best_some:∀ (l:List Nat) (x m:Nat),(∀ d∈l,d < m)→x < m→∃ y,y < m∧bestC [(x:Int)] (l.map fun d:Nat=>[(d:Int)])=[(y:Int)]
 |[],x,m,_,hx=>⟨x,hx,rfl⟩
 |d::l,x,m,h,hx=>by
  have hd:=h d (by simp)
  have ih:=fun z hz=>best_some l z m (fun e he=>h e (List.mem_cons_of_mem _ he)) hz
  show ∃ y,y < m∧bestC (if ([(x:Int)]).getD 0 0 < ([(d:Int)]).getD 0 0 then [(d:Int)] else [(x:Int)]) (l.map fun d:Nat=>[(d:Int)])=[(y:Int)]
  split
  ·exact ih d hd
  ·exact ih x hx
theorem best_last {l:List Nat} {x m:Nat} (h:∀ d∈l,d < m) (hx:x < m):bestC [(x:Int)] ((l++[m]).map fun d:Nat=>[(d:Int)])=[(m:Int)]:=by
 obtain ⟨y,hy,e⟩:=best_some l x m h hx
 rw [List.map_append]
 unfold bestC at e ⊢
 rw [List.foldl_append,e]
 simp
 omega
theorem sumR_congr {f g:Nat→Int} {a b:Nat} (h:∀ i,a≤i→i < b→f i=g i):sumR f a b=sumR g a b:=by
 unfold sumR
 congr 1
 refine List.map_congr_left fun i hi => ?_
 have:=List.mem_range'_1.1 hi
 exact h i this.1 (by omega)
theorem sumR_le {f g:Nat→Int} {a b:Nat} (h:∀ i,a≤i→i < b→f i≤g i):sumR f a b≤sumR g a b:=by
 unfold sumR
 have key:∀ l:List Nat,(∀ i∈l,f i≤g i)→(l.map f).sum≤(l.map g).sum:=by
  intro l
  induction l with
  |nil=>intro _;exact Int.le_refl _
  |cons x l ih =>
   intro h
   have h1:=h x (by simp)
   have h2:=ih fun i hi=>h i (List.mem_cons_of_mem _ hi)
   simp only [List.map_cons,List.sum_cons]
   omega
 refine key _ fun i hi => ?_
 have:=List.mem_range'_1.1 hi
 exact h i this.1 (by omega)
section
variable {l:List End} {k:Nat} {pace:Int}
theorem day_needs (h:WArg l k pace):∃ es,setE (dayS l pace k).name=some es∧needsT (dayS l pace k) es=[pace * k]:=by
 obtain ⟨es,h1,h2⟩:=(name_ok h.k).2
 refine ⟨es,h1,?_⟩
 have hl:lenW (nameS k) 0=k:=by simp [lenW,nameS]
 have:needT (dayS l pace k) es 0=pace * k:=by
  show pace * (lenW (nameS k) 0:Int)+0 * (cntE es 0 (lenW (nameS k) 0):Int)=_
  rw [hl,h2];simp
 show (List.range 1).map (needT (dayS l pace k) es)=_
 simp [this]
theorem day_seen {r:Nat} (hr1:1≤r) (i:Nat):seenT (atR (dayS l pace k) r) i=true↔l.length - r≤i∧i < l.length:=by
 unfold seenT
 have e1:lowT (atR (dayS l pace k) r)=l.length - r:=by
  show ((l.length:Int) - (r:Int)).toNat=_
  omega
 have e2:(atR (dayS l pace k) r).pos.toNat=l.length:=by
  show ((l.length:Int)).toNat=_
  omega
 have e3:hidT (atR (dayS l pace k) r) i=false:=by
  unfold hidT
  show (match (l.map fun e=>(⟨e.1,e.2,false⟩:TCell))[i]? with | some c=>c.hid | none=>false)=false
  rw [List.getElem?_map]
  cases l[i]?<;>rfl
 rw [e1,e2,e3]
 simp
theorem day_read (h:WArg l k pace) (e:Nat) {r:Nat} (hr1:1≤r):readT e (atR (dayS l pace k) r) [pace * (k:Int)]=if pace * (k:Int)≤sumR (rideF (rideT e (dayS l pace k))) (l.length - r) l.length then 1 else 0:=by
 have hn:=h.n
 unfold readT
 have hc:(atR (dayS l pace k) r).cells.length=l.length:=by show (l.map _).length=_;simp
 rw [hc,views_last (d:=l.length - r) (by omega) fun i _=>day_seen hr1 i,read_one _ _ (by omega)]
 rfl
theorem day_reach:atR (dayS l pace k) 12=dayS l pace k:=rfl
end
theorem wait_facts {l:List End} {k:Nat} {pace:Int} (h:WArg l k pace):∃ a e w f x y:Int,lateO (jobS l (pace * k))=[.int .i64 a,.int .i64 e]∧wordO (jobS l (pace * k))=[.int .i64 w,.int .i64 0]∧farO (dayS l pace k)=[.int .i64 f,.int .i64 e] ∧
  sureO 0 (dayS l pace k)=[.int .i64 x,.int .i64 0]∧sureO 1 (dayS l pace k)=[.int .i64 y,.int .i64 0]∧((e=0∧0≤a∧a≤l.length - 1∧f=l.length - a∧x=1)∨(e=5∧x=0))∧x≤y∧y≤1∧(w=3↔x=1)∧(w=1↔y=0):=by
 have hn:=h.n
 obtain ⟨es,hset,hneeds⟩:=day_needs h
 obtain ⟨need,hneed⟩:∃ need,pace * (k:Int)=need:=⟨_,rfl⟩
 obtain ⟨lo,hlo⟩:∃ lo:List Int,lo=l.map (·.1):=⟨_,rfl⟩
 have hll:lo.length=l.length:=by rw [hlo];simp
 obtain ⟨ride,hride⟩:∃ ride:Nat→Int,ride=fun i=>if hi:i < lo.length then lo[i] else 1:=⟨_,rfl⟩
 have hlo1:∀ i (hi:i < lo.length),1≤lo[i]:=fun i hi=>by
  subst hlo
  simp only [List.getElem_map]
  exact (h.ticks _ (List.getElem_mem (by simpa using hi))).1
 have hpos:∀ i,0 < ride i:=fun i=>by
  rw [hride]
  by_cases hi:i < lo.length
  ·simp only [hi,dif_pos];have:=hlo1 i hi;omega
  ·simp only [hi,dif_neg,not_false_eq_true];decide
 have hr:∀ i (hi:i < lo.length),ride i=lo[i]:=fun i hi=>by rw [hride];simp only [hi,dif_pos]
 have hR0:∀ a,sumR (rideF (rideT 0 (dayS l pace k))) a l.length=sumR ride a l.length:=fun a=>sumR_congr fun i _ hi=>by
  rw [hr i (by omega)]
  show (rideT 0 (dayS l pace k)).getD i 0=_
  subst hlo
  simp [rideT,dayS,tickT,List.getD_eq_getElem?_getD,hi]
 have hR1:sumR ride 0 l.length≤sumR (rideF (rideT 1 (dayS l pace k))) 0 l.length:=by
  rw [← hR0]
  refine sumR_le fun i _ hi => ?_
  have:=h.ticks l[i] (List.getElem_mem hi)
  show (rideT 0 (dayS l pace k)).getD i 0≤(rideT 1 (dayS l pace k)).getD i 0
  simp [rideT,dayS,tickT,List.getD_eq_getElem?_getD,hi]
  omega
 have hread:∀ e,readT e (dayS l pace k) [need]=if need≤sumR (rideF (rideT e (dayS l pace k))) 0 l.length then 1 else 0:=fun e=>by
  have:=day_read h e (r:=12) (by decide)
  rw [day_reach,hneed,show l.length - 12=0 by omega] at this
  exact this
 have hsure:∀ e,sureO e (dayS l pace k)=[.int .i64 (readT e (dayS l pace k) [need]:Nat),.int .i64 0]:=fun e=>by
  unfold sureO
  rw [if_pos (day_ok h),hset]
  simp only [hneeds,hneed]
 have hfarB:∀ r,1≤r→farB (dayS l pace k) [need] r=decide (need≤sumR ride (l.length - r) l.length):=fun r hr1=>by
  unfold farB
  have:=day_read h 0 hr1
  rw [hneed,hR0] at this
  rw [this]
  by_cases hc:need≤sumR ride (l.length - r) l.length<;>simp [hc]
 have hfar:farO (dayS l pace k)=(match (List.range' 1 12).find? (farB (dayS l pace k) [need]) with | some r=>[.int .i64 (r:Nat),.int .i64 0] | none=>[.int .i64 0,.int .i64 5]):=by
  unfold farO
  rw [if_pos (day_ok h),hset]
  simp only [hneeds,hneed]
  cases (List.range' 1 12).find? (farB (dayS l pace k) [need])<;>rfl
 have hplan:isPlanI (jobS l need) [0]=true:=by
  unfold isPlanI
  have h1:((List.range l.length).map fun i:Nat=>(i:Int)).contains 0=true:=by
   rw [List.contains_iff_mem]
   exact List.mem_map.2 ⟨0,List.mem_range.2 (by omega),rfl⟩
  show (decide (1=1) && (risesC [0] && !([0]:List Int).any fun x => !((List.range l.length).map fun i:Nat=>(i:Int)).contains x))=true
  simp only [List.any_cons,List.any_nil,h1]
  decide
 have hjok:=job_ok h
 have hall:allT (jobS l need)=((List.range lo.length).filter fun d=>decide (need≤sumD lo d lo.length)).map fun d:Nat=>[(d:Int)]:=by
  rw [job_all,hll,hlo]
 rw [hneed] at hjok ⊢
 have hD0:sumS (lowS (jobS l need)) 0 l.length=sumR ride 0 l.length:=by
  have e1:lowS (jobS l need)=lo:=hlo.symm
  have e2:=sumS_D lo (d:=0) (by omega)
  rw [hll] at e2
  rw [e1,e2]
  have:=sumD_sumR lo hr lo.length 0 (by omega)
  rw [hll] at this
  exact this
 have hst:standsI (jobS l need) 0 0 (jobS l need).dry.length false=decide (need≤sumR ride 0 l.length):=by
  unfold standsI
  show (!decide (sumS (lowS (jobS l need)) 0 l.length < need) && !(false && _))=_
  rw [hD0,Bool.eq_iff_iff]
  simp
 have hhi:sumS (highS (jobS l need)) 0 l.length=sumR (rideF (rideT 1 (dayS l pace k))) 0 l.length:=by
  have e1:highS (jobS l need)=l.map (·.2):=rfl
  have e2:=sumS_D (l.map (·.2)) (d:=0) (by simp)
  rw [List.length_map] at e2
  rw [e1,e2]
  have:=sumD_sumR (l.map (·.2)) (ride:=rideF (rideT 1 (dayS l pace k))) (fun i hi=>by
   have hi':i < l.length:=by simpa using hi
   show (rideT 1 (dayS l pace k)).getD i 0=_
   simp [rideT,dayS,tickT,List.getD_eq_getElem?_getD,hi']) l.length 0 (by simp)
  rw [List.length_map] at this
  exact this
 have hword:wordO (jobS l need)=if need≤sumR ride 0 l.length then [.int .i64 3,.int .i64 0] else if sumR (rideF (rideT 1 (dayS l pace k))) 0 l.length < need then [.int .i64 1,.int .i64 0] else [.int .i64 2,.int .i64 0]:=by
  unfold wordO
  rw [hjok,hplan,Bool.and_true,if_pos rfl,hst]
  have e1:sumS (highS (jobS l need)) 0 (jobS l need).dry.length=sumR (rideF (rideT 1 (dayS l pace k))) 0 l.length:=hhi
  have e2:needS (jobS l need) 0=need:=rfl
  rw [e1,e2]
  by_cases hc:need≤sumR ride 0 l.length<;>simp [hc]
 have hx:=hread 0
 rw [hR0] at hx
 have hy:=hread 1
 obtain ⟨Y,hY⟩:∃ Y,sumR (rideF (rideT 1 (dayS l pace k))) 0 l.length=Y:=⟨_,rfl⟩
 rw [hY] at hy hR1 hword
 have hlate:lateO (jobS l need)=(match allT (jobS l need) with | []=>[.int .i64 0,.int .i64 5] | p::l=>[.int .i64 ((bestC p l).getD 0 0),.int .i64 0]):=by
  unfold lateO
  rw [if_pos hjok]
  try (cases allT (jobS l need)<;>rfl)
 rcases waits hpos hr (by omega) need with ⟨h1,h2,h3,h4⟩ | ⟨late,l0,h1,h2,h3,h4,h5,h6⟩
 ·rw [hll] at h3 h4
  have hf:(List.range' 1 12).find? (farB (dayS l pace k) [need])=none:=find_nothing fun r hr1 _=>by rw [hfarB r hr1];simp [h4 r hr1]
  refine ⟨0,5,if Y < need then 1 else 2,0,0,if need≤Y then 1 else 0,?_,?_,?_,?_,?_,.inr ⟨rfl,rfl⟩,?_,?_,?_,?_⟩
  ·rw [hlate,hall,h2];rfl
  ·rw [hword,if_neg h3];split<;>rfl
  ·rw [hfar,hf]
  ·rw [hsure,hx,if_neg h3];rfl
  ·rw [hsure,hy];split<;>rfl
  ·split<;>omega
  ·split<;>omega
  ·split<;>simp
  ·split<;>split<;>omega
 ·rw [hll] at h2 h4 h5 h6
  have hf:(List.range' 1 12).find? (farB (dayS l pace k) [need])=some (l.length - late):=find_first (by omega) (by omega) (by rw [hfarB _ (by omega)];simpa using h5) fun r hr1 hr2=>by rw [hfarB r hr1];simpa using h6 r hr1 hr2
  refine ⟨late,0,3,((l.length - late:Nat):Int),1,1,?_,?_,?_,?_,?_,.inl ⟨rfl,by omega,by omega,by omega,rfl⟩,by omega,by omega,by simp,by simp⟩
  ·rw [hlate,hall,h1]
   cases l0 with
   |nil=>rfl
   |cons x l0 =>
    have hb:=best_last (l:=l0) (x:=x) (m:=late) (fun d hd=>h3 d (List.mem_cons_of_mem _ hd)) (h3 x (by simp))
    show [AV.int .i64 ((bestC [(x:Int)] ((l0++[late]).map fun d:Nat=>[(d:Int)])).getD 0 0),AV.int .i64 0]=_
    rw [hb];rfl
  ·rw [hword,if_pos h4]
  ·rw [hfar,hf]
  ·rw [hsure,hx,if_pos h4];rfl
  ·rw [hsure,hy,if_pos (by omega)];rfl
end Go.Proofs.Tryz
namespace Go.AL
section
variable {P:Program} {GI:World→Prop} {n:Nat} {ro:Option Nat} {old:Old} {S:Slots} {H:Boxes} {Q:Post}
theorem SW.last (hG:Stable GI) (hm:P.follows .mixedOrders=true) {x:Code} (hc:calmC x=true) {ac:ACode} (hac:compC P n x=ac) (hbx:∀ d∈ac.names,¬ old.bx d) (K:Slots→Boxes→Prop) (h:awp P GI ac (assignQ K) S H)
  (hy:∀ S' H',K S' H'→Q .normal old S' H'):SW P GI n ro x Q old S H:=by
 subst hac
 intro w0 g a w m hG0 ho R
 refine wpIn_mono (awp_wpIn hG hG0 hm x (assignQ K) g S H a w hc hbx ho R h) ?_
 intro e a' w' hq
 cases e with
 |normal =>
  obtain ⟨g',S',H',h1,h2,h3⟩:=hq
  exact ⟨g',S',H',h2,by rw [h1];exact hy S' H' h3⟩
 |exit id=>obtain ⟨_,_,_,_,_,h⟩:=hq;exact h.elim
 |ret=>obtain ⟨_,_,_,_,_,h⟩:=hq;exact h.elim
 |panic ch=>obtain ⟨_,_,_,_,_,_,_,_,_,_,h⟩:=hq;exact h.elim
 |goto l=>exact hq.elim
 |outgrown=>exact hq.elim
end
end Go.AL
namespace Go.Proofs.Tryz
open Go Go.AL Go.RowKit Go.Proofs Go.Proofs.Tram
attribute [local simp] awp_all qs_all ops_all dops_all ops_nil dops_nil ops_call ops_callv ops_alloc ops_box dops_call dops_alloc kO_eq kD_eq awanted apure ev Eff.S Eff.H tmpOf upd putD AL.start AV.dem AV.cells AV.storable AV.scells splice scrub abin loadA HR.okB post ares aress ares1 AV.out AV.isData ints_len ints_get fz fz1 AV.vw AV.vw1 boxy vI int undefA assignQ thenQ blockQ seqQ panQ prol prolH allocOf
noncomputable def rest3:ACode:=ACode.snd (ACode.snd (ACode.snd c3))
noncomputable def lp3:ACode:=ACode.fst (ACode.snd (ACode.snd rest3))
noncomputable def bd3:ACode:=ACode.snd (ACode.snd (ACode.snd lp3))
noncomputable def tail3:ACode:=ACode.snd (ACode.snd (ACode.snd rest3))
def ow (i e:Nat):Ow:=if i=0 then .nil else .own e
def cellT (e:End):AV := .agg [.int .i64 e.1,.int .i64 e.2,.bool false]
def F3 (l:List End) (k:Nat) (pace:Int) (i:Nat) (S:Slots) (H:Boxes):Prop :=
 S 0 = .slice .view (endsA l)∧S 7 = .int .i64 l.length∧S 8 = .box 8 0∧(∃ o,H 8=some [.slice (ow i 33) (endsA (l.take i)),.slice (ow i 3) (ints ((List.range i).map fun j:Nat=>(j:Int))),.slice o [endA (pace * k,400)]]) ∧
  S 9 = .box 9 0∧H 9=some ([.slice (ow i 42) ((l.take i).map cellT),.int .i64 l.length,.int .i64 12,.int .i64 pace,.int .i64 0]++sheetL (nameS k))∧S 10 = .int .i64 (i:Nat)
theorem inI_and {n lo hi:Int}:inI n lo hi=true↔lo≤n∧n≤hi:=by simp [inI]
def F3' (l:List End) (k:Nat) (pace:Int) (S:Slots) (H:Boxes):Prop :=
 S 0 = .slice .view (endsA l)∧S 7 = .int .i64 l.length∧S 8 = .box 8 0∧(∃ o,H 8=some [.slice .nil [],.slice .nil [],.slice o [endA (pace * k,400)]]) ∧
  S 9 = .box 9 0∧H 9=some ([.slice .nil [],.int .i64 l.length,.int .i64 12,.int .i64 pace,.int .i64 0]++sheetL (nameS k))
theorem okE3 (l:List End):elemsOK 2 (endsA l)=true:=by simp [elemsOK,endsA,endA,AV.storable,AV.cells]
theorem okI3 (l:List Int):elemsOK 1 (ints l)=true:=by simp [elemsOK,ints,AV.storable,AV.cells]
theorem okC3 (l:List End):elemsOK 3 (l.map cellT)=true:=by simp [elemsOK,cellT,AV.storable,AV.cells]
theorem ret3 {cc:Nat→Nat→Prop} {w:World} {Q:Post} {S:Slots} {H:Boxes} (h:S 6 = .bool true) (hQ:retS prog 199 [.tmp 6] (.ret (.bool true)) cc .ret (Old.plain cc w) S H→Q .ret (Old.plain cc w) S H):SW prog GT 199 none .ret Q (Old.plain cc w) S H :=
 SW.ret (hQ ⟨Marked.plain rfl,rfl,_,by simp [ares,aress,ares1,h,AV.out,AV.isData,AV.dem],rfl⟩)
noncomputable def dr3:List AOpr:=[⟨some 76,none,.fieldAddr 0 (.t 8)⟩,
 ⟨some 77,none,.loadT (.box 8) (.t 76)⟩,
 ⟨some 78,none,.mv false (.t 0)⟩,
 ⟨some 79,none,.mv false (.t 10)⟩,
 ⟨some 80,none,.indexAddr 2 (.t 78) (.t 79)⟩,
 ⟨some 81,none,.load .ref true 2 (.t 80)⟩,
 ⟨some 82,none,.buildSlice 22 33 2 [.t 81]⟩,
 ⟨some 83,none,.append 22 33 2 16 (.t 77) (.t 82)⟩,
 ⟨some 84,none,.fieldAddr 1 (.t 8)⟩,
 ⟨some 85,none,.loadT (.box 8) (.t 84)⟩,
 ⟨some 86,none,.mv false (.t 10)⟩,
 ⟨some 87,none,.buildSlice 28 3 1 [.t 86]⟩,
 ⟨some 88,none,.append 28 3 1 8 (.t 85) (.t 87)⟩,
 ⟨some 89,none,.fieldAddr 0 (.t 8)⟩,
 ⟨none,none,.store (.box 8) 1 (.t 89) (.t 83)⟩,
 ⟨some 90,none,.fieldAddr 1 (.t 8)⟩,
 ⟨none,none,.store (.box 8) 1 (.t 90) (.t 88)⟩]
set_option maxRecDepth 100000 in
theorem ac3 (l:List End) (m pace:Int):AC prog GT 3 [.slice .view (endsA l),.int .i64 m,.int .i64 pace] (.ret (.bool true)):=by
 have hG:Stable GT:=hGT
 have h7:=ac7
 refine AC.of_SW func3 rfl ntmps3 (by simp) fun cc w => ?_
 refine SW.cut hGT hmix (by kernel_rfl) (ac:=ACode.fst c3) (by kernel_rfl) (fun _ _ h=>h) (fun S H=>S 0 = .slice .view (endsA l)∧S 1 = .int .i64 m∧S 2 = .int .i64 pace) ?_ ?_
 ·simp [c3,ACode.fst]
 rintro S1 H1 ⟨s0,s1,s2⟩
 refine SW.cut hGT hmix (by kernel_rfl) (ac:=ACode.fst (ACode.snd c3)) (by kernel_rfl) (fun _ _ h=>h) (fun S H=>S 0 = .slice .view (endsA l)∧S 1 = .int .i64 m∧S 2 = .int .i64 pace∧S 7 = .int .i64 l.length) ?_ ?_
 ·simp [c3,ACode.fst,ACode.snd,s0,s1,s2,endsA]
 rintro S1 H1 ⟨s0,s1,s2,s7⟩
 refine SW.seq ?_
 refine SW.cut hGT hmix (by kernel_rfl) (ac:=ACode.fst (ACode.fst (ACode.snd (ACode.snd c3)))) (by kernel_rfl) (fun _ _ h=>h) (fun S H=>S 0 = .slice .view (endsA l)∧S 1 = .int .i64 m∧S 2 = .int .i64 pace∧S 7 = .int .i64 l.length∧S 35 = .bool (!(inI l.length 1 12 && inI m 1 6 && inI pace 1 9))) ?_ ?_
 ·simp [c3,ACode.fst,ACode.snd,s0,s1,s2,s7]
  refine ⟨_,by kernel_rfl,ac6 hG _ _ _,by simp [boxy],?_⟩
  cases e1:inI l.length 1 12
  ·simp [s0,s1,s2,s7]
  simp [s0,s1,s2,s7]
  refine ⟨_,by kernel_rfl,ac6 hG _ _ _,by simp [boxy],?_⟩
  cases e2:inI m 1 6
  ·simp [s0,s1,s2,s7]
  simp [s0,s1,s2,s7]
  refine ⟨_,by kernel_rfl,ac6 hG _ _ _,by simp [boxy],?_⟩
  cases e3:inI pace 1 9<;>simp [s0,s1,s2,s7]
 rintro S1 H1 ⟨s0,s1,s2,s7,s35⟩
 cases hin:(inI l.length 1 12 && inI m 1 6 && inI pace 1 9) with
 |false =>
  refine SW.cond rfl true (by show S1 35=_;rw [s35,hin];rfl) ?_
  refine SW.cut hGT hmix (by kernel_rfl) (ac:=ACode.fst (ACode.fst (ACode.snd (ACode.fst (ACode.snd (ACode.snd c3)))))) (by kernel_rfl) (fun _ _ h=>h) (fun S H=>S 6 = .bool true) ?_ ?_
  ·simp [c3,ACode.fst,ACode.snd,ACode.fst]
   refine ⟨_,by kernel_rfl,h7,by simp [boxy],?_⟩
   simp
  ·intro S2 H2 s6
   exact ret3 s6 id
 |true =>
  refine SW.cond rfl false (by show S1 35=_;rw [s35,hin];rfl) (SW.skip ?_)
  simp only [Bool.and_eq_true,inI_and] at hin
  obtain ⟨⟨hn,hm⟩,hp⟩:=hin
  obtain ⟨k,rfl⟩:∃ k:Nat,m=k:=⟨m.toNat,by omega⟩
  have hk:1≤k∧k≤6:=by omega
  have hn':1≤l.length∧l.length≤12:=by omega
  have hm1:1≤pace * (k:Int):=by
   have:=Int.mul_le_mul (a:=1) (b:=1) (c:=pace) (d:=(k:Int)) (by omega) (by omega) (by omega) (by omega)
   simpa using this
  have hm2:pace * (k:Int)≤9 * 6:=Int.mul_le_mul (by omega) (by omega) (by omega) (by omega)
  have hwm:IntKind.i64.wrap (pace * (k:Int))=pace * (k:Int):=wrapI (by omega)
  have h8:=ac8 hG hk
  show SW prog GT 199 none (.seq _ (.seq _ (.seq (.seq _ (.block 0 (.loop _))) _))) _ _ _ _
  refine SW.cut hGT hmix (by kernel_rfl) (ac:=ACode.fst rest3) (by kernel_rfl) (fun _ _ h=>h) (fun S H=>S 0 = .slice .view (endsA l)∧S 1 = .int .i64 k∧S 2 = .int .i64 pace∧S 7 = .int .i64 l.length∧S 8 = .box 8 0∧∃ o,H 8=some [.slice .nil [],.slice .nil [],.slice o [endA (pace * k,400)]]) ?_ ?_
  ·simp [c3,rest3,ACode.fst,ACode.snd,s0,s1,s2,s7,hwm,fillA,elemsOK,endA]
   try exact ⟨_,rfl⟩
  clear s0 s1 s2 s7 s35 S1 H1
  rintro S1 H1 ⟨s0,s1,s2,s7,s8,o,h8'⟩
  refine SW.cut hGT hmix (by kernel_rfl) (ac:=ACode.fst (ACode.snd rest3)) (by kernel_rfl) (fun _ _ h=>h) (F3' l k pace) ?_ ?_
  ·simp [c3,rest3,ACode.fst,ACode.snd,s0,s1,s2,s7,s8,h8',hwm,fillA,elemsOK]
   refine ⟨_,by kernel_rfl,h8,by simp [boxy],?_⟩
   simp [F3',sheetA,sheetL,s0,s1,s2,s7,s8,h8',hwm,fillA,elemsOK]
   try exact ⟨_,rfl⟩
  clear s0 s1 s2 s7 s8 o h8' S1 H1
  rintro S1 H1 ⟨s0,s7,s8,⟨o,h8'⟩,s9,h9⟩
  refine SW.seq (SW.cut hGT hmix (by kernel_rfl) (ac:=ACode.fst (ACode.fst (ACode.snd (ACode.snd rest3)))) (by kernel_rfl) (fun _ _ h=>h) (F3 l k pace 0) ?_ ?_)
  ·have e1:ow 0 33 = .nil:=rfl
   have e2:ow 0 3 = .nil:=rfl
   have e3:ow 0 42 = .nil:=rfl
   simp [c3,rest3,ACode.fst,ACode.snd,F3,s0,s7,s8,h8',s9,h9,e1,e2,e3,endsA,ints]
  clear s0 s7 s8 o h8' s9 h9 S1 H1
  intro S1 H1 hF
  refine SW.block (SW.loop (fun o' S' H'=>∃ i,o'=Old.plain cc w∧i≤l.length∧(∀ j (hj:j < l.length),j < i→1≤l[j].1∧l[j].1≤l[j].2∧l[j].2≤20)∧F3 l k pace i S' H') (fun S' _=>match S' 10 with | .int _ j=>l.length - j.toNat | _=>0) ⟨0,rfl,Nat.zero_le _,fun j _ h=>absurd h (by omega),hF⟩ ?_)
  clear hF S1 H1
  rintro o' S1 H1 ⟨i,rfl,hi,hticks,hF⟩
  have m10:S1 10 = .int .i64 (i:Nat):=hF.2.2.2.2.2.2
  show SW prog GT 199 none (.seq (.seq _ (.cond _ _ _)) (.seq (.block 1 (.seq (.seq _ (.cond _ _ _)) (.seq _ _))) _)) _ _ _ _
  refine SW.seq (SW.cut hGT hmix (by kernel_rfl) (ac:=ACode.fst (ACode.fst bd3)) (by kernel_rfl) (fun _ _ h=>h) (fun S' H'=>S' 51 = .bool (decide (i < l.length))∧F3 l k pace i S' H') ?_ ?_)
  ·obtain ⟨s0,s7,s8,⟨o,h8'⟩,s9,h9,s10⟩:=hF
   simp [c3,rest3,bd3,lp3,ACode.fst,ACode.snd,F3,s0,s7,s8,h8',s9,h9,s10]
  clear hF
  rintro S2 H2 ⟨s51,hF⟩
  by_cases hlt:i < l.length
  case neg =>
   refine SW.cond rfl false (by show S2 51=_;rw [s51];simp [hlt]) (SW.exit ?_)
   have hil:i=l.length:=by omega
   subst hil
   have hW:WArg l k pace:=⟨hn',hk,hp,fun e he=>by
    obtain ⟨j,hj,rfl⟩:=List.getElem_of_mem he
    exact hticks j hj hj⟩
   obtain ⟨va,ve,vw,vf,vx,vy,e1,e2,e3,e4,e5,hcase,hxy,hy1,hw3,hw1⟩:=wait_facts hW
   have q1:=ac9 _ (job_slim hW)
   have q2:=ac10 _ (job_slim hW) rfl
   have q3:=ac11 hG _ (day_slim hW)
   have q4:=ac12 hG _ (day_slim hW)
   have q5:=ac13 hG _ (day_slim hW)
   rw [e1] at q1
   rw [e2] at q2
   rw [e3] at q3
   rw [e4] at q4
   rw [e5] at q5
   obtain ⟨-,s7,s8,⟨o,h8'⟩,s9,h9,-⟩:=hF
   rw [List.take_length] at h8' h9
   have hcs:l.map cellT=(dayS l pace k).cells.map tcA:=by simp [dayS,tcA,cellT]
   rw [hcs] at h9
   have hown:∀ e,ow l.length e = .own e:=fun e=>by unfold ow;rw [if_neg (by omega)]
   rw [hown,hown] at h8'
   rw [hown] at h9
   show SW prog GT 199 none (.seq _ (.seq _ (.seq _ (.seq _ (.seq _ (.seq (.seq _ (.cond _ _ _)) (.seq (.seq _ (.cond _ _ _)) (.seq _ .ret)))))))) _ _ _ _
   refine SW.cut hGT hmix (by kernel_rfl) (ac:=ACode.fst tail3) (by kernel_rfl) (fun _ _ h=>h) (fun S H=>S 7 = .int .i64 l.length∧S 8 = .box 8 0∧H 8=some [.slice (.own 33) (endsA l),.slice (.own 3) (ints ((List.range l.length).map fun j:Nat=>(j:Int))),.slice o [endA (pace * k,400)]]∧S 9 = .box 9 0∧H 9=some ([.slice (.own 42) ((dayS l pace k).cells.map tcA),.int .i64 l.length,.int .i64 12,.int .i64 pace,.int .i64 0]++sheetL (nameS k))∧S 11 = .int .i64 va∧S 12 = .int .i64 ve) ?_ ?_
   ·cases o
    all_goals
     simp [c3,rest3,tail3,ACode.fst,ACode.snd,s7,s8,h8',s9,h9,sheetL]
     refine ⟨_,by kernel_rfl,q1,by simp [boxy],?_⟩
     simp [s7,s8,h8',s9,h9,sheetL]
   clear s7 s8 h8' s9 h9 s51 hticks m10
   rintro S4 H4 ⟨s7,s8,h8',s9,h9,s11,s12⟩
   refine SW.cut hGT hmix (by kernel_rfl) (ac:=ACode.fst (ACode.snd tail3)) (by kernel_rfl) (fun _ _ h=>h) (fun S H=>S 7 = .int .i64 l.length∧S 9 = .box 9 0∧H 9=some ([.slice (.own 42) ((dayS l pace k).cells.map tcA),.int .i64 l.length,.int .i64 12,.int .i64 pace,.int .i64 0]++sheetL (nameS k))∧S 11 = .int .i64 va∧S 12 = .int .i64 ve∧S 13 = .int .i64 vw∧S 14 = .int .i64 0) ?_ ?_
   ·cases o
    all_goals
     simp [c3,rest3,tail3,ACode.fst,ACode.snd,s7,s8,h8',s9,h9,s11,s12,sheetL,elemsOK]
     refine ⟨_,by kernel_rfl,q2,by simp [boxy],?_⟩
     simp [s7,s8,h8',s9,h9,s11,s12,sheetL]
   clear s7 s8 h8' s9 h9 s11 s12
   rintro S5 H5 ⟨s7,s9,h9,s11,s12,s13,s14⟩
   refine SW.cut hGT hmix (by kernel_rfl) (ac:=ACode.fst (ACode.snd (ACode.snd tail3))) (by kernel_rfl) (fun _ _ h=>h) (fun S H=>S 7 = .int .i64 l.length∧S 9 = .box 9 0∧H 9=some ([.slice (.own 42) ((dayS l pace k).cells.map tcA),.int .i64 l.length,.int .i64 12,.int .i64 pace,.int .i64 0]++sheetL (nameS k))∧S 11 = .int .i64 va∧S 12 = .int .i64 ve∧S 13 = .int .i64 vw∧S 14 = .int .i64 0∧S 15 = .int .i64 vf∧S 16 = .int .i64 ve) ?_ ?_
   ·simp [c3,rest3,tail3,ACode.fst,ACode.snd,s7,s9,h9,s11,s12,s13,s14,sheetL]
    refine ⟨_,by kernel_rfl,q3,by simp [boxy],?_⟩
    simp [s7,s9,h9,s11,s12,s13,s14,sheetL]
   clear s7 s9 h9 s11 s12 s13 s14
   rintro S6 H6 ⟨s7,s9,h9,s11,s12,s13,s14,s15,s16⟩
   refine SW.cut hGT hmix (by kernel_rfl) (ac:=ACode.fst (ACode.snd (ACode.snd (ACode.snd tail3)))) (by kernel_rfl) (fun _ _ h=>h) (fun S H=>S 7 = .int .i64 l.length∧S 9 = .box 9 0∧H 9=some ([.slice (.own 42) ((dayS l pace k).cells.map tcA),.int .i64 l.length,.int .i64 12,.int .i64 pace,.int .i64 0]++sheetL (nameS k))∧S 11 = .int .i64 va∧S 12 = .int .i64 ve∧S 13 = .int .i64 vw∧S 14 = .int .i64 0∧S 15 = .int .i64 vf∧S 16 = .int .i64 ve∧S 17 = .int .i64 vx∧S 18 = .int .i64 0) ?_ ?_
   ·simp [c3,rest3,tail3,ACode.fst,ACode.snd,s7,s9,h9,s11,s12,s13,s14,s15,s16,sheetL]
    refine ⟨_,by kernel_rfl,q4,by simp [boxy],?_⟩
    simp [s7,s9,h9,s11,s12,s13,s14,s15,s16,sheetL]
   clear s7 s9 h9 s11 s12 s13 s14 s15 s16
   rintro S7 H7 ⟨s7,s9,h9,s11,s12,s13,s14,s15,s16,s17,s18⟩
   refine SW.cut hGT hmix (by kernel_rfl) (ac:=ACode.fst (ACode.snd (ACode.snd (ACode.snd (ACode.snd tail3))))) (by kernel_rfl) (fun _ _ h=>h) (fun S H=>S 7 = .int .i64 l.length∧S 11 = .int .i64 va∧S 12 = .int .i64 ve∧S 13 = .int .i64 vw∧S 14 = .int .i64 0∧S 15 = .int .i64 vf∧S 16 = .int .i64 ve∧S 17 = .int .i64 vx∧S 18 = .int .i64 0∧S 19 = .int .i64 vy∧S 20 = .int .i64 0) ?_ ?_
   ·simp [c3,rest3,tail3,ACode.fst,ACode.snd,s7,s9,h9,s11,s12,s13,s14,s15,s16,s17,s18,sheetL]
    refine ⟨_,by kernel_rfl,q5,by simp [boxy],?_⟩
    simp [s7,s9,h9,s11,s12,s13,s14,s15,s16,s17,s18,sheetL]
   clear s7 s9 h9 s11 s12 s13 s14 s15 s16 s17 s18
   rintro S8 H8 ⟨s7,s11,s12,s13,s14,s15,s16,s17,s18,s19,s20⟩
   have hxx:vx=0∨vx=1:=by rcases hcase with ⟨_,_,_,_,h⟩ | ⟨_,h⟩<;>omega
   have i1:inI vx 0 1=true:=inI_and.2 (by omega)
   have i2:inI vy vx 1=true:=inI_and.2 (by omega)
   have hve:ve=0∨ve=5:=by rcases hcase with ⟨h,_⟩ | ⟨h,_⟩<;>omega
   refine SW.seq (SW.cut hGT hmix (by kernel_rfl) (ac:=ACode.fst (ACode.fst (ACode.snd (ACode.snd (ACode.snd (ACode.snd (ACode.snd tail3))))))) (by kernel_rfl) (fun _ _ h=>h) (fun S H=>S 7 = .int .i64 l.length∧S 11 = .int .i64 va∧S 12 = .int .i64 ve∧S 13 = .int .i64 vw∧S 15 = .int .i64 vf∧S 17 = .int .i64 vx∧S 19 = .int .i64 vy∧S 160 = .bool false) ?_ ?_)
   ·rcases hve with rfl | rfl
    ·simp [c3,rest3,tail3,ACode.fst,ACode.snd,s7,s11,s12,s13,s14,s15,s16,s17,s18,s19,s20]
     refine ⟨_,by kernel_rfl,ac6 hG _ _ _,by simp [boxy],?_⟩
     simp [s7,s11,s12,s13,s14,s15,s16,s17,s18,s19,s20,i1]
     refine ⟨_,by kernel_rfl,ac6 hG _ _ _,by simp [boxy],?_⟩
     simp [s7,s11,s12,s13,s14,s15,s16,s17,s18,s19,s20,i2]
    ·simp [c3,rest3,tail3,ACode.fst,ACode.snd,s7,s11,s12,s13,s14,s15,s16,s17,s18,s19,s20]
     refine ⟨_,by kernel_rfl,ac6 hG _ _ _,by simp [boxy],?_⟩
     simp [s7,s11,s12,s13,s14,s15,s16,s17,s18,s19,s20,i1]
     refine ⟨_,by kernel_rfl,ac6 hG _ _ _,by simp [boxy],?_⟩
     simp [s7,s11,s12,s13,s14,s15,s16,s17,s18,s19,s20,i2]
   clear s7 s11 s12 s13 s14 s15 s16 s17 s18 s19 s20
   rintro S9 H9 ⟨s7,s11,s12,s13,s15,s17,s19,s160⟩
   refine SW.cond rfl false (by show S9 160=_;rw [s160]) (SW.skip ?_)
   show SW prog GT 199 none (.seq (.seq _ (.cond _ _ _)) (.seq _ .ret)) _ _ _ _
   refine SW.seq (SW.cut hGT hmix (by kernel_rfl) (ac:=ACode.fst (ACode.fst (ACode.snd (ACode.snd (ACode.snd (ACode.snd (ACode.snd (ACode.snd tail3)))))))) (by kernel_rfl) (fun _ _ h=>h) (fun S H=>S 12 = .int .i64 ve∧S 13 = .int .i64 vw∧S 17 = .int .i64 vx∧S 19 = .int .i64 vy∧S 176 = .bool false) ?_ ?_)
   ·rcases hcase with ⟨rfl,c1,c2,c3',c4⟩ | ⟨rfl,c1⟩
    ·have w1:IntKind.i64.wrap ((l.length:Int) - 1)=(l.length:Int) - 1:=wrapI (by omega)
     have w2:IntKind.i64.wrap ((l.length:Int) - va)=(l.length:Int) - va:=wrapI (by omega)
     have i3:inI va 0 ((l.length:Int) - 1)=true:=inI_and.2 (by omega)
     simp [c3,rest3,tail3,ACode.fst,ACode.snd,s7,s11,s12,s13,s15,s17,s19,w1]
     refine ⟨_,by kernel_rfl,ac6 hG _ _ _,by simp [boxy],?_⟩
     simp [s7,s11,s12,s13,s15,s17,s19,i3,w2,c3']
    ·simp [c3,rest3,tail3,ACode.fst,ACode.snd,s7,s11,s12,s13,s15,s17,s19]
   clear s7 s11 s12 s13 s15 s17 s19 s160
   rintro S10 H10 ⟨s12,s13,s17,s19,s176⟩
   refine SW.cond rfl false (by show S10 176=_;rw [s176]) (SW.skip ?_)
   show SW prog GT 199 none (.seq _ .ret) _ _ _ _
   refine SW.cut hGT hmix (by kernel_rfl) (ac:=ACode.fst (ACode.snd (ACode.snd (ACode.snd (ACode.snd (ACode.snd (ACode.snd (ACode.snd tail3)))))))) (by kernel_rfl) (fun _ _ h=>h) (fun S H=>S 6 = .bool true) ?_ ?_
   ·rcases hcase with ⟨rfl,c1,c2,c3',rfl⟩ | ⟨rfl,rfl⟩
    ·have hvy:vy=1:=by omega
     have hvw:vw=3:=hw3.2 rfl
     subst hvy hvw
     simp [c3,rest3,tail3,ACode.fst,ACode.snd,s12,s13,s17,s19]
     refine ⟨_,by kernel_rfl,h7,by simp [boxy],?_⟩
     simp
    ·have hvw3:vw≠3:=fun h=>by have:=hw3.1 h;omega
     by_cases hvy:vy=0
     ·have hvw:vw=1:=hw1.2 hvy
      subst hvy hvw
      simp [c3,rest3,tail3,ACode.fst,ACode.snd,s12,s13,s17,s19]
      refine ⟨_,by kernel_rfl,h7,by simp [boxy],?_⟩
      simp
     ·have hvw:vw≠1:=fun h=>hvy (hw1.1 h)
      have b1:(vw==1)=false:=by simpa using hvw
      have b3:(vw==3)=false:=by simpa using hvw3
      have b0:(vy==0)=false:=by simpa using hvy
      simp [c3,rest3,tail3,ACode.fst,ACode.snd,s12,s13,s17,s19,b0,b1,b3]
      refine ⟨_,by kernel_rfl,h7,by simp [boxy],?_⟩
      simp
   ·intro S11 H11 s6
    exact ret3 s6 id
  refine SW.cond rfl true (by show S2 51=_;rw [s51];simp [hlt]) (SW.skip ?_)
  show SW prog GT 199 none (.seq (.block 1 (.seq (.seq _ (.cond _ _ _)) (.seq _ _))) _) _ _ _ _
  refine SW.seq (SW.block (SW.seq (SW.cut hGT hmix (by kernel_rfl) (ac:=ACode.fst (ACode.fst (ACode.snd (ACode.fst (ACode.snd bd3))))) (by kernel_rfl) (fun _ _ h=>h) (fun S' H'=>S' 74 = .bool (!(inI l[i].1 1 20 && inI l[i].2 l[i].1 20))∧F3 l k pace i S' H') ?_ ?_)))
  ·obtain ⟨s0,s7,s8,⟨o,h8'⟩,s9,h9,s10⟩:=hF
   have hne:¬ (i:Int) < 0:=by omega
   simp [c3,rest3,bd3,lp3,ACode.fst,ACode.snd,F3,s0,s7,s8,h8',s9,h9,s10,endsA,endA,hlt,hne]
   refine ⟨_,by kernel_rfl,ac6 hG _ _ _,by simp [boxy],?_⟩
   cases e1:inI l[i].1 1 20
   ·simp [s0,s7,s8,h8',s9,h9,s10,endsA,endA,hlt,hne]
   simp [s0,s7,s8,h8',s9,h9,s10,endsA,endA,hlt,hne]
   refine ⟨_,by kernel_rfl,ac6 hG _ _ _,by simp [boxy],?_⟩
   cases e2:inI l[i].2 l[i].1 20<;>simp [s0,s7,s8,h8',s9,h9,s10,endsA,endA,hlt,hne]
  clear hF
  rintro S3 H3 ⟨s74,hF⟩
  cases htk:(inI l[i].1 1 20 && inI l[i].2 l[i].1 20) with
  |false =>
   refine SW.cond rfl true (by show S3 74=_;rw [s74,htk];rfl) ?_
   refine SW.cut hGT hmix (by kernel_rfl) (ac:=ACode.fst (ACode.fst (ACode.snd (ACode.fst (ACode.snd (ACode.fst (ACode.snd bd3))))))) (by kernel_rfl) (fun _ _ h=>h) (fun S H=>S 6 = .bool true) ?_ ?_
   ·simp [c3,rest3,bd3,lp3,ACode.fst,ACode.snd]
    refine ⟨_,by kernel_rfl,h7,by simp [boxy],?_⟩
    simp
   ·intro S4 H4 s6
    exact ret3 s6 id
  |true =>
   refine SW.cond rfl false (by show S3 74=_;rw [s74,htk];rfl) (SW.skip ?_)
   simp only [Bool.and_eq_true,inI_and] at htk
   show SW prog GT 199 none (.seq (.region _ _ _) _) _ _ _ _
   obtain ⟨s0,s7,s8,⟨o,h8'⟩,s9,h9,s10⟩:=hF
   have ht1:(l.take (i+1))=l.take i++[l[i]]:=by rw [List.take_succ,List.getElem?_eq_getElem hlt];rfl
   have hr1:((List.range (i+1)).map fun j:Nat=>(j:Int))=((List.range i).map fun j:Nat=>(j:Int))++[(i:Int)]:=by rw [List.range_succ];simp
   have hne:¬ (i:Int) < 0:=by omega
   have hlen1:(endsA (l.take i)).length=i:=by simp [endsA];omega
   have hlen3:((l.take i).map cellT).length=i:=by simp;omega
   refine SW.seq (SW.mono (Q:=fun e o' S H=>e = .normal∧o'=Old.plain cc w∧S 0 = .slice .view (endsA l)∧S 7 = .int .i64 l.length∧S 8 = .box 8 0∧(∃ o,H 8=some [.slice (ow (i+1) 33) (endsA (l.take (i+1))),.slice (ow (i+1) 3) (ints ((List.range (i+1)).map fun j:Nat=>(j:Int))),.slice o [endA (pace * k,400)]]) ∧
    S 9 = .box 9 0∧H 9=some ([.slice (ow i 42) ((l.take i).map cellT),.int .i64 l.length,.int .i64 12,.int .i64 pace,.int .i64 0]++sheetL (nameS k))∧S 10 = .int .i64 (i:Nat)) ?_
    (SW.drawX hGT hmix (p:=1) (q:=9) [0,8] [2,3,4,5,6,7,9,10,11,12,13,14,15,16] (by kernel_rfl) (by kernel_rfl) (by decide) (by decide) (l:=dr3) (by kernel_rfl) [_,_] [_,_,_,_,_,_,_,_,_,_,_,_,_,_] _ _ rfl rfl rfl rfl ?_))
   ·clear s0 s7 s8 o h8' s9 h9 s10
    rintro e o' S4 H4 ⟨rfl,rfl,s0,s7,s8,⟨o,h8'⟩,s9,h9,s10⟩
    show SW prog GT 199 none _ _ _ _ _
    have ht3:((l.take (i+1)).map cellT)=(l.take i).map cellT++[cellT l[i]]:=by rw [ht1,List.map_append];rfl
    refine SW.last hGT hmix (by kernel_rfl) (ac:=ACode.snd (ACode.snd (ACode.snd (ACode.fst (ACode.snd bd3))))) (by kernel_rfl) (fun _ _ h=>h) (fun S H=>S 0 = .slice .view (endsA l)∧S 7 = .int .i64 l.length∧S 8 = .box 8 0∧(∃ o,H 8=some [.slice (ow (i+1) 33) (endsA (l.take (i+1))),.slice (ow (i+1) 3) (ints ((List.range (i+1)).map fun j:Nat=>(j:Int))),.slice o [endA (pace * k,400)]]) ∧
     S 9 = .box 9 0∧H 9=some ([.slice (ow (i+1) 42) ((l.take (i+1)).map cellT),.int .i64 l.length,.int .i64 12,.int .i64 pace,.int .i64 0]++sheetL (nameS k))∧S 10 = .int .i64 (i:Nat)) ?_ ?_
    ·have e42:ow (i+1) 42 = .own 42:=rfl
     rw [ht3,e42]
     generalize sheetL (nameS k)=N at h9 ⊢
     by_cases h0:i=0
     ·subst h0
      have z42:ow 0 42 = .nil:=rfl
      simp [c3,rest3,bd3,lp3,ACode.fst,ACode.snd,s0,s7,s8,h8',s9,h9,s10,z42,endsA,endA,cellT,hlt,hne,fillA,elemsOK]
     ·have z42:ow i 42 = .own 42:=by unfold ow;rw [if_neg h0]
      have hsm:i+1 < 1048576:=by omega
      have k1:=okC3 (l.take i)
      have k3:elemsOK 3 [AV.agg [.int .i64 l[i].1,.int .i64 l[i].2,.bool false]]=true:=rfl
      generalize (l.take i).map cellT=R1 at h9 hlen3 k1 ⊢
      simp [c3,rest3,bd3,lp3,ACode.fst,ACode.snd,s0,s7,s8,h8',s9,h9,s10,z42,k1,k3,hlen3,hsm,endsA,endA,cellT,hlt,hne,fillA]
    ·clear s0 s7 s8 o h8' s9 h9 s10 S4 H4
     rintro S4 H4 ⟨s0,s7,s8,⟨o,h8'⟩,s9,h9,s10⟩
     show SW prog GT 199 none _ _ _ _ _
     have hw1:IntKind.i64.wrap ((i:Int)+1)=i+1:=wrapI (by omega)
     refine SW.last hGT hmix (by kernel_rfl) (ac:=ACode.snd (ACode.snd bd3)) (by kernel_rfl) (fun _ _ h=>h) (F3 l k pace (i+1)) ?_ ?_
     ·simp [c3,rest3,bd3,lp3,ACode.fst,ACode.snd,F3,s0,s7,s8,h8',s9,h9,s10,hw1]
     ·intro S5 H5 hF
      refine ⟨⟨i+1,rfl,by omega,fun j hj hji => ?_,hF⟩,?_⟩
      ·by_cases hj2:j=i
       ·subst hj2;exact ⟨htk.1.1,htk.2.1,htk.2.2⟩
       ·exact hticks j hj (by omega)
      ·have h5:S5 10 = .int .i64 ((i+1:Nat):Int):=hF.2.2.2.2.2.2
       show (match S5 10 with | .int _ j=>l.length - j.toNat | _=>0) < (match S1 10 with | .int _ j=>l.length - j.toNat | _=>0)
       rw [h5,m10]
       simp;omega
   ·have e33:ow (i+1) 33 = .own 33:=rfl
    have e3:ow (i+1) 3 = .own 3:=rfl
    rw [ht1,hr1,e33,e3]
    by_cases h0:i=0
    ·subst h0
     have z33:ow 0 33 = .nil:=rfl
     have z3:ow 0 3 = .nil:=rfl
     simp [dops,SepAt,awanted,dstep,apure,astep,Eff.S,Eff.H,ev,upd,putD,s0,s7,s8,h8',s9,h9,s10,z33,z3,endsA,endA,hlt,hne,loadA,AV.dem,AV.vw,AV.vw1,AV.cells,AV.storable,AV.scells,splice,HR.okB,tmpOf,elemsOK,abin,vI,ints]
     exact ⟨8,0,⟨rfl,rfl⟩,8,1,⟨rfl,rfl⟩,.inr (by decide)⟩
    ·have z33:ow i 33 = .own 33:=by unfold ow;rw [if_neg h0]
     have z3:ow i 3 = .own 3:=by unfold ow;rw [if_neg h0]
     have hmin:min i l.length=i:=by omega
     have hsm:i+1 < 1048576:=by omega
     have k1:=okE3 (l.take i)
     have k2:=okI3 ((List.range i).map fun j:Nat=>(j:Int))
     have hlen2:(ints ((List.range i).map fun j:Nat=>(j:Int))).length=i:=by simp [ints]
     have a1:endsA (l.take i++[l[i]])=endsA (l.take i)++[endA l[i]]:=by unfold endsA;rw [List.map_append];rfl
     have a2:ints (((List.range i).map fun j:Nat=>(j:Int))++[(i:Int)])=ints ((List.range i).map fun j:Nat=>(j:Int))++[.int .i64 i]:=by unfold ints;rw [List.map_append];rfl
     have k3:elemsOK 2 [AV.agg [.int .i64 l[i].1,.int .i64 l[i].2]]=true:=rfl
     have k4:elemsOK 1 [AV.int .i64 (i:Nat)]=true:=rfl
     rw [a1,a2]
     generalize endsA (l.take i)=R1 at h8' hlen1 k1 ⊢
     generalize ints ((List.range i).map fun j:Nat=>(j:Int))=R2 at h8' hlen2 k2 ⊢
     simp [k1,k2,k3,k4,hlen1,hlen2,hmin,hsm,dops,SepAt,awanted,dstep,apure,astep,Eff.S,Eff.H,ev,upd,putD,s0,s7,s8,h8',s9,h9,s10,z33,z3,endsA,endA,hlt,hne,loadA,AV.dem,AV.vw,AV.vw1,AV.cells,AV.storable,AV.scells,splice,HR.okB,tmpOf,abin,vI]
     exact ⟨8,0,⟨rfl,rfl⟩,8,1,⟨rfl,rfl⟩,.inr (by decide)⟩
end Go.Proofs.Tryz
