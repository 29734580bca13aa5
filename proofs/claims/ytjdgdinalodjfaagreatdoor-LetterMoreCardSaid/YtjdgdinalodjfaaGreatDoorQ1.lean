/-
  A part of the proof: Q0 Q1 Q2 Q3 Q4 Q5 Q6 Q7 Q8 Q9 Q10 Q12 L2 Q13 Q14 Q15 Q16 Q17 L3 L4 L5 Q18 Q19 Q20 Q21 L6 L7 L8 Q22 L9 Q23 Q24 Q25 Q26 Q27 L20 Q29 L10 L11 L12 Q33 Q32 L13 L14 L15 L16 L17 L18 L25 Q36 Q37 L21 L22 L23 L24 L29 Q50 Q51 Q52 Q53 Q54 Q55 Q56 Q57 Q58 Q59 Q60 Q61 Q62 Q63 Q64 L28 Q31 L26 Q38 Q39 Q40 L27.
-/
import Derived.Lib.AppendIntMem
import Derived.Test.YtjdgdinalodjfaaGreatDoorA2
import Derived.Test.YtjdgdinalodjfaaGreatDoorC1
import Derived.Test.YtjdgdinalodjfaaGreatDoorK1
import Derived.Test.YtjdgdinalodjfaaGreatDoorK3
set_option linter.all false
set_option linter.unusedVariables false
set_option linter.unusedSimpArgs false
set_option linter.deprecated false
namespace Go.AL
section
variable {P:Program} {GI:World→Prop}
def kO (P:Program) (GI:World→Prop) (rest:List AOpr) (K:Slots→Boxes→Prop) (Qp:AV→Prop) (S:Slots) (dst:Option Nat) (H:Boxes) (v:AV):Prop:=aops P GI rest K Qp (putD S dst v) H
def kD (P:Program) (GI:World→Prop) (rest:List AOpr) (K:Slots→Boxes→Prop) (S:Slots) (dst:Option Nat) (H:Boxes) (v:AV):Prop:=dops P GI rest K (putD S dst v) H
def seqQ (P:Program) (GI:World→Prop) (y:ACode) (Q:AExit→Slots→Boxes→Prop) (e:AExit) (S:Slots) (H:Boxes):Prop:=thenQ (awp P GI y Q) Q e S H
def panQ (Q:AExit→Slots→Boxes→Prop) (S:Slots) (H:Boxes) (v:AV):Prop:=Q (.panic v) S H
theorem ops_nil (K Qp S H):aops P GI [] K Qp S H=K S H:=(Eq.refl _).trans (Eq.refl _)
theorem dops_nil (K S H):dops P GI [] K S H=K S H:=(Eq.refl _).trans (Eq.refl _)
theorem ops_call (f args d g rest K Qp S H):aops P GI (⟨d,g,.call f args⟩::rest) K Qp S H=(match awanted S g with
  |some true=>acall P GI f (args.map fun y=>fz H (ev S y)) (args.any fun y=>boxy (ev S y)) (kO P GI rest K Qp S d H) Qp
  |some false=>aops P GI rest K Qp (putD S d undefA) H
  |none=>False):=(Eq.refl _).trans (Eq.refl _)
theorem ops_callv (f args d g rest K Qp S H):aops P GI (⟨d,g,.callv f args⟩::rest) K Qp S H=(match awanted S g with
  |some true=>(match ev S f with
   |.func (.func k) first cap=>acall P GI k ((first++args.map (ev S)++cap).map (fz H)) ((first++args.map (ev S)++cap).any boxy) (kO P GI rest K Qp S d H) Qp
   |_=>False)
  |some false=>aops P GI rest K Qp (putD S d undefA) H
  |none=>False):=(Eq.refl _).trans (Eq.refl _)
abbrev OE (P:Program) (GI:World→Prop) (op:AOp):Prop:=∀ d g rest K Qp S H,aops P GI (⟨d,g,op⟩::rest) K Qp S H=(match awanted S g with | some true=>(match apure S H op with | some e=>aops P GI rest K Qp (e.S S d) (e.H H) | none=>False) | some false=>aops P GI rest K Qp (putD S d undefA) H | none=>False)
abbrev DE (P:Program) (GI:World→Prop) (op:AOp):Prop:=∀ d g rest K S H,dops P GI (⟨d,g,op⟩::rest) K S H=(match awanted S g with | some true=>(match apure S H op with | some e=>dops P GI rest K (e.S S d) (e.H H) | none=>False) | some false=>dops P GI rest K (putD S d undefA) H | none=>False)
theorem ops_alloc (t zero d rest K Qp S H):aops P GI (⟨some d,none,.alloc t zero⟩::rest) K Qp S H=aops P GI rest K Qp (upd (fun t=>scrub d (S t)) d (.box d 0)) (upd H d (some zero)):=(Eq.refl _).trans (Eq.refl _)
theorem ops_box (t size x d rest K Qp S H):aops P GI (⟨some d,none,.box t size x⟩::rest) K Qp S H=((ev S x).cells.length=size∧(ev S x).storable=true∧aops P GI rest K Qp (upd (fun t=>scrub d (S t)) d (.box d 0)) (upd H d (some ((ev S x).cells.map AV.dem)))):=(Eq.refl _).trans (Eq.refl _)
theorem dops_call (f args d g rest K S H):dops P GI (⟨d,g,.call f args⟩::rest) K S H=(match awanted S g with
  |some true=>(args.any fun y=>boxy (ev S y))=false∧acall P GI f (args.map fun y=>fz H (ev S y)) (args.any fun y=>boxy (ev S y)) (kD P GI rest K S d H) (fun _=>False)
  |some false=>dops P GI rest K (putD S d undefA) H
  |none=>False):=(Eq.refl _).trans (Eq.refl _)
theorem dops_alloc (t zero d rest K S H):dops P GI (⟨some d,none,.alloc t zero⟩::rest) K S H=dops P GI rest K (upd S d (.box d 0)) H:=(Eq.refl _).trans (Eq.refl _)
theorem kO_eq (rest K Qp S d H v):kO P GI rest K Qp S d H v=aops P GI rest K Qp (putD S d v) H:=(Eq.refl _).trans (Eq.refl _)
theorem kD_eq (rest K S d H v):kD P GI rest K S d H v=dops P GI rest K (putD S d v) H:=(Eq.refl _).trans (Eq.refl _)
theorem ops_all :
  (∀ x0 x1,OE P GI (.mv x0 x1)) ∧
  (∀ x0 x1 x2,OE P GI (.pick x0 x1 x2)) ∧
  (∀ x0 x1,OE P GI (.build x0 x1)) ∧
  (∀ x0 x1 x2 x3,OE P GI (.buildSlice x0 x1 x2 x3)) ∧
  (∀ x0 x1 x2 x3,OE P GI (.load x0 x1 x2 x3)) ∧
  (∀ x0 x1,OE P GI (.loadT x0 x1)) ∧
  (∀ x0 x1 x2 x3,OE P GI (.store x0 x1 x2 x3)) ∧
  (∀ x0 x1 x2,OE P GI (.bin x0 x1 x2)) ∧
  (∀ x0 x1 x2,OE P GI (.eqB x0 x1 x2)) ∧
  (∀ x0 x1 x2 x3,OE P GI (.eqs x0 x1 x2 x3)) ∧
  (∀ x0 x1 x2 x3 x4,OE P GI (.indexA x0 x1 x2 x3 x4)) ∧
  (∀ x0,OE P GI (.bstr x0)) ∧
  (∀ x0,OE P GI (.buildF x0)) ∧
  (∀ x0 x1 x2,OE P GI (.indexF x0 x1 x2)) ∧
  (∀ x0 x1 x2 x3,OE P GI (.lookup x0 x1 x2 x3)) ∧
  (∀ x0,OE P GI (.not x0)) ∧
  (∀ x0 x1,OE P GI (.conv x0 x1)) ∧
  (∀ x0 x1,OE P GI (.iface x0 x1)) ∧
  (∀ x0 x1 x2,OE P GI (.mkf x0 x1 x2)) ∧
  (∀ x0 x1 x2,OE P GI (.sliceS x0 x1 x2)) ∧
  (∀ x0 x1 x2 x3,OE P GI (.sliceL x0 x1 x2 x3)) ∧
  (∀ x0 x1,OE P GI (.sliceR x0 x1)) ∧
  (∀ x0 x1,OE P GI (.fieldAddr x0 x1)) ∧
  (∀ x0 x1 x2,OE P GI (.indexAddr x0 x1 x2)) ∧
  (∀ x0 x1,OE P GI (.indexS x0 x1)) ∧
  (∀ x0 x1,OE P GI (.extract x0 x1)) ∧
  (∀ x0,OE P GI (.lenS x0)) ∧
  (∀ x0,OE P GI (.lenL x0)) ∧
  (∀ x0 x1,OE P GI (.isNil x0 x1)) ∧
  (∀ x0,OE P GI (.empty x0)) ∧
  (∀ x0 x1 x2 x3 x4 x5,OE P GI (.append x0 x1 x2 x3 x4 x5)) ∧
  (∀ x0 x1,OE P GI (.max x0 x1)) ∧
  (∀ x0 x1,OE P GI (.min x0 x1)) ∧
  (∀ x0 x1 x2,OE P GI (.assert x0 x1 x2)):=by
 refine ⟨?_,?_,?_,?_,?_,?_,?_,?_,?_,?_,?_,?_,?_,?_,?_,?_,?_,?_,?_,?_,?_,?_,?_,?_,?_,?_,?_,?_,?_,?_,?_,?_,?_,?_⟩<;>intros<;>intro d<;>intros<;>rfl
theorem dops_all :
  (∀ x0 x1,DE P GI (.mv x0 x1)) ∧
  (∀ x0 x1 x2,DE P GI (.pick x0 x1 x2)) ∧
  (∀ x0 x1,DE P GI (.build x0 x1)) ∧
  (∀ x0 x1 x2 x3,DE P GI (.buildSlice x0 x1 x2 x3)) ∧
  (∀ x0 x1 x2 x3,DE P GI (.load x0 x1 x2 x3)) ∧
  (∀ x0 x1,DE P GI (.loadT x0 x1)) ∧
  (∀ x0 x1 x2 x3,DE P GI (.store x0 x1 x2 x3)) ∧
  (∀ x0 x1 x2,DE P GI (.bin x0 x1 x2)) ∧
  (∀ x0 x1 x2,DE P GI (.eqB x0 x1 x2)) ∧
  (∀ x0 x1 x2 x3,DE P GI (.eqs x0 x1 x2 x3)) ∧
  (∀ x0 x1 x2 x3 x4,DE P GI (.indexA x0 x1 x2 x3 x4)) ∧
  (∀ x0,DE P GI (.bstr x0)) ∧
  (∀ x0,DE P GI (.buildF x0)) ∧
  (∀ x0 x1 x2,DE P GI (.indexF x0 x1 x2)) ∧
  (∀ x0 x1 x2 x3,DE P GI (.lookup x0 x1 x2 x3)) ∧
  (∀ x0,DE P GI (.not x0)) ∧
  (∀ x0 x1,DE P GI (.conv x0 x1)) ∧
  (∀ x0 x1,DE P GI (.iface x0 x1)) ∧
  (∀ x0 x1 x2,DE P GI (.mkf x0 x1 x2)) ∧
  (∀ x0 x1 x2,DE P GI (.sliceS x0 x1 x2)) ∧
  (∀ x0 x1 x2 x3,DE P GI (.sliceL x0 x1 x2 x3)) ∧
  (∀ x0 x1,DE P GI (.sliceR x0 x1)) ∧
  (∀ x0 x1,DE P GI (.fieldAddr x0 x1)) ∧
  (∀ x0 x1 x2,DE P GI (.indexAddr x0 x1 x2)) ∧
  (∀ x0 x1,DE P GI (.indexS x0 x1)) ∧
  (∀ x0 x1,DE P GI (.extract x0 x1)) ∧
  (∀ x0,DE P GI (.lenS x0)) ∧
  (∀ x0,DE P GI (.lenL x0)) ∧
  (∀ x0 x1,DE P GI (.isNil x0 x1)) ∧
  (∀ x0,DE P GI (.empty x0)) ∧
  (∀ x0 x1 x2 x3 x4 x5,DE P GI (.append x0 x1 x2 x3 x4 x5)) ∧
  (∀ x0 x1,DE P GI (.max x0 x1)) ∧
  (∀ x0 x1,DE P GI (.min x0 x1)) ∧
  (∀ x0 x1 x2,DE P GI (.assert x0 x1 x2)):=by
 refine ⟨?_,?_,?_,?_,?_,?_,?_,?_,?_,?_,?_,?_,?_,?_,?_,?_,?_,?_,?_,?_,?_,?_,?_,?_,?_,?_,?_,?_,?_,?_,?_,?_,?_,?_⟩<;>intros<;>intro d<;>intros<;>rfl
theorem awp_all :
  (∀ Q S H,awp P GI .skip Q S H=Q .normal S H) ∧
  (∀ l Q S H,awp P GI (.ops l) Q S H=aops P GI l (Q .normal) (panQ Q S H) S H) ∧
  (∀ l Q S H,awp P GI (.dops l) Q S H=dops P GI l (Q .normal) (prol l S) (prolH l H)) ∧
  (∀ x y Q S H,awp P GI (.seq x y) Q S H=awp P GI x (seqQ P GI y Q) S H) ∧
  (∀ c x y Q S H,awp P GI (.cond c x y) Q S H=(match ev S c with
   |.bool true=>awp P GI x Q S H
   |.bool false=>awp P GI y Q S H
   |.anyb=>awp P GI x Q S H∧awp P GI y Q S H
   |_=>False)) ∧
  (∀ id c Q S H,awp P GI (.block id c) Q S H=awp P GI c (blockQ id Q) S H) ∧
  (∀ id Q S H,awp P GI (.exit id) Q S H=Q (.exit id) S H) ∧
  (∀ Q S H,awp P GI .ret Q S H=Q .ret S H) ∧
  (∀ y Q S H,seqQ P GI y Q .normal S H=awp P GI y Q S H) ∧
  (∀ y Q id S H,seqQ P GI y Q (.exit id) S H=Q (.exit id) S H) ∧
  (∀ y Q S H,seqQ P GI y Q .ret S H=Q .ret S H) ∧
  (∀ y Q v S H,seqQ P GI y Q (.panic v) S H=Q (.panic v) S H):=by
 refine ⟨?_,?_,?_,?_,?_,?_,?_,?_,?_,?_,?_,?_⟩<;>intros<;>rfl
theorem qs_all :
  (∀ id Q S H,blockQ id Q .normal S H=Q .normal S H) ∧
  (∀ id j Q S H,blockQ id Q (.exit j) S H=if j=id then Q .normal S H else Q (.exit j) S H) ∧
  (∀ id Q S H,blockQ id Q .ret S H=Q .ret S H) ∧
  (∀ id Q v S H,blockQ id Q (.panic v) S H=Q (.panic v) S H) ∧
  (∀ K Q S H,thenQ K Q .normal S H=K S H) ∧
  (∀ K Q id S H,thenQ K Q (.exit id) S H=Q (.exit id) S H) ∧
  (∀ K Q S H,thenQ K Q .ret S H=Q .ret S H) ∧
  (∀ K Q v S H,thenQ K Q (.panic v) S H=Q (.panic v) S H) ∧
  (∀ K S H,assignQ K .normal S H=K S H) ∧
  (∀ K id S H,assignQ K (.exit id) S H=False) ∧
  (∀ K S H,assignQ K .ret S H=False) ∧
  (∀ K v S H,assignQ K (.panic v) S H=False) ∧
  (∀ Q S H v,panQ Q S H v=Q (.panic v) S H) ∧
  (∀ v K Qp,onOut (.ret v) K Qp=K v) ∧
  (∀ v K Qp,onOut (.panic v) K Qp=Qp v):=by
 refine ⟨?_,?_,?_,?_,?_,?_,?_,?_,?_,?_,?_,?_,?_,?_,?_⟩<;>intros<;>rfl
end
section
variable {P:Program} {GI:World→Prop}
theorem acall_mono {f:Nat} {args:List AV} {b:Bool} {K K':AV→Prop} {Qp Qp':AV→Prop} (hK:∀ v,K v→K' v) (hQ:∀ v,Qp v→Qp' v) (h:acall P GI f args b K Qp):acall P GI f args b K' Qp':=by
 obtain ⟨out,h1,h2,h3,h4⟩:=h
 refine ⟨out,h1,h2,h3,?_⟩
 cases out with
 |ret v=>exact hK _ h4
 |panic v=>exact hQ _ h4
theorem astep_mono {op:AOp} {dst:Option Nat} {K K':Slots→Boxes→Prop} {Qp Qp':AV→Prop} (hK:∀ S H,K S H→K' S H) (hQ:∀ v,Qp v→Qp' v) {S:Slots} {H:Boxes} (h:astep P GI op dst K Qp S H):astep P GI op dst K' Qp' S H:=by
 by_cases hc:op.calm=true
 ·rw [astep_calm hc] at h ⊢
  split at h
  ·exact hK _ _ h
  ·exact h
 ·cases op<;>first | (exfalso;exact hc rfl) | skip
  case alloc=>simp only [astep] at h ⊢;split at h<;>first | exact hK _ _ h | exact h
  case box=>simp only [astep] at h ⊢;split at h<;>first | exact ⟨h.1,h.2.1,hK _ _ h.2.2⟩ | exact h
  case call=>exact acall_mono (fun v=>hK _ _) hQ h
  case callv=>simp only [astep] at h ⊢;split at h<;>first | exact acall_mono (fun v=>hK _ _) hQ h | exact h
  case panic=>simp only [astep] at h ⊢;split at h<;>first | exact hQ _ h | exact h
  case other=>exact h
theorem aops_mono {K K':Slots→Boxes→Prop} {Qp Qp':AV→Prop} (hK:∀ S H,K S H→K' S H) (hQ:∀ v,Qp v→Qp' v):∀ (l:List AOpr) (S:Slots) (H:Boxes),aops P GI l K Qp S H→aops P GI l K' Qp' S H
 |[],S,H,h=>hK S H h
 |o::rest,S,H,h=>by
  simp only [aops] at h ⊢
  split at h
  ·exact astep_mono (fun S H=>aops_mono hK hQ rest S H) hQ h
  ·exact aops_mono hK hQ rest _ _ h
  ·exact h
theorem dstep_mono {op:AOp} {dst:Option Nat} {K K':Slots→Boxes→Prop} (hK:∀ S H,K S H→K' S H) {S:Slots} {H:Boxes} (h:dstep P GI op dst K S H):dstep P GI op dst K' S H:=by
 cases op
 case alloc=>simp only [dstep] at h ⊢;split at h<;>first | exact hK _ _ h | exact h
 case call=>exact ⟨h.1,astep_mono hK (fun _ h=>h) h.2⟩
 case callv=>exact ⟨h.1,astep_mono hK (fun _ h=>h) h.2⟩
 case box=>exact h.elim
 case panic=>exact h.elim
 case other=>exact h.elim
 all_goals
  simp only [dstep] at h ⊢
  exact astep_mono hK (fun _ h=>h) h
theorem dops_mono {K K':Slots→Boxes→Prop} (hK:∀ S H,K S H→K' S H):∀ (l:List AOpr) (S:Slots) (H:Boxes),dops P GI l K S H→dops P GI l K' S H
 |[],S,H,h=>hK S H h
 |o::rest,S,H,h=>by
  simp only [dops] at h ⊢
  split at h
  ·exact dstep_mono (fun S H=>dops_mono hK rest S H) h
  ·exact dops_mono hK rest _ _ h
  ·exact h
theorem thenQ_mono {K K':Slots→Boxes→Prop} {Q Q':AExit→Slots→Boxes→Prop} (hK:∀ S H,K S H→K' S H) (h:∀ e S H,Q e S H→Q' e S H) (e:AExit) (S:Slots) (H:Boxes) (hq:thenQ K Q e S H):thenQ K' Q' e S H:=by
 cases e with
 |normal=>exact hK S H hq
 |exit id=>exact h _ S H hq
 |ret=>exact h _ S H hq
 |panic v=>exact h _ S H hq
theorem awp_mono:∀ (c:ACode) {Q Q':AExit→Slots→Boxes→Prop} (_:∀ e S H,Q e S H→Q' e S H) {S:Slots} {H:Boxes},awp P GI c Q S H→awp P GI c Q' S H
 |.skip,_,_,h,_,_,hq=>h _ _ _ hq
 |.ops l,_,_,h,_,_,hq=>aops_mono (fun S H=>h _ S H) (fun v=>h _ _ _) l _ _ hq
 |.dops l,_,_,h,_,_,hq=>dops_mono (fun S H=>h _ S H) l _ _ hq
 |.seq x y,_,_,h,_,_,hq=>awp_mono x (thenQ_mono (fun _ _=>awp_mono y h) h) hq
 |.cond c x y,_,_,h,S,H,hq=>by
  simp only [awp] at hq ⊢
  split at hq
  ·exact awp_mono x h hq
  ·exact awp_mono y h hq
  ·exact ⟨awp_mono x h hq.1,awp_mono y h hq.2⟩
  ·exact hq
 |.block id c,Q,Q',h,_,_,hq=>awp_mono c (fun e S H hb=>by
   cases e with
   |normal=>exact h _ S H hb
   |exit j =>
    by_cases hj:j=id
    ·simp only [blockQ,if_pos hj] at hb ⊢;exact h _ S H hb
    ·simp only [blockQ,if_neg hj] at hb ⊢;exact h _ S H hb
   |ret=>exact h _ S H hb
   |panic v=>exact h _ S H hb) hq
 |.loop c,_,_,h,_,_,⟨I,μ,h0,hi⟩=>⟨I,μ,h0,fun S H hI=>awp_mono c (thenQ_mono (fun _ _ h=>h) h) (hi S H hI)⟩
 |.exit id,_,_,h,_,_,hq=>h _ _ _ hq
 |.ret,_,_,h,_,_,hq=>h _ _ _ hq
 |.bad,_,_,_,_,_,hq=>hq
theorem awp_cut {x y:ACode} {Q:AExit→Slots→Boxes→Prop} {S:Slots} {H:Boxes} (K:Slots→Boxes→Prop) (hx:awp P GI x (assignQ K) S H) (hy:∀ S' H',K S' H'→awp P GI y Q S' H'):awp P GI (.seq x y) Q S H:=by
 refine awp_mono x (fun e S H h => ?_) hx
 cases e with
 |normal=>exact hy S H h
 |exit id=>exact h.elim
 |ret=>exact h.elim
 |panic v=>exact h.elim
theorem awp_go {c:Opd} {y z:ACode} {Q:AExit→Slots→Boxes→Prop} {S:Slots} {H:Boxes} (h:ev S c = .bool true) (hy:awp P GI y Q S H):awp P GI (.seq (.cond c .skip z) y) Q S H:=by
 simp only [awp,h];exact hy
theorem awp_go2 {c:Opd} {y z:ACode} {Q:AExit→Slots→Boxes→Prop} {S:Slots} {H:Boxes} (h:ev S c = .bool false) (hy:awp P GI y Q S H):awp P GI (.seq (.cond c z .skip) y) Q S H:=by
 simp only [awp,h];exact hy
theorem awp_in {id:Nat} {c y:ACode} {Q:AExit→Slots→Boxes→Prop} {S:Slots} {H:Boxes} (h:awp P GI c (blockQ id (seqQ P GI y Q)) S H):awp P GI (.seq (.block id c) y) Q S H:=h
theorem awp_cut2 {x y z:ACode} {Q:AExit→Slots→Boxes→Prop} {S:Slots} {H:Boxes} (K:Slots→Boxes→Prop) (hx:awp P GI x (assignQ K) S H) (hy:∀ S' H',K S' H'→awp P GI (.seq y z) Q S' H'):awp P GI (.seq (.seq x y) z) Q S H:=by
 refine awp_mono x (fun e S H h => ?_) hx
 cases e with
 |normal =>
  refine awp_mono y (fun e S H h => ?_) (hy S H h)
  cases e<;>exact h
 |exit id=>exact h.elim
 |ret=>exact h.elim
 |panic v=>exact h.elim
theorem awp_loop {c:ACode} {Q:AExit→Slots→Boxes→Prop} {S:Slots} {H:Boxes} (t n:Nat) (I:Nat→Slots→Boxes→Prop) (hix:∀ i S H,I i S H→S t = .int .i64 (i:Nat)) (h0:I 0 S H)
  (hs:∀ i,i≤n→∀ S H,I i S H→awp P GI c (thenQ (fun S' H'=>i < n∧I (i+1) S' H') Q) S H):awp P GI (.loop c) Q S H:=by
 refine ⟨fun S H=>∃ i,i≤n∧I i S H,fun S _=>match S t with | .int _ k=>n - k.toNat | _=>0,⟨0,Nat.zero_le _,h0⟩,?_⟩
 rintro S H ⟨i,hi,hI⟩
 refine awp_mono c (thenQ_mono (fun S' H' h => ?_) (fun _ _ _ h=>h)) (hs i hi S H hI)
 refine ⟨⟨i+1,h.1,h.2⟩,?_⟩
 have e1:=hix _ _ _ hI
 have e2:=hix _ _ _ h.2
 simp only [e1,e2,Int.toNat_natCast]
 have:=h.1
 omega
end
end Go.AL
namespace Go.Proofs.Tryz
open Go Go.AL Go.RowKit Go.Proofs
attribute [local simp] awp_all qs_all ops_all dops_all ops_nil dops_nil ops_call ops_callv ops_alloc ops_box dops_call dops_alloc kO_eq kD_eq awanted apure ev Eff.S Eff.H tmpOf upd putD AL.start AV.dem AV.cells AV.storable AV.scells splice scrub abin loadA HR.okB post ares aress ares1 AV.out AV.isData ints_len ints_get fz fz1 AV.vw AV.vw1 boxy vI int undefA assignQ thenQ blockQ seqQ panQ prol prolH allocOf
variable {GI:World→Prop}
def inI (n lo hi:Int):Bool:=decide (lo≤n) && decide (n≤hi)
theorem ac72 (hG:Stable GI) (n lo hi:Int):AC prog GI 72 [.int .i64 n,.int .i64 lo,.int .i64 hi] (.ret (.bool (inI n lo hi))):=by
 refine AC.of_body hG hmix func72 rfl ntmps72 (by simp) (ac:=c72) (by kernel_rfl) ?_
 by_cases h1:lo≤n<;>by_cases h2:n≤hi<;>simp [c72,inI,h1,h2]
theorem ac128 (hG:Stable GI) (n lo hi:Int):AC prog GI 128 [.int .i64 n,.int .i64 lo,.int .i64 hi] (.ret (.bool (inI n lo hi))):=by
 refine AC.of_body hG hmix func128 rfl ntmps128 (by simp) (ac:=c128) (by kernel_rfl) ?_
 by_cases h1:lo≤n<;>by_cases h2:n≤hi<;>simp [c128,inI,h1,h2]
def spanI (lo hi a most:Int):Bool:=inI lo a most && inI hi lo most
theorem ac90 (hG:Stable GI) (lo hi most:Int):AC prog GI 90 [.agg [.int .i64 lo,.int .i64 hi],.int .i64 most] (.ret (.bool (spanI lo hi 0 most))):=by
 refine AC.of_body hG hmix func90 rfl ntmps90 (by simp) (ac:=c90) (by kernel_rfl) ?_
 simp [c90]
 refine ⟨_,by kernel_rfl,ac72 hG lo 0 most,by simp [boxy],?_⟩
 cases h1:inI lo 0 most
 ·simp [spanI,h1]
 ·simp
  refine ⟨_,by kernel_rfl,ac72 hG hi lo most,by simp [boxy],?_⟩
  simp [spanI,h1]
theorem ac140 (hG:Stable GI) (lo hi a most:Int):AC prog GI 140 [.agg [.int .i64 lo,.int .i64 hi],.int .i64 a,.int .i64 most] (.ret (.bool (spanI lo hi a most))):=by
 refine AC.of_body hG hmix func140 rfl ntmps140 (by simp) (ac:=c140) (by kernel_rfl) ?_
 simp [c140]
 refine ⟨_,by kernel_rfl,ac128 hG lo a most,by simp [boxy],?_⟩
 cases h1:inI lo a most
 ·simp [spanI,h1]
 ·simp
  refine ⟨_,by kernel_rfl,ac128 hG hi lo most,by simp [boxy],?_⟩
  simp [spanI,h1]
theorem ac60 (hG:Stable GI) (n:Int):AC prog GI 60 [.int .i64 n] (.ret (.bool (inI n 1 400))):=by
 refine AC.of_body hG hmix func60 rfl ntmps60 (by simp) (ac:=c60) (by kernel_rfl) ?_
 simp [c60]
 refine ⟨_,by kernel_rfl,ac72 hG n 1 400,by simp [boxy],?_⟩
 simp
def signI (s:Sheet) (n:Int):Bool:=inI n 0 (s.widths.length - 1)
theorem ac134 (hG:Stable GI) (s:Sheet) (hs:s.widths.length < 1000) (n:Int):AC prog GI 134 [sheetA s,.int .i64 n] (.ret (.bool (signI s n))):=by
 refine AC.of_body hG hmix func134 rfl ntmps134 (by simp) (ac:=c134) (by kernel_rfl) ?_
 have hw:IntKind.i64.wrap ((s.widths.length:Int) - 1)=s.widths.length - 1:=wrapI (by omega)
 simp [c134,sheetA,sheetL,hw]
 refine ⟨_,by kernel_rfl,ac72 hG n 0 (s.widths.length - 1),by simp [boxy],?_⟩
 simp [signI]
def pairI (s:Sheet) (p:Pair):Bool:=signI s p.l && signI s p.r && spanI p.lo p.hi 0 9
theorem ac136 (hG:Stable GI) (s:Sheet) (hs:s.widths.length < 1000) (p:Pair):AC prog GI 136 [sheetA s,pairA p] (.ret (.bool (pairI s p))):=by
 refine AC.of_body hG hmix func136 rfl ntmps136 (by simp) (ac:=c136) (by kernel_rfl) ?_
 have hw:IntKind.i64.wrap ((s.widths.length:Int) - 1)=s.widths.length - 1:=wrapI (by omega)
 refine awp_cut (fun S H=>S 2 = .box 2 0∧S 3 = .box 3 0∧H 2=some (sheetL s)∧H 3=some [.int .i64 p.l,.int .i64 p.r,.int .i64 p.lo,.int .i64 p.hi]) (by simp [sheetA,sheetL,pairA]) ?_
 rintro S H ⟨s2,s3,h2,h3⟩
 simp [s2,s3,h2,h3,sheetL,hw]
 refine ⟨_,by kernel_rfl,ac128 hG p.l 0 (s.widths.length - 1),by simp [boxy],?_⟩
 cases h1:inI p.l 0 (s.widths.length - 1)
 ·simp [pairI,signI,h1]
 ·simp [s2,s3,h2,h3,sheetL,hw]
  refine ⟨_,by kernel_rfl,ac128 hG p.r 0 (s.widths.length - 1),by simp [boxy],?_⟩
  cases h4:inI p.r 0 (s.widths.length - 1)
  ·simp [pairI,signI,h1,h4]
  ·simp [s2,s3,h2,h3,sheetL]
   refine ⟨_,by kernel_rfl,ac140 hG p.lo p.hi 0 9,by simp [boxy],?_⟩
   simp [pairI,signI,h1,h4]
def ltP (a b:Pair):Bool:=decide (a.l < b.l) || (a.l==b.l && decide (a.r < b.r))
theorem ac137 (hG:Stable GI) (a b:Pair):AC prog GI 137 [pairA a,pairA b] (.ret (.bool (ltP a b))):=by
 refine AC.of_body hG hmix func137 rfl ntmps137 (by simp) (ac:=c137) (by kernel_rfl) ?_
 refine awp_cut (fun S H=>S 2 = .box 2 0∧S 3 = .box 3 0∧H 2=some [.int .i64 a.l,.int .i64 a.r,.int .i64 a.lo,.int .i64 a.hi]∧H 3=some [.int .i64 b.l,.int .i64 b.r,.int .i64 b.lo,.int .i64 b.hi]) (by simp [pairA]) ?_
 rintro S H ⟨s2,s3,h2,h3⟩
 by_cases h1:a.l < b.l
 ·simp [s2,s3,h2,h3,ltP,h1]
 ·cases h4:a.l==b.l
  ·simp [s2,s3,h2,h3,ltP,h1,h4]
  ·by_cases h5:a.r < b.r<;>simp [s2,s3,h2,h3,ltP,h1,h4,h5]
theorem ac138 (hG:Stable GI) (n:Int):AC prog GI 138 [.int .i64 n] (.ret (.bool (!inI n 1 20))):=by
 refine AC.of_body hG hmix func138 rfl ntmps138 (by simp) (ac:=c138) (by kernel_rfl) ?_
 simp [c138]
 refine ⟨_,by kernel_rfl,ac128 hG n 1 20,by simp [boxy],?_⟩
 simp
theorem ac172 (hG:Stable GI) (s:Sheet) (hs:s.widths.length < 1000) (n:Int):AC prog GI 172 [.int .i64 n,.ref (sheetL s)] (.ret (.bool (!signI s n))):=by
 refine AC.of_body hG hmix func172 rfl ntmps172 (by simp) (ac:=c172) (by kernel_rfl) ?_
 have hw:IntKind.i64.wrap ((s.widths.length:Int) - 1)=s.widths.length - 1:=wrapI (by omega)
 simp [c172,sheetL,hw]
 refine ⟨_,by kernel_rfl,ac128 hG n 0 (s.widths.length - 1),by simp [boxy],?_⟩
 simp [signI]
end Go.Proofs.Tryz
namespace Go.AL
def firstT {α:Type} (p:α→Bool) (l:List α):Int:=if l.any p then (l.findIdx p:Nat) else -1
theorem firstT_at {α:Type} {p:α→Bool} {l:List α} {i:Nat} (hi:i < l.length) (hp:p l[i]=true) (hb:∀ j (hj:j < l.length),j < i→p l[j]=false):firstT p l=(i:Nat):=by
  unfold firstT
  rw [if_pos (List.any_eq_true.2 ⟨l[i],List.getElem_mem hi,hp⟩),(List.findIdx_eq hi).2 ⟨hp,fun j hji=>hb j (by omega) hji⟩]
theorem firstT_none {α:Type} {p:α→Bool} {l:List α} (hb:∀ j (hj:j < l.length),p l[j]=false):firstT p l = -1:=by
  unfold firstT
  rw [if_neg]
  intro h
  obtain ⟨x,hx,hp⟩:=List.any_eq_true.1 h
  obtain ⟨j,hj,rfl⟩:=List.getElem_of_mem hx
  rw [hb j hj] at hp;cases hp
theorem firstT_any {α:Type} {p:α→Bool} {l:List α}:decide (0≤firstT p l)=l.any p:=by
  unfold firstT
  cases h:l.any p<;>simp
end Go.AL
namespace Go.Proofs.Tryz
open Go Go.AL Go.RowKit Go.Proofs
attribute [local simp] awp_all qs_all ops_all dops_all ops_nil dops_nil ops_call ops_callv ops_alloc ops_box dops_call dops_alloc kO_eq kD_eq awanted apure ev Eff.S Eff.H tmpOf upd putD AL.start AV.dem AV.cells AV.storable AV.scells splice scrub abin loadA HR.okB post ares aress ares1 AV.out AV.isData ints_len ints_get fz fz1 AV.vw AV.vw1 boxy vI int undefA assignQ thenQ blockQ seqQ panQ prol prolH allocOf
variable {GI:World→Prop}
theorem ac170 (hG:Stable GI) (l:List Int) (hl:l.length < 1000000) (k:Nat) (caps:List AV) (hcaps:caps=[]∨∃ c,caps=[.ref c]) (p:Int→Bool) (hk:callable prog k=true) (h:∀ x∈l,AC prog GI k ([.int .i64 x]++caps) (.ret (.bool (p x)))) :
    AC prog GI 170 [.slice .view (l.map (.int .i64)),.func (.func k) [] caps] (.ret (.int .i64 (firstT p l))):=by
  refine AC.of_body hG hmix func170 rfl ntmps170 (by simp) (ac:=c170) (by kernel_rfl) ?_
  rcases hcaps with rfl | ⟨c,rfl⟩ <;>
  (simp [c170]
   refine awp_loop 8 l.length (fun i S H=>S 0 = .slice .view (l.map (.int .i64))∧S 1=_∧S 7 = .int .i64 l.length∧S 8 = .int .i64 (i:Nat)∧∀ j (hj:j < l.length),j < i→p l[j]=false) (fun i S H h=>h.2.2.2.1) ⟨by simp,by simp;rfl,by simp,by simp,by simp⟩ ?_
   rintro i hi S H ⟨s0,s1,s7,s8,hb⟩
   by_cases hlt:i < l.length
   · have hw:IntKind.i64.wrap ((i:Int)+1)=i+1:=wrapI (by omega)
     have hx:=h l[i] (List.getElem_mem hlt)
     cases hp:p l[i]
     · simp [List.getElem_map,s0,s1,s7,s8,hlt]
       refine ⟨_,hk,hx,by simp [boxy],?_⟩
       simp [s0,s1,s7,s8,hlt,hp,hw]
       intro j hj hji
       by_cases hji':j=i
       · subst hji';exact hp
       · exact hb j hj (by omega)
     · simp [List.getElem_map,s0,s1,s7,s8,hlt]
       refine ⟨_,hk,hx,by simp [boxy],?_⟩
       simp [s0,s1,s7,s8,hlt,hp,hw]
       exact firstT_at hlt hp hb
   · have hil:i=l.length:=by omega
     subst hil
     simp [s0,s1,s7,s8]
     exact firstT_none fun j hj=>hb j hj hj)
theorem ac139 (hG:Stable GI) (l:List Int) (hl:l.length < 1000000) (k:Nat) (caps:List AV) (hcaps:caps=[]∨∃ c,caps=[.ref c]) (p:Int→Bool) (hk:callable prog k=true) (h:∀ x∈l,AC prog GI k ([.int .i64 x]++caps) (.ret (.bool (p x)))) :
    AC prog GI 139 [.slice .view (l.map (.int .i64)),.func (.func k) [] caps] (.ret (.bool (l.any p))):=by
  have hF:=ac170 hG l hl k caps hcaps p hk h
  refine AC.of_body hG hmix func139 rfl ntmps139 (by simp) (ac:=c139) (by kernel_rfl) ?_
  rcases hcaps with rfl | ⟨c,rfl⟩ <;>
  (simp [c139]
   refine ⟨_,by kernel_rfl,hF,fun _=>rfl,?_⟩
   simp
   exact firstT_any.symm)
theorem ac171 (hG:Stable GI) (l:List Word) (hl:l.length < 1000000) (k:Nat) (caps:List AV) (hcaps:caps=[]∨∃ c,caps=[.ref c]) (p:Word→Bool) (hk:callable prog k=true) (h:∀ x∈l,AC prog GI k ([wordA x]++caps) (.ret (.bool (p x)))) :
    AC prog GI 171 [.slice .view (l.map wordA),.func (.func k) [] caps] (.ret (.int .i64 (firstT p l))):=by
  refine AC.of_body hG hmix func171 rfl ntmps171 (by simp) (ac:=c171) (by kernel_rfl) ?_
  rcases hcaps with rfl | ⟨c,rfl⟩ <;>
  (simp [c171]
   refine awp_loop 8 l.length (fun i S H=>S 0 = .slice .view (l.map wordA)∧S 1=_∧S 7 = .int .i64 l.length∧S 8 = .int .i64 (i:Nat)∧∀ j (hj:j < l.length),j < i→p l[j]=false) (fun i S H h=>h.2.2.2.1) ⟨by simp,by simp;rfl,by simp,by simp,by simp⟩ ?_
   rintro i hi S H ⟨s0,s1,s7,s8,hb⟩
   by_cases hlt:i < l.length
   · have hw:IntKind.i64.wrap ((i:Int)+1)=i+1:=wrapI (by omega)
     have hx:=h l[i] (List.getElem_mem hlt)
     cases hp:p l[i]
     · simp [List.getElem_map,wordA,s0,s1,s7,s8,hlt]
       refine ⟨_,hk,hx,by simp [boxy],?_⟩
       simp [s0,s1,s7,s8,hlt,hp,hw]
       intro j hj hji
       by_cases hji':j=i
       · subst hji';exact hp
       · exact hb j hj (by omega)
     · simp [List.getElem_map,wordA,s0,s1,s7,s8,hlt]
       refine ⟨_,hk,hx,by simp [boxy],?_⟩
       simp [s0,s1,s7,s8,hlt,hp,hw]
       exact firstT_at hlt hp hb
   · have hil:i=l.length:=by omega
     subst hil
     simp [s0,s1,s7,s8]
     exact firstT_none fun j hj=>hb j hj hj)
theorem ac141 (hG:Stable GI) (l:List Word) (hl:l.length < 1000000) (k:Nat) (caps:List AV) (hcaps:caps=[]∨∃ c,caps=[.ref c]) (p:Word→Bool) (hk:callable prog k=true) (h:∀ x∈l,AC prog GI k ([wordA x]++caps) (.ret (.bool (p x)))) :
    AC prog GI 141 [.slice .view (l.map wordA),.func (.func k) [] caps] (.ret (.bool (l.any p))):=by
  have hF:=ac171 hG l hl k caps hcaps p hk h
  refine AC.of_body hG hmix func141 rfl ntmps141 (by simp) (ac:=c141) (by kernel_rfl) ?_
  rcases hcaps with rfl | ⟨c,rfl⟩ <;>
  (simp [c141]
   refine ⟨_,by kernel_rfl,hF,fun _=>rfl,?_⟩
   simp
   exact firstT_any.symm)
end Go.Proofs.Tryz
namespace Go.AL
def adjI {α:Type} (p:α→Bool) (lt:α→α→Bool) (l:List α):Bool:=l.all p && (List.range (l.length - 1)).all fun i=>match l[i]?,l[i+1]? with | some a,some b=>lt a b | _,_=>true
theorem adjI_false {α:Type} {p:α→Bool} {lt:α→α→Bool} {l:List α} {i:Nat} (hi:i < l.length) (hp:p l[i]=false):adjI p lt l=false:=by
 unfold adjI
 rw [Bool.and_eq_false_iff]
 exact .inl (List.all_eq_false.2 ⟨_,List.getElem_mem hi,by simp [hp]⟩)
theorem adjI_false2 {α:Type} {p:α→Bool} {lt:α→α→Bool} {l:List α} {i:Nat} (hi:i+1 < l.length) (hp:lt (l[i]'(by omega)) l[i+1]=false):adjI p lt l=false:=by
 unfold adjI
 rw [Bool.and_eq_false_iff]
 refine .inr (List.all_eq_false.2 ⟨i,List.mem_range.2 (by omega),?_⟩)
 simp [hi,show i < l.length by omega,hp]
theorem adjI_true {α:Type} {p:α→Bool} {lt:α→α→Bool} {l:List α} (h1:∀ j (hj:j < l.length),p l[j]=true) (h2:∀ j (hj:j+1 < l.length),lt (l[j]'(by omega)) l[j+1]=true):adjI p lt l=true:=by
 unfold adjI
 rw [Bool.and_eq_true]
 constructor
 ·rw [List.all_eq_true]
  intro x hx
  obtain ⟨j,hj,rfl⟩:=List.getElem_of_mem hx
  exact h1 j hj
 ·rw [List.all_eq_true]
  intro j hj
  rw [List.mem_range] at hj
  simp [show j < l.length by omega,show j+1 < l.length by omega,h2 j (by omega)]
end Go.AL
namespace Go.Proofs.Tryz
open Go Go.AL Go.RowKit Go.Proofs
attribute [local simp] awp_all qs_all ops_all dops_all ops_nil dops_nil ops_call ops_callv ops_alloc ops_box dops_call dops_alloc kO_eq kD_eq awanted apure ev Eff.S Eff.H tmpOf upd putD AL.start AV.dem AV.cells AV.storable AV.scells splice scrub abin loadA HR.okB post ares aress ares1 AV.out AV.isData ints_len ints_get fz fz1 AV.vw AV.vw1 boxy vI int undefA assignQ thenQ blockQ seqQ panQ prol prolH allocOf
variable {GI:World→Prop}
def risesI (l:List Int) (lo hi:Int):Bool:=adjI (inI · lo hi) (fun a b=>decide (a < b)) l
theorem ac150 (hG:Stable GI) (l:List Int) (hl:l.length < 1000000) (lo hi:Int):AC prog GI 150 [vI l,.int .i64 lo,.int .i64 hi] (.ret (.bool (risesI l lo hi))):=by
 refine AC.of_body hG hmix func150 rfl ntmps150 (by simp) (ac:=c150) (by kernel_rfl) ?_
 simp [c150]
 refine awp_loop 11 l.length (fun i S H=>S 0=vI l∧S 1 = .int .i64 lo∧S 2 = .int .i64 hi∧S 9=vI l∧S 10 = .int .i64 l.length∧S 11 = .int .i64 (i:Nat)∧(∀ j (hj:j < l.length),j < i→inI l[j] lo hi=true)∧∀ j (hj:j+1 < l.length),j+1 < i→decide (l[j] < l[j+1])=true) (fun i S H h=>h.2.2.2.2.2.1) ⟨by simp,by simp,by simp,by simp,by simp,by simp,by simp,by simp⟩ ?_
 rintro i hi' S H ⟨s0,s1,s2,s9,s10,s11,hb,hc⟩
 by_cases hlt:i < l.length
 ·have hw:IntKind.i64.wrap ((i:Int)+1)=i+1:=wrapI (by omega)
  simp [s0,s1,s2,s9,s10,s11,hlt]
  refine ⟨_,by kernel_rfl,ac128 hG l[i] lo hi,fun _=>rfl,?_⟩
  cases hp:inI l[i] lo hi
  ·simp [s0,s1,s2,s9,s10,s11,hlt,hw]
   exact adjI_false hlt hp
  ·cases i with
   |zero =>
    simp [s0,s1,s2,s9,s10,s11,hlt]
    exact ⟨wrapI (by omega),fun j hj hj0=>by subst hj0;exact hp⟩
   |succ k =>
    have hk:((k+1:Nat):Int) - 1=(k:Nat):=by omega
    have hwk:IntKind.i64.wrap (k:Int)=k:=wrapI (by omega)
    have hw2:IntKind.i64.wrap ((k:Int)+1+1)=k+1+1:=wrapI (by omega)
    have hkl:k < l.length:=by omega
    have h0:(0:Int) < (k:Int)+1:=by omega
    by_cases hle:l[k+1]≤l[k]
    ·simp [s0,s1,s2,s9,s10,s11,hlt,hwk,hkl,hle,h0]
     exact adjI_false2 (lt:=fun a b=>decide (a < b)) hlt (by simpa using hle)
    ·simp [s0,s1,s2,s9,s10,s11,hlt,hwk,hkl,hle,h0,hw2]
     refine ⟨fun j hj hjk => ?_,fun j hj hjk => ?_⟩
     ·by_cases e:j=k+1
      ·subst e;exact hp
      ·exact hb j hj (by omega)
     ·by_cases e:j=k
      ·subst e;omega
      ·simpa using hc j hj (by omega)
 ·have hil:i=l.length:=by omega
  subst hil
  simp [s0,s1,s2,s9,s10,s11]
  exact adjI_true (fun j hj=>hb j hj hj) (fun j hj=>hc j hj hj)
def wordI (s:Sheet) (w:Word):Bool:=inI w.signs.length 1 6 && !(w.signs.any fun n => !signI s n) && risesI w.cuts 1 (w.signs.length - 1)
theorem ac143 (hG:Stable GI) (s:Sheet) (hs:s.widths.length < 1000) (w:Word) (h1:w.signs.length < 1000) (h2:w.cuts.length < 1000):AC prog GI 143 [sheetA s,wordA w] (.ret (.bool (wordI s w))):=by
 have h139:=ac139 hG w.signs (by omega) 172 [.ref (sheetL s)] (.inr ⟨_,rfl⟩) (fun n => !signI s n) (by kernel_rfl) (fun n _=>ac172 hG s hs n)
 have hw:IntKind.i64.wrap ((w.signs.length:Int) - 1)=w.signs.length - 1:=wrapI (by omega)
 refine AC.of_body hG hmix func143 rfl ntmps143 (by simp) (ac:=c143) (by kernel_rfl) ?_
 refine awp_cut (fun S H=>S 2 = .box 2 0∧S 3 = .box 3 0∧H 2=some (sheetL s)∧H 3=some [vI w.signs,vI w.cuts,.bool w.free]) (by simp [sheetA,sheetL,wordA]) ?_
 rintro S H ⟨s2,s3,e2,e3⟩
 simp [s2,s3,e2,e3]
 refine ⟨_,by kernel_rfl,ac128 hG w.signs.length 1 6,fun _=>rfl,?_⟩
 cases h3:inI w.signs.length 1 6
 ·simp [wordI,h3]
 ·simp [s2,s3,e2,e3,sheetL]
  refine ⟨_,by kernel_rfl,h139,fun _=>rfl,?_⟩
  cases h4:w.signs.any fun n => !signI s n
  ·simp [s2,s3,e2,e3,hw]
   refine ⟨_,by kernel_rfl,ac150 hG w.cuts (by omega) 1 (w.signs.length - 1),fun _=>rfl,?_⟩
   simp [wordI,h3,h4]
  ·simp [wordI,h3,h4]
theorem ac142 (hG:Stable GI) (s:Sheet) (hs:s.widths.length < 1000) (w:Word) (h1:w.signs.length < 1000) (h2:w.cuts.length < 1000):AC prog GI 142 [wordA w,.ref (sheetL s)] (.ret (.bool (!wordI s w))):=by
 refine AC.of_body hG hmix func142 rfl ntmps142 (by simp) (ac:=c142) (by kernel_rfl) ?_
 simp [c142,wordA,sheetL]
 refine ⟨_,by kernel_rfl,ac143 hG s hs w h1 h2,fun _=>rfl,?_⟩
 simp
end Go.Proofs.Tryz
namespace Go.Proofs.Tryz
open Go Go.AL Go.RowKit Go.Proofs
attribute [local simp] awp_all qs_all ops_all dops_all ops_nil dops_nil ops_call ops_callv ops_alloc ops_box dops_call dops_alloc kO_eq kD_eq awanted apure ev Eff.S Eff.H tmpOf upd putD AL.start AV.dem AV.cells AV.storable AV.scells splice scrub abin loadA HR.okB post ares aress ares1 AV.out AV.isData ints_len ints_get fz fz1 AV.vw AV.vw1 boxy vI int undefA assignQ thenQ blockQ seqQ panQ prol prolH allocOf
variable {GI:World→Prop}
structure Slim (s:Sheet):Prop where
 widths:s.widths.length < 1000
 pairs:s.pairs.length < 1000
 words:s.words.length < 1000
 signs:∀ w∈s.words,w.signs.length < 1000
 cuts:∀ w∈s.words,w.cuts.length < 1000
def endI (s:Sheet):Bool := !(s.widths.any fun n => !inI n 1 20) && spanI s.olo s.ohi 0 9 && spanI s.glo s.ghi 0 20 && inI s.hyphen 1 20 && !(s.words.any fun w => !wordI s w) && inI s.wide 1 400 && inI s.rows 1 3
def sheetI (s:Sheet):Bool:=inI s.widths.length 1 6 && decide (s.pairs.length≤6) && inI s.words.length 1 4 && adjI (pairI s) ltP s.pairs && endI s
theorem ac96 (hG:Stable GI) (s:Sheet) (hs:Slim s):AC prog GI 96 [sheetA s] (.ret (.bool (sheetI s))):=by
 have h139:=ac139 hG s.widths (by have:=hs.widths;omega) 138 [] (.inl rfl) (fun n => !inI n 1 20) (by kernel_rfl) (fun n _=>ac138 hG n)
 have h141:=ac141 hG s.words (by have:=hs.words;omega) 142 [.ref (sheetL s)] (.inr ⟨_,rfl⟩) (fun w => !wordI s w) (by kernel_rfl) (fun w hw=>ac142 hG s hs.widths w (hs.signs w hw) (hs.cuts w hw))
 refine AC.of_body hG hmix func96 rfl ntmps96 (by simp) (ac:=c96) (by kernel_rfl) ?_
 refine awp_cut (fun S H=>S 1 = .box 1 0∧H 1=some (sheetL s)) (by simp [sheetA,sheetL]) ?_
 rintro S H ⟨s1,e1⟩
 simp [s1,e1,sheetL]
 refine ⟨_,by kernel_rfl,ac128 hG s.widths.length 1 6,fun _=>rfl,?_⟩
 cases h1:inI s.widths.length 1 6
 ·simp [sheetI,h1]
 by_cases h2:(6:Int) < s.pairs.length
 ·simp [s1,e1,sheetL,h2]
  have:¬ s.pairs.length≤6:=by omega
  simp [sheetI,this]
 simp [s1,e1,sheetL,h2]
 refine ⟨_,by kernel_rfl,ac128 hG s.words.length 1 4,fun _=>rfl,?_⟩
 cases h3:inI s.words.length 1 4
 ·simp [sheetI,h3]
 simp [s1,e1,sheetL]
 have h2':s.pairs.length≤6:=by omega
 refine awp_loop 27 s.pairs.length (fun i S H=>S 1 = .box 1 0∧H 1=some (sheetL s)∧S 25 = .slice .view (s.pairs.map pairA)∧S 26 = .int .i64 s.pairs.length∧S 27 = .int .i64 (i:Nat)∧(∀ j (hj:j < s.pairs.length),j < i→pairI s s.pairs[j]=true)∧∀ j (hj:j+1 < s.pairs.length),j+1 < i→ltP s.pairs[j] s.pairs[j+1]=true) (fun i S H h=>h.2.2.2.2.1) ⟨by simp [s1],by simp [e1,sheetL],by simp,by simp,by simp,by simp,by simp⟩ ?_
 clear s1 e1 S H
 rintro i hi S H ⟨s1,e1,s25,s26,s27,hb,hc⟩
 by_cases hlt:i < s.pairs.length
 case neg =>
  have hil:i=s.pairs.length:=by omega
  subst hil
  have hadj:adjI (pairI s) ltP s.pairs=true:=adjI_true (fun j hj=>hb j hj hj) (fun j hj=>hc j hj hj)
  simp [s1,e1,s25,s26,s27,sheetL]
  refine ⟨_,by kernel_rfl,h139,fun _=>rfl,?_⟩
  cases h4:s.widths.any fun n => !inI n 1 20
  case true=>simp [sheetI,endI,h4]
  simp [s1,e1,sheetL]
  refine ⟨_,by kernel_rfl,ac140 hG s.olo s.ohi 0 9,fun _=>rfl,?_⟩
  cases h5:spanI s.olo s.ohi 0 9
  ·simp [sheetI,endI,h5]
  simp [s1,e1,sheetL]
  refine ⟨_,by kernel_rfl,ac140 hG s.glo s.ghi 0 20,fun _=>rfl,?_⟩
  cases h6:spanI s.glo s.ghi 0 20
  ·simp [sheetI,endI,h6]
  simp [s1,e1,sheetL]
  refine ⟨_,by kernel_rfl,ac128 hG s.hyphen 1 20,fun _=>rfl,?_⟩
  cases h7:inI s.hyphen 1 20
  ·simp [sheetI,endI,h7]
  simp [s1,e1,sheetL]
  refine ⟨_,by kernel_rfl,h141,fun _=>rfl,?_⟩
  cases h8:s.words.any fun w => !wordI s w
  case true=>simp [sheetI,endI,h8]
  simp [s1,e1,sheetL]
  refine ⟨_,by kernel_rfl,ac128 hG s.wide 1 400,fun _=>rfl,?_⟩
  cases h9:inI s.wide 1 400
  ·simp [sheetI,endI,h9]
  simp [s1,e1,sheetL]
  refine ⟨_,by kernel_rfl,ac128 hG s.rows 1 3,fun _=>rfl,?_⟩
  simp [sheetI,endI,h1,h2',h3,hadj,h4,h5,h6,h7,h8,h9]
 case pos =>
  have hw:IntKind.i64.wrap ((i:Int)+1)=i+1:=wrapI (by omega)
  refine awp_cut (fun S H=>S 28 = .bool true∧S 1 = .box 1 0∧H 1=some (sheetL s)∧S 25 = .slice .view (s.pairs.map pairA)∧S 26 = .int .i64 s.pairs.length∧S 27 = .int .i64 (i:Nat)) (by simp [s1,e1,s25,s26,s27,hlt]) ?_
  clear s1 e1 s25 s26 s27 S H
  rintro S H ⟨s28,s1,e1,s25,s26,s27⟩
  refine awp_go s28 (awp_in ?_)
  refine awp_cut (fun S H=>S 4 = .box 4 0∧H 4=some (pairA s.pairs[i]).cells∧S 3 = .int .i64 (i:Nat)∧S 1 = .box 1 0∧H 1=some (sheetL s)∧S 25 = .slice .view (s.pairs.map pairA)∧S 26 = .int .i64 s.pairs.length∧S 27 = .int .i64 (i:Nat)) (by simp [s1,e1,s25,s26,s27,hlt,pairA]) ?_
  clear s1 e1 s25 s26 s27 s28 S H
  rintro S H ⟨s4,e4,s3,s1,e1,s25,s26,s27⟩
  simp [s1,e1,s3,s4,e4,sheetL,pairA]
  refine ⟨_,by kernel_rfl,ac136 hG s hs.widths s.pairs[i],fun _=>rfl,?_⟩
  cases hp:pairI s s.pairs[i]
  ·simp
   simp [sheetI,adjI_false hlt hp]
  cases i with
  |zero =>
   simp [s1,s3,s4,s25,s26,s27,hlt]
   exact ⟨e1,wrapI (by omega),fun j hj hj0=>by subst hj0;exact hp⟩
  |succ k =>
   have hwk:IntKind.i64.wrap (k:Int)=k:=wrapI (by omega)
   have hw2:IntKind.i64.wrap ((k:Int)+1+1)=k+1+1:=wrapI (by omega)
   have hkl:k < s.pairs.length:=by omega
   have h0:(0:Int) < (k:Int)+1:=by omega
   simp [s1,e1,s3,s4,e4,hlt,hwk,hkl,h0,sheetL,pairA]
   refine ⟨_,by kernel_rfl,ac137 hG s.pairs[k] s.pairs[k+1],fun _=>rfl,?_⟩
   cases hq:ltP s.pairs[k] s.pairs[k+1]
   ·simp
    simp [sheetI,adjI_false2 (p:=pairI s) hlt hq]
   ·simp [s1,e1,s3,s4,s25,s26,s27,hlt,hw2]
    refine ⟨rfl,fun j hj hjk => ?_,fun j hj hjk => ?_⟩
    ·by_cases e:j=k+1
     ·subst e;exact hp
     ·exact hb j hj (by omega)
    ·by_cases e:j=k
     ·subst e;exact hq
     ·exact hc j hj (by omega)
end Go.Proofs.Tryz
namespace Go.AL
theorem all_at {α:Type} {p:α→Bool} {l:List α} (h:∀ j (hj:j < l.length),p l[j]=true):l.all p=true:=by
 rw [List.all_eq_true]
 intro x hx
 obtain ⟨j,hj,rfl⟩:=List.getElem_of_mem hx
 exact h j hj
theorem all_not {α:Type} {p:α→Bool} {l:List α} {i:Nat} (hi:i < l.length) (hp:p l[i]=false):l.all p=false:=List.all_eq_false.2 ⟨_,List.getElem_mem hi,by simp [hp]⟩
theorem not_any_not {α:Type} (p:α→Bool) (l:List α):(!(l.any fun x => !p x))=l.all p:=by
 induction l with
 |nil=>rfl
 |cons a l ih=>simp [List.any_cons,List.all_cons,← ih]
theorem step_all {α:Type} {p:α→Bool} {l:List α} {i:Nat} (hi:i < l.length) (hb:∀ j (hj:j < l.length),j < i→p l[j]=true) (hp:p l[i]=true):∀ j (hj:j < l.length),j < i+1→p l[j]=true:=by
 intro j hj hji
 by_cases e:j=i
 ·subst e;exact hp
 ·exact hb j hj (by omega)
theorem step_adj {α:Type} {lt:α→α→Bool} {l:List α} {k:Nat} (hi:k+1 < l.length) (hb:∀ j (hj:j+1 < l.length),j+1 < k+1→lt (l[j]'(by omega)) l[j+1]=true) (hp:lt (l[k]'(by omega)) l[k+1]=true):∀ j (hj:j+1 < l.length),j+1 < k+1+1→lt (l[j]'(by omega)) l[j+1]=true:=by
 intro j hj hji
 by_cases e:j=k
 ·subst e;exact hp
 ·exact hb j hj (by omega)
end Go.AL
namespace Go.Proofs.Tryz
open Go Go.AL Go.RowKit Go.Proofs
attribute [local simp] awp_all qs_all ops_all dops_all ops_nil dops_nil ops_call ops_callv ops_alloc ops_box dops_call dops_alloc kO_eq kD_eq awanted apure ev Eff.S Eff.H tmpOf upd putD AL.start AV.dem AV.cells AV.storable AV.scells splice scrub abin loadA HR.okB post ares aress ares1 AV.out AV.isData ints_len ints_get fz fz1 AV.vw AV.vw1 boxy vI int undefA assignQ thenQ blockQ seqQ panQ prol prolH allocOf
variable {GI:World→Prop}
theorem wordI_eq (s:Sheet) (w:Word):wordI s w=(w.signs.all (signI s) && (risesI w.cuts 1 (w.signs.length - 1) && inI w.signs.length 1 6)):=by
 unfold wordI
 rw [not_any_not]
 cases inI w.signs.length 1 6<;>cases w.signs.all (signI s)<;>cases risesI w.cuts 1 (w.signs.length - 1)<;>rfl
set_option maxHeartbeats 1000000 in
theorem ac88 (hG:Stable GI) (s:Sheet) (hs:s.widths.length < 1000) (w:Word) (h1:w.signs.length < 1000) (h2:w.cuts.length < 1000):AC prog GI 88 [sheetA s,wordA w] (.ret (.bool (wordI s w))):=by
 rw [wordI_eq]
 refine AC.of_body hG hmix func88 rfl ntmps88 (by simp) (ac:=c88) (by kernel_rfl) ?_
 refine awp_cut (fun S H=>S 2 = .box 2 0∧S 3 = .box 3 0∧H 2=some (sheetL s)∧H 3=some [vI w.signs,vI w.cuts,.bool w.free]) (by simp [sheetA,sheetL,wordA]) ?_
 rintro S H ⟨s2,s3,e2,e3⟩
 simp [s2,s3,e2,e3]
 refine awp_loop 5 w.signs.length (fun i S H=>S 2 = .box 2 0∧S 3 = .box 3 0∧H 2=some (sheetL s)∧H 3=some [vI w.signs,vI w.cuts,.bool w.free]∧S 5 = .int .i64 (i:Nat)∧(∀ j (hj:j < w.signs.length),j < i→signI s w.signs[j]=true)) (fun i S H h=>h.2.2.2.2.1) ⟨by simp [s2],by simp [s3],e2,e3,by simp,by simp⟩ ?_
 clear s2 s3 e2 e3 S H
 rintro i hi S H ⟨s2,s3,e2,e3,s5,hb⟩
 by_cases hlt:i < w.signs.length
 case pos =>
  have hw:IntKind.i64.wrap ((i:Int)+1)=i+1:=wrapI (by omega)
  simp [s2,s3,e2,e3,s5,hlt,sheetL]
  refine ⟨_,by kernel_rfl,ac134 hG s hs w.signs[i],fun _=>rfl,?_⟩
  cases hp:signI s w.signs[i]
  ·simp [all_not hlt hp]
  ·simp [s2,s3,e2,e3,s5,hlt,hw]
   exact ⟨rfl,step_all hlt hb hp⟩
 have hil:i=w.signs.length:=by omega
 subst hil
 have hall:w.signs.all (signI s)=true:=all_at fun j hj=>hb j hj hj
 simp [s2,s3,e2,e3,s5,hall]
 refine awp_loop 6 w.cuts.length (fun i S H=>S 3 = .box 3 0∧H 3=some [vI w.signs,vI w.cuts,.bool w.free]∧S 6 = .int .i64 (i:Nat)∧(∀ j (hj:j < w.cuts.length),j < i→inI w.cuts[j] 1 (w.signs.length - 1)=true)∧∀ j (hj:j+1 < w.cuts.length),j+1 < i→decide (w.cuts[j] < w.cuts[j+1])=true) (fun i S H h=>h.2.2.1) ⟨by simp [s3],e3,by simp,by simp,by simp⟩ ?_
 clear s2 s3 e2 e3 s5 hb S H
 rintro i hi S H ⟨s3,e3,s6,hb,hc⟩
 by_cases hlt:i < w.cuts.length
 case neg =>
  have hil:i=w.cuts.length:=by omega
  subst hil
  have hr:risesI w.cuts 1 (w.signs.length - 1)=true:=adjI_true (fun j hj=>hb j hj hj) (fun j hj=>hc j hj hj)
  simp [s3,e3,s6,hr]
  refine ⟨_,by kernel_rfl,ac72 hG w.signs.length 1 6,fun _=>rfl,?_⟩
  simp
 case pos =>
  have hw:IntKind.i64.wrap ((i:Int)+1)=i+1:=wrapI (by omega)
  have hwl:IntKind.i64.wrap ((w.signs.length:Int) - 1)=w.signs.length - 1:=wrapI (by omega)
  simp [s3,e3,s6,hlt,hwl]
  refine ⟨_,by kernel_rfl,ac72 hG w.cuts[i] 1 (w.signs.length - 1),fun _=>rfl,?_⟩
  cases hp:inI w.cuts[i] 1 (w.signs.length - 1)
  ·have hr:risesI w.cuts 1 (w.signs.length - 1)=false:=adjI_false hlt hp
   simp [hr]
  cases i with
  |zero =>
   simp [s3,e3,s6,hlt]
   exact ⟨wrapI (by omega),fun j hj hj0=>by subst hj0;exact hp⟩
  |succ k =>
   have hwk:IntKind.i64.wrap (k:Int)=k:=wrapI (by omega)
   have hw2:IntKind.i64.wrap ((k:Int)+1+1)=k+1+1:=wrapI (by omega)
   have hkl:k < w.cuts.length:=by omega
   have h0:(0:Int) < (k:Int)+1:=by omega
   have h00:(0:Int)≤(k:Int)+1:=by omega
   by_cases hle:w.cuts[k+1]≤w.cuts[k]
   ·have hr:risesI w.cuts 1 (w.signs.length - 1)=false:=adjI_false2 (lt:=fun a b=>decide (a < b)) hlt (by simpa using hle)
    simp [s3,e3,s6,hlt,hwk,hkl,hle,h0,h00,hr]
   ·simp [s3,e3,s6,hlt,hwk,hkl,hle,h0,h00,hw2]
    exact ⟨step_all (p:=fun n=>inI n 1 (w.signs.length - 1)) hlt hb hp,fun j hj hjk=>by simpa using step_adj (lt:=fun a b=>decide (a < b)) hlt hc (by simpa using hle) j hj (by omega)⟩
def pairsI (s:Sheet):Bool:=adjI (pairI s) ltP s.pairs && decide (s.pairs.length≤6)
theorem ltP_not (a b:Pair):ltP a b = !(decide (b.l < a.l) || (a.l==b.l && decide (b.r≤a.r))):=by
 unfold ltP
 by_cases h1:a.l < b.l
 ·have h2:¬ b.l < a.l:=by omega
  have h3:(a.l==b.l)=false:=by simp;omega
  simp [h1,h2,h3]
 ·by_cases h2:b.l < a.l
  ·have h3:(a.l==b.l)=false:=by simp;omega
   simp [h1,h2,h3]
  ·have h3:(a.l==b.l)=true:=by simp;omega
   by_cases h4:b.r≤a.r
   ·have h5:¬ a.r < b.r:=by omega
    simp [h1,h2,h3,h4,h5]
   ·have h5:a.r < b.r:=by omega
    simp [h1,h2,h3,h4,h5]
set_option maxHeartbeats 1000000 in
theorem ac89 (hG:Stable GI) (s:Sheet) (hs:s.widths.length < 1000) (h1:s.pairs.length < 1000):AC prog GI 89 [sheetA s] (.ret (.bool (pairsI s))):=by
 refine AC.of_body hG hmix func89 rfl ntmps89 (by simp) (ac:=c89) (by kernel_rfl) ?_
 simp [c89,sheetA,sheetL]
 refine awp_loop 3 s.pairs.length (fun i S H=>S 1 = .box 1 0∧H 1=some (sheetL s)∧S 3 = .int .i64 (i:Nat)∧(∀ j (hj:j < s.pairs.length),j < i→pairI s s.pairs[j]=true)∧∀ j (hj:j+1 < s.pairs.length),j+1 < i→ltP s.pairs[j] s.pairs[j+1]=true) (fun i S H h=>h.2.2.1) ⟨by simp,by simp [sheetL],by simp,by simp,by simp⟩ ?_
 rintro i hi S H ⟨s1,e1,s3,hb,hc⟩
 by_cases hlt:i < s.pairs.length
 case neg =>
  have hil:i=s.pairs.length:=by omega
  subst hil
  have hr:adjI (pairI s) ltP s.pairs=true:=adjI_true (fun j hj=>hb j hj hj) (fun j hj=>hc j hj hj)
  simp [s1,e1,s3,sheetL,pairsI,hr]
  by_cases h6:s.pairs.length≤6
  ·have h6':(s.pairs.length:Int)≤6:=by omega
   simp [h6,h6']
  ·have h6':¬ (s.pairs.length:Int)≤6:=by omega
   simp [h6,h6']
 case pos =>
  have hw:IntKind.i64.wrap ((i:Int)+1)=i+1:=wrapI (by omega)
  refine awp_cut2 (fun S H=>S 9 = .bool true∧S 1 = .box 1 0∧H 1=some (sheetL s)∧S 3 = .int .i64 (i:Nat)) (by simp [s1,e1,s3,hlt,sheetL]) ?_
  clear s1 e1 s3 S H
  rintro S H ⟨s9,s1,e1,s3⟩
  refine awp_go s9 (awp_in ?_)
  refine awp_cut (fun S H=>S 4 = .box 4 0∧H 4=some (pairA s.pairs[i]).cells∧S 1 = .box 1 0∧H 1=some (sheetL s)∧S 3 = .int .i64 (i:Nat)) (by simp [s1,e1,s3,hlt,sheetL,pairA]) ?_
  clear s1 e1 s3 s9 S H
  rintro S H ⟨s4,e4,s1,e1,s3⟩
  refine awp_cut2 (fun S H=>S 34 = .bool (!pairI s s.pairs[i])∧S 4 = .box 4 0∧H 4=some (pairA s.pairs[i]).cells∧S 1 = .box 1 0∧H 1=some (sheetL s)∧S 3 = .int .i64 (i:Nat)) ?_ ?_
  ·simp [s1,e1,s3,s4,e4,sheetL,pairA]
   refine ⟨_,by kernel_rfl,ac134 hG s hs s.pairs[i].l,fun _=>rfl,?_⟩
   cases h1:signI s s.pairs[i].l
   ·simp [s1,e1,s3,s4,e4,sheetL,pairA,pairI,h1]
   simp [s1,e1,s3,s4,e4,sheetL,pairA]
   refine ⟨_,by kernel_rfl,ac134 hG s hs s.pairs[i].r,fun _=>rfl,?_⟩
   cases h2:signI s s.pairs[i].r
   ·simp [s1,e1,s3,s4,e4,sheetL,pairA,pairI,h1,h2]
   simp [s1,e1,s3,s4,e4,sheetL,pairA]
   refine ⟨_,by kernel_rfl,ac90 hG s.pairs[i].lo s.pairs[i].hi 9,fun _=>rfl,?_⟩
   simp [s1,e1,s3,s4,e4,sheetL,pairA,pairI,h1,h2]
  clear s1 e1 s3 s4 e4 S H
  rintro S H ⟨s34,s4,e4,s1,e1,s3⟩
  cases hp:pairI s s.pairs[i]
  ·rw [hp] at s34
   have hr:pairsI s=false:=by unfold pairsI;rw [adjI_false hlt hp];rfl
   simp [s34,hr]
  rw [hp] at s34
  refine awp_go2 s34 ?_
  cases i with
  |zero =>
   simp [s1,e1,s3,s4,e4,sheetL,hlt]
   exact ⟨wrapI (by omega),fun j hj hj0=>by subst hj0;exact hp⟩
  |succ k =>
   have hwk:IntKind.i64.wrap (k:Int)=k:=wrapI (by omega)
   have hw2:IntKind.i64.wrap ((k:Int)+1+1)=k+1+1:=wrapI (by omega)
   have hkl:k < s.pairs.length:=by omega
   have h0:(0:Int) < (k:Int)+1:=by omega
   cases hq:ltP s.pairs[k] s.pairs[k+1]
   ·have hr:pairsI s=false:=by unfold pairsI;rw [adjI_false2 hlt hq];rfl
    rw [ltP_not] at hq
    by_cases h1:s.pairs[k+1].l < s.pairs[k].l
    ·simp [s1,e1,s3,s4,e4,sheetL,pairA,hwk,hkl,h0,h1,hr]
    ·cases h2:s.pairs[k].l==s.pairs[k+1].l
     ·simp [h1,h2] at hq
     ·by_cases h3:s.pairs[k+1].r≤s.pairs[k].r
      ·simp [s1,e1,s3,s4,e4,sheetL,pairA,hwk,hkl,h0,h1,h2,h3,hr]
      ·simp [h1,h2,h3] at hq
   ·have hq':=hq
    rw [ltP_not] at hq
    have h1:¬ s.pairs[k+1].l < s.pairs[k].l:=fun h=>by simp [h] at hq
    cases h2:s.pairs[k].l==s.pairs[k+1].l
    ·simp [s1,e1,s3,s4,e4,sheetL,pairA,hwk,hkl,h0,h1,h2,hw2,hlt]
     exact ⟨step_all hlt hb hp,fun j hj hjk=>step_adj hlt hc hq' j hj (by omega)⟩
    ·have h3:¬ s.pairs[k+1].r≤s.pairs[k].r:=fun h=>by simp [h1,h2,h] at hq
     simp [s1,e1,s3,s4,e4,sheetL,pairA,hwk,hkl,h0,h1,h2,h3,hw2,hlt]
     exact ⟨step_all hlt hb hp,fun j hj hjk=>step_adj hlt hc hq' j hj (by omega)⟩
theorem sheetI_eq (s:Sheet):sheetI s=(s.widths.all (inI · 1 20) && (s.words.all (wordI s) && (inI s.widths.length 1 6 && pairsI s && spanI s.olo s.ohi 0 9 && spanI s.glo s.ghi 0 20 && inI s.hyphen 1 20 && inI s.words.length 1 4 && inI s.wide 1 400 && inI s.rows 1 3))):=by
 unfold sheetI endI pairsI
 rw [not_any_not,not_any_not]
 cases inI s.widths.length 1 6<;>cases decide (s.pairs.length≤6)<;>cases inI s.words.length 1 4<;>cases adjI (pairI s) ltP s.pairs<;>cases s.widths.all (inI · 1 20)<;>cases s.words.all (wordI s)<;>cases spanI s.olo s.ohi 0 9<;>simp
set_option maxHeartbeats 1000000 in
theorem ac33 (hG:Stable GI) (s:Sheet) (hs:Slim s):AC prog GI 33 [sheetA s] (.ret (.bool (sheetI s))):=by
 rw [sheetI_eq]
 have q1:=hs.widths
 have q2:=hs.pairs
 have q3:=hs.words
 refine AC.of_body hG hmix func33 rfl ntmps33 (by simp) (ac:=c33) (by kernel_rfl) ?_
 simp [c33,sheetA,sheetL]
 refine awp_loop 3 s.widths.length (fun i S H=>S 1 = .box 1 0∧H 1=some (sheetL s)∧S 3 = .int .i64 (i:Nat)∧(∀ j (hj:j < s.widths.length),j < i→inI s.widths[j] 1 20=true)) (fun i S H h=>h.2.2.1) ⟨by simp,by simp [sheetL],by simp,by simp⟩ ?_
 rintro i hi S H ⟨s1,e1,s3,hb⟩
 by_cases hlt:i < s.widths.length
 case pos =>
  have hw:IntKind.i64.wrap ((i:Int)+1)=i+1:=wrapI (by omega)
  simp [s1,e1,s3,hlt,sheetL]
  refine ⟨_,by kernel_rfl,ac72 hG s.widths[i] 1 20,fun _=>rfl,?_⟩
  cases hp:inI s.widths[i] 1 20
  ·simp [all_not (p:=fun n=>inI n 1 20) hlt hp]
  ·simp [s1,e1,s3,hlt,hw]
   exact ⟨rfl,step_all (p:=fun n=>inI n 1 20) hlt hb hp⟩
 have hil:i=s.widths.length:=by omega
 subst hil
 have hall:s.widths.all (inI · 1 20)=true:=all_at fun j hj=>hb j hj hj
 simp [s1,e1,s3,sheetL,hall]
 refine awp_loop 4 s.words.length (fun i S H=>S 1 = .box 1 0∧H 1=some (sheetL s)∧S 4 = .int .i64 (i:Nat)∧(∀ j (hj:j < s.words.length),j < i→wordI s s.words[j]=true)) (fun i S H h=>h.2.2.1) ⟨by simp [s1],by simp [e1,sheetL],by simp,by simp⟩ ?_
 clear s1 e1 s3 hb S H
 rintro i hi S H ⟨s1,e1,s4,hb⟩
 by_cases hlt:i < s.words.length
 case pos =>
  have hw:IntKind.i64.wrap ((i:Int)+1)=i+1:=wrapI (by omega)
  simp [s1,e1,s4,hlt,sheetL,wordA]
  refine ⟨_,by kernel_rfl,ac88 hG s q1 s.words[i] (hs.signs _ (List.getElem_mem hlt)) (hs.cuts _ (List.getElem_mem hlt)),fun _=>rfl,?_⟩
  cases hp:wordI s s.words[i]
  ·simp [all_not hlt hp]
  ·simp [s1,e1,s4,hlt,hw]
   exact ⟨rfl,step_all hlt hb hp⟩
 have hil:i=s.words.length:=by omega
 subst hil
 have hall2:s.words.all (wordI s)=true:=all_at fun j hj=>hb j hj hj
 simp [s1,e1,s4,sheetL,hall2]
 refine ⟨_,by kernel_rfl,ac72 hG s.widths.length 1 6,fun _=>rfl,?_⟩
 cases h1:inI s.widths.length 1 6
 ·simp
 simp [s1,e1,s4,sheetL]
 refine ⟨_,by kernel_rfl,ac89 hG s q1 q2,fun _=>rfl,?_⟩
 cases h2:pairsI s
 ·simp
 simp [s1,e1,s4,sheetL]
 refine ⟨_,by kernel_rfl,ac90 hG s.olo s.ohi 9,fun _=>rfl,?_⟩
 cases h3:spanI s.olo s.ohi 0 9
 ·simp
 simp [s1,e1,s4,sheetL]
 refine ⟨_,by kernel_rfl,ac90 hG s.glo s.ghi 20,fun _=>rfl,?_⟩
 cases h4:spanI s.glo s.ghi 0 20
 ·simp
 simp [s1,e1,s4,sheetL]
 refine ⟨_,by kernel_rfl,ac72 hG s.hyphen 1 20,fun _=>rfl,?_⟩
 cases h5:inI s.hyphen 1 20
 ·simp
 simp [s1,e1,s4,sheetL]
 refine ⟨_,by kernel_rfl,ac72 hG s.words.length 1 4,fun _=>rfl,?_⟩
 cases h6:inI s.words.length 1 4
 ·simp
 simp [s1,e1,s4,sheetL]
 refine ⟨_,by kernel_rfl,ac60 hG s.wide,fun _=>rfl,?_⟩
 cases h7:inI s.wide 1 400
 ·simp
 simp [s1,e1,s4,sheetL]
 refine ⟨_,by kernel_rfl,ac72 hG s.rows 1 3,fun _=>rfl,?_⟩
 simp
end Go.Proofs.Tryz
namespace Go.AL
section
variable {P:Program} {GI:World→Prop}
end
end Go.AL
namespace Go.Proofs.Tryz
open Go Go.AL Go.RowKit Go.Proofs
attribute [local simp] awp_all qs_all ops_all dops_all ops_nil dops_nil ops_call ops_callv ops_alloc ops_box dops_call dops_alloc kO_eq kD_eq awanted apure ev Eff.S Eff.H tmpOf upd putD AL.start AV.dem AV.cells AV.storable AV.scells splice scrub abin loadA HR.okB post ares aress ares1 AV.out AV.isData ints_len ints_get fz fz1 AV.vw AV.vw1 boxy vI int undefA assignQ thenQ blockQ seqQ panQ prol prolH allocOf
variable {GI:World→Prop}
def wordS (w:Word):Bool:=decide (w.signs.length≤8) && decide (w.cuts.length≤8)
def shortI (s:Sheet):Bool:=(s.words.take 6).all wordS && (decide (s.widths.length≤8) && decide (s.pairs.length≤8) && decide (s.words.length≤6))
theorem shortI_slim {s:Sheet} (h:shortI s=true):Slim s:=by
 unfold shortI at h
 simp only [Bool.and_eq_true,decide_eq_true_eq] at h
 obtain ⟨h1,⟨h2,h3⟩,h4⟩:=h
 rw [List.take_of_length_le h4,List.all_eq_true] at h1
 have h5:∀ w∈s.words,w.signs.length≤8∧w.cuts.length≤8:=fun w hw=>by simpa [wordS] using h1 w hw
 exact ⟨by omega,by omega,by omega,fun w hw=>by have:=(h5 w hw).1;omega,fun w hw=>by have:=(h5 w hw).2;omega⟩
set_option maxHeartbeats 1000000 in
theorem ac29 (hG:Stable GI) (s:Sheet):AC prog GI 29 [sheetA s] (.ret (.bool (shortI s))):=by
 refine AC.of_body hG hmix func29 rfl ntmps29 (by simp) (ac:=c29) (by kernel_rfl) ?_
 simp [c29,sheetA,sheetL]
 refine awp_loop 3 (min s.words.length 6) (fun i S H=>S 1 = .box 1 0∧H 1=some (sheetL s)∧S 3 = .int .i64 (i:Nat)∧(∀ j (hj:j < (s.words.take 6).length),j < i→wordS (s.words.take 6)[j]=true)) (fun i S H h=>h.2.2.1) ⟨by simp,by simp [sheetL],by simp,by simp⟩ ?_
 rintro i hi S H ⟨s1,e1,s3,hb⟩
 by_cases hlt:i < s.words.length
 case neg =>
  have hil:i=s.words.length:=by omega
  subst hil
  have hl6:s.words.length≤6:=by omega
  have hall:(s.words.take 6).all wordS=true:=all_at fun j hj=>hb j hj (by rw [List.length_take] at hj;omega)
  have hl6':(s.words.length:Int)≤6:=by omega
  by_cases h1:s.widths.length≤8<;>by_cases h2:s.pairs.length≤8<;>simp [s1,e1,s3,sheetL,shortI,hall,h1,h2,hl6,hl6',show ((s.widths.length:Int)≤8)↔s.widths.length≤8 by omega,show ((s.pairs.length:Int)≤8)↔s.pairs.length≤8 by omega]
 by_cases h6:i < 6
 case neg =>
  have hi6:¬ (i:Int) < 6:=by omega
  have hall:(s.words.take 6).all wordS=true:=all_at fun j hj=>hb j hj (by rw [List.length_take] at hj;omega)
  by_cases h1:s.widths.length≤8<;>by_cases h2:s.pairs.length≤8<;>simp [s1,e1,s3,hlt,hi6,sheetL,shortI,hall,h1,h2,show ((s.widths.length:Int)≤8)↔s.widths.length≤8 by omega,show ((s.pairs.length:Int)≤8)↔s.pairs.length≤8 by omega,show ((s.words.length:Int)≤6)↔s.words.length≤6 by omega]
 have hw:IntKind.i64.wrap ((i:Int)+1)=i+1:=wrapI (by omega)
 have hi6:(i:Int) < 6:=by omega
 have hit:i < (s.words.take 6).length:=by rw [List.length_take];omega
 have hget:(s.words.take 6)[i]=s.words[i]:=List.getElem_take
 by_cases h1:s.words[i].signs.length≤8
 case neg =>
  have hf:wordS (s.words.take 6)[i]=false:=by rw [hget];simp [wordS,h1]
  have h1':(8:Int) < s.words[i].signs.length:=by omega
  simp [s1,e1,s3,hlt,hi6,sheetL,wordA,vI,h1']
  simp [shortI,all_not hit hf]
 have h1':¬ (8:Int) < s.words[i].signs.length:=by omega
 by_cases h2:s.words[i].cuts.length≤8
 case neg =>
  have h2':(8:Int) < s.words[i].cuts.length:=by omega
  have hf:wordS (s.words.take 6)[i]=false:=by rw [hget];simp [wordS,h2]
  simp [s1,e1,s3,hlt,hi6,sheetL,wordA,vI,h1',h2']
  simp [shortI,all_not hit hf]
 have h2':¬ (8:Int) < s.words[i].cuts.length:=by omega
 have ht:wordS (s.words.take 6)[i]=true:=by rw [hget];simp [wordS,h1,h2]
 simp [s1,e1,s3,hlt,hi6,sheetL,wordA,vI,h1',h2',hw]
 exact ⟨by omega,fun j hj hji=>by
  have:=step_all hit hb ht j (by rw [List.length_take];omega) hji
  rwa [List.getElem_take] at this⟩
end Go.Proofs.Tryz
namespace Go.AL
theorem AC.as_view {P:Program} {GI:World→Prop} {f:Nat} {args:List AV} {o:Ow} {es:List AV} (h:AC P GI f args (.ret (.slice o es))):AC P GI f args (.ret (.slice .view es)):=by
 intro w old cargs h1 h2 h3
 refine (h w old cargs h1 h2 h3).mono ?_
 rintro e w' ⟨hb,hi,h0,c,rfl,hv,_⟩
 refine ⟨hb,hi,h0,c,rfl,?_,trivial⟩
 cases hv with
 |data _ _ h=>exact .data _ _ (Go.Proofs.Tryz.RD.anyFlag h)
theorem ints_ok (l:List Int):elemsOK 1 (ints l)=true:=by simp [elemsOK,ints,AV.storable,AV.cells]
def grown (l:List Int):AV := .slice (if l.isEmpty then .nil else .own 3) (ints l)
end Go.AL
namespace Go.Proofs.Tryz
open Go Go.AL Go.RowKit Go.Proofs
attribute [local simp] awp_all qs_all ops_all dops_all ops_nil dops_nil ops_call ops_callv ops_alloc ops_box dops_call dops_alloc kO_eq kD_eq awanted apure ev Eff.S Eff.H tmpOf upd putD AL.start AV.dem AV.cells AV.storable AV.scells splice scrub abin loadA HR.okB post ares aress ares1 AV.out AV.isData ints_len ints_get fz fz1 AV.vw AV.vw1 boxy vI int undefA assignQ thenQ blockQ seqQ panQ prol prolH allocOf
variable {GI:World→Prop}
end Go.Proofs.Tryz
namespace Go.Proofs.Tryz
open Go Go.AL Go.RowKit Go.Proofs
attribute [local simp] awp_all qs_all ops_all dops_all ops_nil dops_nil ops_call ops_callv ops_alloc ops_box dops_call dops_alloc kO_eq kD_eq awanted apure ev Eff.S Eff.H tmpOf upd putD AL.start AV.dem AV.cells AV.storable AV.scells splice scrub abin loadA HR.okB post ares aress ares1 AV.out AV.isData ints_len ints_get fz fz1 AV.vw AV.vw1 boxy vI int undefA assignQ thenQ blockQ seqQ panQ prol prolH allocOf
variable {GI:World→Prop}
end Go.Proofs.Tryz
namespace Go.Proofs.Tryz
open Go Go.AL Go.RowKit Go.Proofs
attribute [local simp] awp_all qs_all ops_all dops_all ops_nil dops_nil ops_call ops_callv ops_alloc ops_box dops_call dops_alloc kO_eq kD_eq awanted apure ev Eff.S Eff.H tmpOf upd putD AL.start AV.dem AV.cells AV.storable AV.scells splice scrub abin loadA HR.okB post ares aress ares1 AV.out AV.isData ints_len ints_get fz fz1 AV.vw AV.vw1 boxy vI int undefA assignQ thenQ blockQ seqQ panQ prol prolH allocOf
variable {GI:World→Prop}
end Go.Proofs.Tryz
namespace Go.Proofs.Tryz
open Go Go.AL Go.RowKit Go.Proofs
attribute [local simp] awp_all qs_all ops_all dops_all ops_nil dops_nil ops_call ops_callv ops_alloc ops_box dops_call dops_alloc kO_eq kD_eq awanted apure ev Eff.S Eff.H tmpOf upd putD AL.start AV.dem AV.cells AV.storable AV.scells splice scrub abin loadA HR.okB post ares aress ares1 AV.out AV.isData ints_len ints_get fz fz1 AV.vw AV.vw1 boxy vI int undefA assignQ thenQ blockQ seqQ panQ prol prolH allocOf
variable {GI:World→Prop}
def ML (GI:World→Prop):Prop:=∀ w,GI w→∃ m,w.cell? ⟨1,0,none⟩=some (.int .i64 m)
end Go.Proofs.Tryz
namespace Go.AL
end Go.AL
namespace Go.Proofs.Tryz
open Go Go.AL Go.RowKit Go.Proofs
attribute [local simp] awp_all qs_all ops_all dops_all ops_nil dops_nil ops_call ops_callv ops_alloc ops_box dops_call dops_alloc kO_eq kD_eq awanted apure ev Eff.S Eff.H tmpOf upd putD AL.start AV.dem AV.cells AV.storable AV.scells splice scrub abin loadA HR.okB post ares aress ares1 AV.out AV.isData ints_len ints_get fz fz1 AV.vw AV.vw1 boxy vI int undefA assignQ thenQ blockQ seqQ panQ prol prolH allocOf
variable {GI:World→Prop}
end Go.Proofs.Tryz
namespace Go.AL
theorem adjI_iff {α:Type} {p:α→Bool} {lt:α→α→Bool} {l:List α}:adjI p lt l=true↔(∀ x∈l,p x=true)∧∀ j (hj:j+1 < l.length),lt (l[j]'(by omega)) l[j+1]=true:=by
 unfold adjI
 rw [Bool.and_eq_true,List.all_eq_true,List.all_eq_true]
 constructor
 ·rintro ⟨h1,h2⟩
  refine ⟨h1,fun j hj => ?_⟩
  have:=h2 j (List.mem_range.2 (by omega))
  simpa [show j < l.length by omega,hj] using this
 ·rintro ⟨h1,h2⟩
  refine ⟨h1,fun j hj => ?_⟩
  rw [List.mem_range] at hj
  have:=h2 j (by omega)
  simpa [show j < l.length by omega,show j+1 < l.length by omega] using this
theorem adj_lt {l:List Int} (h:∀ j (hj:j+1 < l.length),l[j] < l[j+1]):l.Pairwise fun a b=>a < b:=by
 rw [List.pairwise_iff_getElem]
 intro i j hi hj hij
 obtain ⟨d,rfl⟩:∃ d,j=i+1+d:=⟨j - i - 1,by omega⟩
 clear hij
 induction d with
 |zero=>exact h i hj
 |succ d ih =>
  have h1:=ih (by omega)
  have h2:=h (i+1+d) hj
  exact Int.lt_trans h1 h2
end Go.AL
namespace Go.Proofs.Tryz
open Go.AL
def soonerI (a b:End):Bool:=decide (a.1 < b.1) || (a.1==b.1 && decide (a.2 < b.2))
theorem soonerI_iff {a b:End}:soonerI a b=true↔a.1 < b.1∨a.1=b.1∧a.2 < b.2:=by
 simp [soonerI]
section
variable {l:List End}
end
def notFree (s:Sheet) (n:Int):Bool:=match s.words[n.toNat]? with | some w => !w.free | none=>false
def outI (s:Sheet) (out:List Int):Bool:=risesI out 0 (s.words.length - 1) && decide (out.length < s.words.length) && !(out.any (notFree s))
def endsW (s:Sheet) (out:List Int) (n:Nat):List End:=if out.contains (n:Int) then [] else match s.words[n]? with
 |some w=>(w.cuts.map fun k=>((n:Int),k))++[((n:Int),(w.signs.length:Int))]
 |none=>[]
def endsL (s:Sheet) (out:List Int):List End:=(List.range s.words.length).flatMap (endsW s out)
def lastN (out:List Int):Nat→Int
 |0 => -1
 |n+1=>if out.contains (n:Int) then lastN out n else n
def okE (s:Sheet) (out:List Int) (e:End):Bool:=inI e.1 0 (s.words.length - 1) && !out.contains e.1 && match s.words[e.1.toNat]? with
 |some w=>e.2==(w.signs.length:Int) || w.cuts.contains e.2
 |none=>false
def lastE (s:Sheet) (out:List Int):End:=(lastN out s.words.length,match s.words[(lastN out s.words.length).toNat]? with | some w=>(w.signs.length:Int) | none=>0)
def setR (s:Sheet) (out:List Int) (es:List End):Bool:=outI s out && !es.isEmpty && (adjI (okE s out) soonerI es && (es.getLast?.getD (-1,0)==lastE s out))
theorem mem_endsL {s:Sheet} {out:List Int} {e:End}:e∈endsL s out↔okE s out e=true:=by
 unfold endsL okE inI
 rw [List.mem_flatMap]
 simp only [List.mem_range,Bool.and_eq_true,decide_eq_true_eq,Bool.not_eq_true',List.contains_eq_mem,decide_eq_false_iff_not]
 constructor
 ·rintro ⟨n,hn,he⟩
  unfold endsW at he
  split at he
  ·cases he
  rename_i hc
  have hc:¬ (n:Int)∈out:=by simpa using hc
  rw [List.getElem?_eq_getElem hn] at he
  simp only [List.mem_append,List.mem_map,List.mem_singleton] at he
  have h1:e.1=n:=by rcases he with ⟨k,_,rfl⟩ | rfl<;>rfl
  rw [h1]
  refine ⟨⟨by omega,hc⟩,?_⟩
  rw [Int.toNat_natCast,List.getElem?_eq_getElem hn]
  simp only [Bool.or_eq_true,beq_iff_eq,decide_eq_true_eq]
  rcases he with ⟨k,hk,rfl⟩ | rfl
  ·exact .inr hk
  ·exact .inl rfl
 ·rintro ⟨⟨⟨h1,h2⟩,hc⟩,h3⟩
  obtain ⟨w,k⟩:=e
  obtain ⟨n,rfl⟩:∃ n:Nat,w=n:=⟨w.toNat,by simp only at h1;omega⟩
  simp only at h1 h2 hc h3
  have hn:n < s.words.length:=by omega
  refine ⟨n,hn,?_⟩
  unfold endsW
  rw [if_neg (by simpa using hc)]
  rw [Int.toNat_natCast,List.getElem?_eq_getElem hn] at h3
  rw [List.getElem?_eq_getElem hn]
  simp only [Bool.or_eq_true,beq_iff_eq,decide_eq_true_eq] at h3
  simp only [List.mem_append,List.mem_map,List.mem_singleton]
  rcases h3 with rfl | h3
  ·exact .inr rfl
  ·exact .inl ⟨k,h3,rfl⟩
theorem endsL_sorted {s:Sheet} {out:List Int} (hw:∀ w∈s.words,risesI w.cuts 1 (w.signs.length - 1)=true):(endsL s out).Pairwise fun a b=>soonerI a b=true:=by
 unfold endsL
 rw [List.pairwise_flatMap]
 constructor
 ·intro n hn
  rw [List.mem_range] at hn
  unfold endsW
  split
  ·exact .nil
  rw [List.getElem?_eq_getElem hn]
  have h:=hw s.words[n] (List.getElem_mem hn)
  unfold risesI at h
  rw [adjI_iff] at h
  obtain ⟨h1,h2⟩:=h
  simp only
  rw [List.pairwise_append]
  refine ⟨?_,List.pairwise_singleton _ _,?_⟩
  ·rw [List.pairwise_map]
   have:s.words[n].cuts.Pairwise fun a b=>a < b:=adj_lt fun j hj=>by simpa using h2 j hj
   exact this.imp fun h=>by simp [soonerI,h]
  ·intro a ha b hb
   rw [List.mem_singleton] at hb
   subst hb
   obtain ⟨k,hk,rfl⟩:=List.mem_map.1 ha
   have:=h1 k hk
   simp [inI] at this
   simp [soonerI];omega
 ·refine List.Pairwise.imp_of_mem ?_ List.pairwise_lt_range
  intro a b ha hb hab x hx y hy
  have hx1:x.1=a:=by
   unfold endsW at hx
   split at hx
   ·cases hx
   split at hx
   ·simp only [List.mem_append,List.mem_map,List.mem_singleton] at hx
    rcases hx with ⟨k,_,rfl⟩ | rfl<;>rfl
   ·cases hx
  have hy1:y.1=b:=by
   unfold endsW at hy
   split at hy
   ·cases hy
   split at hy
   ·simp only [List.mem_append,List.mem_map,List.mem_singleton] at hy
    rcases hy with ⟨k,_,rfl⟩ | rfl<;>rfl
   ·cases hy
  rw [soonerI_iff,hx1,hy1]
  left;omega
theorem lastN_spec {out:List Int}:∀ n:Nat,(lastN out n = -1∧∀ k:Nat,k < n→(k:Int)∈out)∨∃ m:Nat,m < n∧lastN out n=m∧¬ (m:Int)∈out∧∀ k:Nat,m < k→k < n→(k:Int)∈out
 |0 => .inl ⟨rfl,fun k hk=>by omega⟩
 |n+1=>by
  unfold lastN
  split
  ·rename_i hc
   have hc:(n:Int)∈out:=by simpa using hc
   rcases lastN_spec (out:=out) n with ⟨h1,h2⟩ | ⟨m,h1,h2,h3,h4⟩
   ·refine .inl ⟨h1,fun k hk => ?_⟩
    by_cases e:k=n
    ·subst e;exact hc
    ·exact h2 k (by omega)
   ·refine .inr ⟨m,by omega,h2,h3,fun k hk hk' => ?_⟩
    by_cases e:k=n
    ·subst e;exact hc
    ·exact h4 k hk (by omega)
  ·rename_i hc
   exact .inr ⟨n,by omega,rfl,by simpa using hc,fun k h1 h2=>by omega⟩
theorem out_some {s:Sheet} {out:List Int} (h:outI s out=true):∃ m:Nat,m < s.words.length∧lastN out s.words.length=m∧¬ (m:Int)∈out∧∀ k:Nat,m < k→k < s.words.length→(k:Int)∈out:=by
 unfold outI at h
 simp only [Bool.and_eq_true,decide_eq_true_eq] at h
 obtain ⟨⟨h1,h2⟩,_⟩:=h
 rcases lastN_spec (out:=out) s.words.length with ⟨_,h3⟩ | h3
 ·exfalso
  unfold risesI at h1
  rw [adjI_iff] at h1
  obtain ⟨_,h1⟩:=h1
  have hp:out.Pairwise fun a b=>a < b:=adj_lt fun j hj=>by simpa using h1 j hj
  have hp:=List.pairwise_iff_getElem.1 hp
  have key:∀ k:Nat,k < s.words.length→∃ j,k≤j∧∃ hj:j < out.length,out[j]=k:=by
   intro k
   induction k with
   |zero =>
    intro hk
    obtain ⟨j,hj,e⟩:=List.getElem_of_mem (h3 0 hk)
    exact ⟨j,by omega,hj,e⟩
   |succ k ih =>
    intro hk
    obtain ⟨j,hkj,hj,e⟩:=ih (by omega)
    obtain ⟨j',hj',e'⟩:=List.getElem_of_mem (h3 (k+1) hk)
    refine ⟨j',?_,hj',e'⟩
    rcases Nat.lt_trichotomy j j' with h | h | h
    ·omega
    ·subst h;omega
    ·have:=hp j' j hj' hj h;omega
  obtain ⟨j,hkj,hj,_⟩:=key (s.words.length - 1) (by omega)
  omega
 ·exact h3
theorem lastE_mem {s:Sheet} {out:List Int} (h:outI s out=true):(endsL s out).getLast? = some (lastE s out):=by
 obtain ⟨m,h1,h2,h3,h4⟩:=out_some h
 have hl:lastE s out=((m:Int),((s.words[m]).signs.length:Int)):=by
  unfold lastE
  rw [h2,Int.toNat_natCast,List.getElem?_eq_getElem h1]
 rw [hl]
 unfold endsL
 obtain ⟨d,hd⟩:∃ d,s.words.length=m+1+d:=⟨s.words.length - m - 1,by omega⟩
 have key:∀ d,m+1+d≤s.words.length→((List.range (m+1+d)).flatMap (endsW s out)).getLast? = some ((m:Int),((s.words[m]).signs.length:Int)):=by
  intro d
  induction d with
  |zero =>
   intro _
   rw [Nat.add_zero,List.range_succ,List.flatMap_append,List.flatMap_singleton]
   have hm:¬ (out.contains (m:Int)=true):=by simpa using h3
   have e:endsW s out m=(s.words[m].cuts.map fun k=>((m:Int),k))++[((m:Int),(s.words[m].signs.length:Int))]:=by
    unfold endsW
    rw [if_neg hm,List.getElem?_eq_getElem h1]
   rw [e,← List.append_assoc,List.getLast?_append]
   simp
  |succ d ih =>
   intro hle
   rw [← Nat.add_assoc,List.range_succ,List.flatMap_append,List.flatMap_singleton]
   have hc:out.contains ((m+1+d:Nat):Int)=true:=by simpa using h4 (m+1+d) (by omega) (by omega)
   have e:endsW s out (m+1+d)=[]:=by
    unfold endsW
    rw [if_pos hc]
   rw [e,List.append_nil]
   exact ih (by omega)
 rw [hd]
 exact key d (by omega)
end Go.Proofs.Tryz
namespace Go.AL
section
variable {P:Program} {GI:World→Prop}
theorem awp_loopD {c:ACode} {Q:AExit→Slots→Boxes→Prop} {S:Slots} {H:Boxes} (t n:Nat) (I:Nat→Slots→Boxes→Prop) (hix:∀ i S H,I i S H→S t = .int .i64 ((i:Nat) - 1)) (h0:I n S H)
  (hs:∀ i,i≤n→∀ S H,I i S H→awp P GI c (thenQ (fun S' H'=>0 < i∧I (i - 1) S' H') Q) S H):awp P GI (.loop c) Q S H:=by
 refine ⟨fun S H=>∃ i,i≤n∧I i S H,fun S _=>match S t with | .int _ k=>(k+1).toNat | _=>0,⟨n,Nat.le_refl _,h0⟩,?_⟩
 rintro S H ⟨i,hi,hI⟩
 refine awp_mono c (thenQ_mono (fun S' H' h => ?_) (fun _ _ _ h=>h)) (hs i hi S H hI)
 refine ⟨⟨i - 1,by omega,h.2⟩,?_⟩
 have e1:=hix _ _ _ hI
 have e2:=hix _ _ _ h.2
 simp only [e1,e2]
 have:=h.1
 omega
end
end Go.AL
namespace Go.Proofs.Tryz
open Go Go.AL Go.RowKit Go.Proofs
attribute [local simp] awp_all qs_all ops_all dops_all ops_nil dops_nil ops_call ops_callv ops_alloc ops_box dops_call dops_alloc kO_eq kD_eq awanted apure ev Eff.S Eff.H tmpOf upd putD AL.start AV.dem AV.cells AV.storable AV.scells splice scrub abin loadA HR.okB post ares aress ares1 AV.out AV.isData ints_len ints_get fz fz1 AV.vw AV.vw1 boxy vI int undefA assignQ thenQ blockQ seqQ panQ prol prolH allocOf
variable {GI:World→Prop}
theorem ac168 (hG:Stable GI) (l:List Int) (hl:l.length < 1000000) (v:Int):AC prog GI 168 [vI l,.int .i64 v] (.ret (.int .i64 (firstT (v == ·) l))):=by
 refine AC.of_body hG hmix func168 rfl ntmps168 (by simp) (ac:=c168) (by kernel_rfl) ?_
 simp [c168]
 refine awp_loop 8 l.length (fun i S H=>S 0=vI l∧S 1 = .int .i64 v∧S 7 = .int .i64 l.length∧S 8 = .int .i64 (i:Nat)∧∀ j (hj:j < l.length),j < i→(v==l[j])=false) (fun i S H h=>h.2.2.2.1) ⟨by simp,by simp,by simp,by simp,by simp⟩ ?_
 rintro i hi S H ⟨s0,s1,s7,s8,hb⟩
 by_cases hlt:i < l.length
 ·have hw:IntKind.i64.wrap ((i:Int)+1)=i+1:=wrapI (by omega)
  cases he:v==l[i]
  ·simp [s0,s1,s7,s8,hlt,he,hw]
   intro j hj hji
   by_cases e:j=i
   ·subst e;simpa using he
   ·simpa using hb j hj (by omega)
  ·simp [s0,s1,s7,s8,hlt,he,hw]
   exact firstT_at hlt he hb
 ·have hil:i=l.length:=by omega
  subst hil
  simp [s0,s1,s7,s8]
  exact firstT_none fun j hj=>hb j hj hj
theorem ac129 (hG:Stable GI) (l:List Int) (hl:l.length < 1000000) (v:Int):AC prog GI 129 [vI l,.int .i64 v] (.ret (.bool (l.contains v))):=by
 refine AC.of_body hG hmix func129 rfl ntmps129 (by simp) (ac:=c129) (by kernel_rfl) ?_
 simp [c129]
 refine ⟨_,by kernel_rfl,ac168 hG l hl v,fun _=>rfl,?_⟩
 simp
 have:=firstT_any (p:=(v == ·)) (l:=l)
 rw [Bool.eq_iff_iff] at this
 simpa using this.symm
theorem intsOf2 (a b:Int):intsOf [.int .i64 a,.int .i64 b]=some [a,b]:=rfl
end Go.Proofs.Tryz
namespace Go.AL
section
variable {P:Program} {GI:World→Prop}
theorem ops_allN :
  (∀ x0 x1,OE P GI (.mv x0 x1)) ∧
  (∀ x0 x1 x2,OE P GI (.pick x0 x1 x2)) ∧
  (∀ x0 x1,OE P GI (.build x0 x1)) ∧
  (∀ x0 x1 x2 x3,OE P GI (.buildSlice x0 x1 x2 x3)) ∧
  (∀ x0 x1 x2 x3,OE P GI (.load x0 x1 x2 x3)) ∧
  (∀ x0 x1,OE P GI (.loadT x0 x1)) ∧
  (∀ x0 x1 x2 x3,OE P GI (.store x0 x1 x2 x3)) ∧
  (∀ x0 x1 x2,OE P GI (.bin x0 x1 x2)) ∧
  (∀ x0 x1 x2,OE P GI (.eqB x0 x1 x2)) ∧
  (∀ x0 x1 x2 x3,OE P GI (.eqs x0 x1 x2 x3)) ∧
  (∀ x0 x1 x2 x3 x4,OE P GI (.indexA x0 x1 x2 x3 x4)) ∧
  (∀ x0,OE P GI (.bstr x0)) ∧
  (∀ x0,OE P GI (.buildF x0)) ∧
  (∀ x0 x1 x2,OE P GI (.indexF x0 x1 x2)) ∧
  (∀ x0 x1 x2 x3,OE P GI (.lookup x0 x1 x2 x3)) ∧
  (∀ x0,OE P GI (.not x0)) ∧
  (∀ x0 x1,OE P GI (.conv x0 x1)) ∧
  (∀ x0 x1,OE P GI (.iface x0 x1)) ∧
  (∀ x0 x1 x2,OE P GI (.mkf x0 x1 x2)) ∧
  (∀ x0 x1 x2,OE P GI (.sliceS x0 x1 x2)) ∧
  (∀ x0 x1 x2 x3,OE P GI (.sliceL x0 x1 x2 x3)) ∧
  (∀ x0 x1,OE P GI (.sliceR x0 x1)) ∧
  (∀ x0 x1,OE P GI (.fieldAddr x0 x1)) ∧
  (∀ x0 x1 x2,OE P GI (.indexAddr x0 x1 x2)) ∧
  (∀ x0 x1,OE P GI (.indexS x0 x1)) ∧
  (∀ x0 x1,OE P GI (.extract x0 x1)) ∧
  (∀ x0,OE P GI (.lenS x0)) ∧
  (∀ x0,OE P GI (.lenL x0)) ∧
  (∀ x0 x1,OE P GI (.isNil x0 x1)) ∧
  (∀ x0,OE P GI (.empty x0)) ∧
  (∀ x0 x1,OE P GI (.max x0 x1)) ∧
  (∀ x0 x1,OE P GI (.min x0 x1)) ∧
  (∀ x0 x1 x2,OE P GI (.assert x0 x1 x2)):=by
 refine ⟨?_,?_,?_,?_,?_,?_,?_,?_,?_,?_,?_,?_,?_,?_,?_,?_,?_,?_,?_,?_,?_,?_,?_,?_,?_,?_,?_,?_,?_,?_,?_,?_,?_⟩<;>intros<;>intro d<;>intros<;>rfl
theorem dops_allN :
  (∀ x0 x1,DE P GI (.mv x0 x1)) ∧
  (∀ x0 x1 x2,DE P GI (.pick x0 x1 x2)) ∧
  (∀ x0 x1,DE P GI (.build x0 x1)) ∧
  (∀ x0 x1 x2 x3,DE P GI (.buildSlice x0 x1 x2 x3)) ∧
  (∀ x0 x1 x2 x3,DE P GI (.load x0 x1 x2 x3)) ∧
  (∀ x0 x1,DE P GI (.loadT x0 x1)) ∧
  (∀ x0 x1 x2 x3,DE P GI (.store x0 x1 x2 x3)) ∧
  (∀ x0 x1 x2,DE P GI (.bin x0 x1 x2)) ∧
  (∀ x0 x1 x2,DE P GI (.eqB x0 x1 x2)) ∧
  (∀ x0 x1 x2 x3,DE P GI (.eqs x0 x1 x2 x3)) ∧
  (∀ x0 x1 x2 x3 x4,DE P GI (.indexA x0 x1 x2 x3 x4)) ∧
  (∀ x0,DE P GI (.bstr x0)) ∧
  (∀ x0,DE P GI (.buildF x0)) ∧
  (∀ x0 x1 x2,DE P GI (.indexF x0 x1 x2)) ∧
  (∀ x0 x1 x2 x3,DE P GI (.lookup x0 x1 x2 x3)) ∧
  (∀ x0,DE P GI (.not x0)) ∧
  (∀ x0 x1,DE P GI (.conv x0 x1)) ∧
  (∀ x0 x1,DE P GI (.iface x0 x1)) ∧
  (∀ x0 x1 x2,DE P GI (.mkf x0 x1 x2)) ∧
  (∀ x0 x1 x2,DE P GI (.sliceS x0 x1 x2)) ∧
  (∀ x0 x1 x2 x3,DE P GI (.sliceL x0 x1 x2 x3)) ∧
  (∀ x0 x1,DE P GI (.sliceR x0 x1)) ∧
  (∀ x0 x1,DE P GI (.fieldAddr x0 x1)) ∧
  (∀ x0 x1 x2,DE P GI (.indexAddr x0 x1 x2)) ∧
  (∀ x0 x1,DE P GI (.indexS x0 x1)) ∧
  (∀ x0 x1,DE P GI (.extract x0 x1)) ∧
  (∀ x0,DE P GI (.lenS x0)) ∧
  (∀ x0,DE P GI (.lenL x0)) ∧
  (∀ x0 x1,DE P GI (.isNil x0 x1)) ∧
  (∀ x0,DE P GI (.empty x0)) ∧
  (∀ x0 x1,DE P GI (.max x0 x1)) ∧
  (∀ x0 x1,DE P GI (.min x0 x1)) ∧
  (∀ x0 x1 x2,DE P GI (.assert x0 x1 x2)):=by
 refine ⟨?_,?_,?_,?_,?_,?_,?_,?_,?_,?_,?_,?_,?_,?_,?_,?_,?_,?_,?_,?_,?_,?_,?_,?_,?_,?_,?_,?_,?_,?_,?_,?_,?_⟩<;>intros<;>intro d<;>intros<;>rfl
theorem ops_ap (x0 x1 x2 x3 x4 x5):OE P GI (.append x0 x1 x2 x3 x4 x5):=ops_all.2.2.2.2.2.2.2.2.2.2.2.2.2.2.2.2.2.2.2.2.2.2.2.2.2.2.2.2.2.2.1 x0 x1 x2 x3 x4 x5
theorem dops_ap (x0 x1 x2 x3 x4 x5):DE P GI (.append x0 x1 x2 x3 x4 x5):=dops_all.2.2.2.2.2.2.2.2.2.2.2.2.2.2.2.2.2.2.2.2.2.2.2.2.2.2.2.2.2.2.1 x0 x1 x2 x3 x4 x5
def grow (e:Nat) (l:List AV):AV := .slice (if l=[] then .nil else .own e) l
theorem grow_nil (e:Nat):grow e [] = .slice .nil []:=by unfold grow;rw [if_pos rfl]
theorem appV {S:Slots} {H:Boxes} {t e size cap i j:Nat} {l:List AV} {v:AV} {o:Ow} (hi:S i=grow e l) (hj:S j = .slice o [v]) (hv:elemsOK size [v]=true) (hl:elemsOK size l=true) (hn:l.length+1 < 1048576) :
  ∃ dm,(dm=none∨dm=some i)∧apure S H (.append t e size cap (.t i) (.t j))=some { v:=grow e (l++[v]),dm:=dm }:=by
 have ei:ev S (.t i)=grow e l:=hi
 have ej:ev S (.t j) = .slice o [v]:=hj
 cases l with
 |nil =>
  refine ⟨none,.inl rfl,?_⟩
  simp only [apure]
  rw [ei,ej,grow_nil]
  simp [hv,grow]
 |cons x l =>
  refine ⟨some i,.inr rfl,?_⟩
  have hn':l.length+1+1 < 1048576:=by simpa using hn
  simp only [apure]
  rw [ei,ej]
  simp [grow,hv,hl,tmpOf,hn']
theorem eff_keep {S:Slots} {i d:Nat} {dm:Option Nat} (hd:dm=none∨dm=some i) (v:AV):(Eff.S { v:=v,dm:=dm } S (some d)) d=v∧∀ k,k≠d→k≠i→Eff.S { v:=v,dm:=dm } S (some d) k=S k:=by
 rcases hd with rfl | rfl
 ·refine ⟨by simp [Eff.S,putD,upd],fun k h1 _=>by simp [Eff.S,putD,upd,h1]⟩
 ·refine ⟨by simp [Eff.S,putD,upd],fun k h1 h2=>by simp [Eff.S,putD,upd,h1,h2]⟩
theorem aops_app {K:Slots→Boxes→Prop} {Qp:AV→Prop} {S:Slots} {H:Boxes} {t e size cap d i j:Nat} {rest:List AOpr} (l:List AV) (v:AV) (o:Ow) (hi:S i=grow e l) (hj:S j = .slice o [v]) (hv:elemsOK size [v]=true) (hl:elemsOK size l=true) (hn:l.length+1 < 1048576)
  (h:∀ S',S' d=grow e (l++[v])→(∀ k,k≠d→k≠i→S' k=S k)→aops P GI rest K Qp S' H):aops P GI (⟨some d,none,.append t e size cap (.t i) (.t j)⟩::rest) K Qp S H:=by
 obtain ⟨dm,hdm,hap⟩:=appV (t:=t) (cap:=cap) (H:=H) hi hj hv hl hn
 obtain ⟨k1,k2⟩:=eff_keep (S:=S) (d:=d) hdm (grow e (l++[v]))
 rw [ops_all.2.2.2.2.2.2.2.2.2.2.2.2.2.2.2.2.2.2.2.2.2.2.2.2.2.2.2.2.2.2.1]
 simp only [awanted,hap]
 exact h _ k1 k2
theorem dops_app {K:Slots→Boxes→Prop} {S:Slots} {H:Boxes} {t e size cap d i j:Nat} {rest:List AOpr} (l:List AV) (v:AV) (o:Ow) (hi:S i=grow e l) (hj:S j = .slice o [v]) (hv:elemsOK size [v]=true) (hl:elemsOK size l=true) (hn:l.length+1 < 1048576)
  (h:∀ S',S' d=grow e (l++[v])→(∀ k,k≠d→k≠i→S' k=S k)→dops P GI rest K S' H):dops P GI (⟨some d,none,.append t e size cap (.t i) (.t j)⟩::rest) K S H:=by
 obtain ⟨dm,hdm,hap⟩:=appV (t:=t) (cap:=cap) (H:=H) hi hj hv hl hn
 obtain ⟨k1,k2⟩:=eff_keep (S:=S) (d:=d) hdm (grow e (l++[v]))
 rw [dops_all.2.2.2.2.2.2.2.2.2.2.2.2.2.2.2.2.2.2.2.2.2.2.2.2.2.2.2.2.2.2.1]
 simp only [awanted,hap]
 exact h _ k1 k2
theorem elems_map {α:Type} {f:α→AV} {size:Nat} {l:List α} (h:∀ a,(f a).storable=true∧(f a).cells.length=size):elemsOK size (l.map f)=true:=by
 simp [elemsOK,h]
end
end Go.AL
namespace Go.Proofs.Tryz
open Go Go.AL Go.RowKit Go.Proofs
variable {GI:World→Prop}
theorem ends_ok2 (l:List End):elemsOK 2 (l.map endA)=true:=elems_map fun a=>⟨rfl,rfl⟩
end Go.Proofs.Tryz
namespace Go.Proofs.Tryz
open Go Go.AL Go.RowKit Go.Proofs
attribute [local simp] awp_all qs_all ops_allN dops_allN ops_nil dops_nil ops_call ops_callv ops_alloc ops_box dops_call dops_alloc kO_eq kD_eq awanted apure ev Eff.S Eff.H tmpOf upd putD AL.start AV.dem AV.cells AV.storable AV.scells splice scrub abin loadA HR.okB post ares aress ares1 AV.out AV.isData ints_len ints_get fz fz1 AV.vw AV.vw1 boxy vI int undefA assignQ thenQ blockQ seqQ panQ prol prolH allocOf
variable {GI:World→Prop}
def endsG (l:List End):AV:=grow 116 (l.map endA)
theorem endsW_at {s:Sheet} {out:List Int} {n:Nat} (h:n < s.words.length) (hc:out.contains (n:Int)=false):endsW s out n=(s.words[n].cuts.map fun k=>((n:Int),k))++[((n:Int),(s.words[n].signs.length:Int))]:=by
 unfold endsW
 rw [hc,List.getElem?_eq_getElem h]
 rfl
theorem endsW_out {s:Sheet} {out:List Int} {n:Nat} (hc:out.contains (n:Int)=true):endsW s out n=[]:=by
 unfold endsW
 rw [hc]
 rfl
def endsP (s:Sheet) (out:List Int) (i:Nat):List End:=(List.range i).flatMap (endsW s out)
theorem endsP_succ (s:Sheet) (out:List Int) (i:Nat):endsP s out (i+1)=endsP s out i++endsW s out i:=by unfold endsP;rw [List.range_succ,List.flatMap_append,List.flatMap_singleton]
set_option maxHeartbeats 1000000 in
theorem ac145 (hG:Stable GI) (s:Sheet) (hs:Slim s) (out:List Int) (ho:out.length < 1000000):AC prog GI 145 [sheetA s,vI out] (.ret (.slice .view (endsA (endsL s out)))):=by
 have q3:=hs.words
 refine AC.as_view (o:=if endsL s out=[] then .nil else .view) ?_
 refine AC.of_body hG hmix func145 rfl ntmps145 (by simp) (ac:=c145) (by kernel_rfl) ?_
 simp [c145,ops_ap,dops_ap,sheetA,sheetL]
 refine awp_loop 12 s.words.length (fun i S H=>S 1=vI out∧S 2 = .box 2 0∧H 2=some (sheetL s)∧S 11 = .int .i64 s.words.length∧S 12 = .int .i64 (i:Nat)∧S 5=endsG (endsP s out i)∧(endsP s out i).length≤1001 * i) (fun i S H h=>h.2.2.2.2.1) ⟨by simp [ops_ap,dops_ap],by simp [ops_ap,dops_ap],by simp [ops_ap,dops_ap,sheetL],by simp [ops_ap,dops_ap],by simp [ops_ap,dops_ap],by simp [ops_ap,dops_ap,endsG,endsP,grow],by simp [endsP]⟩ ?_
 rintro i hi S H ⟨s1,s2,e2,s11,s12,s5,hl⟩
 by_cases hlt:i < s.words.length
 case neg =>
  have hil:i=s.words.length:=by omega
  subst hil
  have s5:S 5=endsG (endsL s out):=s5
  by_cases h0:endsL s out=[]
  ·rw [h0] at s5
   have s5':S 5 = .slice .nil []:=by rw [s5];simp [endsG,grow]
   simp [ops_ap,dops_ap,s1,s2,e2,s11,s12,s5',h0,endsA]
  ·have s5':S 5 = .slice (.own 116) ((endsL s out).map endA):=by rw [s5];simp [endsG,grow,h0]
   simp [ops_ap,dops_ap,s1,s2,e2,s11,s12,s5',h0,endsA]
 have hw:IntKind.i64.wrap ((i:Int)+1)=i+1:=wrapI (by omega)
 have hcut:=hs.cuts _ (List.getElem_mem hlt)
 have hr:=endsP_succ s out i
 generalize hL:endsP s out i=L at s5 hl hr
 simp [ops_ap,dops_ap,s1,s2,e2,s11,s12,hlt]
 refine ⟨_,by kernel_rfl,ac129 hG out ho i,fun _=>rfl,?_⟩
 cases hc:out.contains (i:Int)
 case true =>
  have hr':endsP s out (i+1)=L:=by rw [hr,endsW_out hc,List.append_nil]
  rw [hr']
  simp [ops_ap,dops_ap,s1,s2,e2,s11,s12,s5,hw,hlt]
  omega
 have hew:=endsW_at hlt hc
 simp [ops_ap,dops_ap,s1,s2,e2,s11,s12,hlt,sheetL,wordA]
 refine awp_loop 25 s.words[i].cuts.length (fun j S H=>S 1=vI out∧S 2 = .box 2 0∧H 2=some (sheetL s)∧S 11 = .int .i64 s.words.length∧S 12 = .int .i64 (i:Nat)∧S 6 = .int .i64 (i:Nat)∧S 23=vI s.words[i].cuts∧S 24 = .int .i64 s.words[i].cuts.length∧S 25 = .int .i64 (j:Nat)∧S 5=endsG (L++(s.words[i].cuts.take j).map fun k=>((i:Int),k))) (fun i S H h=>h.2.2.2.2.2.2.2.2.1) ⟨by simp [ops_ap,dops_ap,s1],by simp [ops_ap,dops_ap,s2],by simp [ops_ap,dops_ap,e2,sheetL],by simp [ops_ap,dops_ap,s11],by simp [ops_ap,dops_ap,s12],by simp [ops_ap,dops_ap],by simp [ops_ap,dops_ap],by simp [ops_ap,dops_ap],by simp [ops_ap,dops_ap],by simp [ops_ap,dops_ap,s5]⟩ ?_
 clear s1 s2 e2 s11 s12 s5 S H
 rintro j hj S H ⟨s1,s2,e2,s11,s12,s6,s23,s24,s25,s5⟩
 by_cases hjt:j < s.words[i].cuts.length
 ·have hwj:IntKind.i64.wrap ((j:Int)+1)=j+1:=wrapI (by omega)
  have htk:s.words[i].cuts.take (j+1)=s.words[i].cuts.take j++[s.words[i].cuts[j]]:=List.take_succ_eq_append_getElem hjt
  have hlen:(L++(s.words[i].cuts.take j).map fun k=>((i:Int),k)).length < 1040000:=by
   simp only [List.length_append,List.length_map,List.length_take];omega
  rw [htk,List.map_append,← List.append_assoc]
  generalize (L++(s.words[i].cuts.take j).map fun k=>((i:Int),k))=M at s5 hlen ⊢
  have hok1:elemsOK 2 [AV.agg [AV.int .i64 (i:Nat),AV.int .i64 s.words[i].cuts[j]]]=true:=rfl
  simp [s1,s2,e2,s11,s12,s6,s23,s24,s25,hjt,hok1]
  refine aops_app (M.map endA) (endA ((i:Int),s.words[i].cuts[j])) (.own 116) (by simp [s5,endsG]) (by simp [endA]) rfl (ends_ok2 _) (by rw [List.length_map];omega) ?_
  intro S' sd hk
  simp [sd,hk,s1,s2,e2,s11,s12,s6,s23,s24,s25,hwj,hjt,endsG]
 ·have hjl:j=s.words[i].cuts.length:=by omega
  subst hjl
  rw [List.take_length] at s5
  have hlen:(L++s.words[i].cuts.map fun k=>((i:Int),k)).length≤1001 * i+1000:=by
   simp only [List.length_append,List.length_map];omega
  rw [hr,hew,← List.append_assoc]
  generalize (L++s.words[i].cuts.map fun k=>((i:Int),k))=M at s5 hlen ⊢
  have hok1:elemsOK 2 [AV.agg [AV.int .i64 (i:Nat),AV.int .i64 s.words[i].signs.length]]=true:=rfl
  simp [s1,s2,e2,s11,s12,s6,s23,s24,s25,hlt,hok1,sheetL,wordA]
  refine aops_app (M.map endA) (endA ((i:Int),(s.words[i].signs.length:Int))) (.own 116) (by simp [s5,endsG]) (by simp [endA]) rfl (ends_ok2 _) (by rw [List.length_map];omega) ?_
  intro S' sd hk
  simp [sd,hk,s1,s2,e2,s11,s12,hw,hlt,endsG,sheetL]
  omega
end Go.Proofs.Tryz
namespace Go.Proofs.Tryz
open Go Go.AL Go.RowKit Go.Proofs
attribute [local simp] awp_all qs_all ops_all dops_all ops_nil dops_nil ops_call ops_callv ops_alloc ops_box dops_call dops_alloc kO_eq kD_eq awanted apure ev Eff.S Eff.H tmpOf upd putD AL.start AV.dem AV.cells AV.storable AV.scells splice scrub abin loadA HR.okB post ares aress ares1 AV.out AV.isData ints_len ints_get fz fz1 AV.vw AV.vw1 boxy vI int undefA assignQ thenQ blockQ seqQ panQ prol prolH allocOf
variable {GI:World→Prop}
end Go.Proofs.Tryz
namespace Go.Proofs.Tryz
open Go Go.AL Go.RowKit Go.Proofs
attribute [local simp] awp_all qs_all ops_all dops_all ops_nil dops_nil ops_call ops_callv ops_alloc ops_box dops_call dops_alloc kO_eq kD_eq awanted apure ev Eff.S Eff.H tmpOf upd putD AL.start AV.dem AV.cells AV.storable AV.scells splice scrub abin loadA HR.okB post ares aress ares1 AV.out AV.isData ints_len ints_get fz fz1 AV.vw AV.vw1 boxy vI int undefA assignQ thenQ blockQ seqQ panQ prol prolH allocOf
variable {GI:World→Prop}
end Go.Proofs.Tryz
namespace Go.Proofs.Tryz
open Go.AL
def lenW (s:Sheet) (w:Nat):Nat:=match s.words[w]? with | some x=>x.signs.length | none=>0
theorem lenW_eq {s:Sheet} {w:Nat} (h:w < s.words.length):lenW s w=s.words[w].signs.length:=by unfold lenW;rw [List.getElem?_eq_getElem h]
def seg (w f t:Nat):List (Nat×Nat):=(List.range' f (t - f)).map fun i=>(w,i)
def rowN (s:Sheet) (out:List Int):Nat→Nat→Nat→Nat→List (Nat×Nat)
 |0,w,f,t=>seg w f t
 |d+1,w,f,t=>(if out.contains (w:Int) then [] else seg w f (lenW s w))++rowN s out d (w+1) 0 t
def rowG (s:Sheet) (out:List Int) (a e:Nat×Nat):List (Nat×Nat):=rowN s out (e.1 - a.1) a.1 a.2 e.2
theorem seg_nil {w f t:Nat} (h:t≤f):seg w f t=[]:=by
 unfold seg
 rw [show t - f=0 by omega];rfl
theorem seg_cons {w f t:Nat} (h:f < t):seg w f t=(w,f)::seg w (f+1) t:=by
 unfold seg
 rw [show t - f=(t - (f+1))+1 by omega,List.range'_succ];rfl
theorem seg_snoc {w f t:Nat} (h:f≤t):seg w f (t+1)=seg w f t++[(w,t)]:=by
 unfold seg
 rw [show t+1 - f=(t - f)+1 by omega,List.range'_concat,List.map_append]
 simp only [List.map_cons,List.map_nil,Nat.one_mul]
 rw [show f+(t - f)=t by omega]
theorem seg_len {w f t:Nat}:(seg w f t).length=t - f:=by simp [seg]
theorem mem_seg {w f t:Nat} {g:Nat×Nat}:g∈seg w f t↔g.1=w∧f≤g.2∧g.2 < t:=by
 unfold seg
 rw [List.mem_map]
 simp only [List.mem_range'_1]
 constructor
 ·rintro ⟨i,hi,rfl⟩;exact ⟨rfl,hi.1,by have:=hi.2;show i < t;omega⟩
 ·rintro ⟨h1,h2,h3⟩;exact ⟨g.2,by omega,by rw [← h1]⟩
theorem rowG_self {s:Sheet} {out:List Int} {w f t:Nat} (h:t≤f):rowG s out (w,f) (w,t)=[]:=by
 unfold rowG
 simp only [Nat.sub_self]
 exact seg_nil h
theorem rowG_last {s:Sheet} {out:List Int} {w f t:Nat}:rowG s out (w,f) (w,t)=seg w f t:=by
 unfold rowG
 simp only [Nat.sub_self]
 rfl
theorem rowG_word {s:Sheet} {out:List Int} {w f:Nat} {e:Nat×Nat} (h:w < e.1):rowG s out (w,f) e=(if out.contains (w:Int) then [] else seg w f (lenW s w))++rowG s out (w+1,0) e:=by
 unfold rowG
 simp only
 rw [show e.1 - w=(e.1 - (w+1))+1 by omega]
 rfl
theorem rowG_out {s:Sheet} {out:List Int} {w f:Nat} {e:Nat×Nat} (h:w < e.1) (hc:out.contains (w:Int)=true):rowG s out (w,f) e=rowG s out (w+1,0) e:=by
 rw [rowG_word h,if_pos hc,List.nil_append]
theorem rowG_full {s:Sheet} {out:List Int} {w f:Nat} {e:Nat×Nat} (h:w < e.1) (hf:lenW s w≤f):rowG s out (w,f) e=rowG s out (w+1,0) e:=by
 rw [rowG_word h]
 split
 ·rfl
 ·rw [seg_nil hf];rfl
theorem rowG_go {s:Sheet} {out:List Int} {w f:Nat} {e:Nat×Nat} (h:w < e.1∧out.contains (w:Int)=false∧f < lenW s w∨w=e.1∧f < e.2):rowG s out (w,f) e=(w,f)::rowG s out (w,f+1) e:=by
 rcases h with ⟨h,hc,hf⟩ | ⟨h,hf⟩
 ·rw [rowG_word h,rowG_word h,hc]
  simp only [Bool.false_eq_true,if_false]
  rw [seg_cons hf];rfl
 ·obtain ⟨ew,et⟩:=e
  simp only at h hf
  subst h
  rw [rowG_last,rowG_last,seg_cons hf]
theorem rowN_len {s:Sheet} {out:List Int} {b:Nat} (hb:∀ w,lenW s w≤b):∀ (d w f t:Nat),t≤b→(rowN s out d w f t).length≤(d+1) * b
 |0,w,f,t,h=>by
  unfold rowN
  rw [seg_len];omega
 |d+1,w,f,t,h=>by
  unfold rowN
  rw [List.length_append]
  have h1:=rowN_len (out:=out) hb d (w+1) 0 t h
  have h2:(if out.contains (w:Int) then [] else seg w f (lenW s w)).length≤b:=by
   split
   ·simp
   ·rw [seg_len];have:=hb w;omega
  have:(d+1+1) * b=(d+1) * b+b:=Nat.succ_mul _ _
  omega
theorem rowN_mem {s:Sheet} {out:List Int}:∀ (d w f t:Nat) {g:Nat×Nat},g∈rowN s out d w f t→(g.1=w+d∧g.2 < t)∨(w≤g.1∧g.1 < w+d∧g.2 < lenW s g.1)
 |0,w,f,t,g,h=>by
  have:=mem_seg.1 h
  left;omega
 |d+1,w,f,t,g,h=>by
  unfold rowN at h
  rcases List.mem_append.1 h with h | h
  ·split at h
   ·cases h
   ·have:=mem_seg.1 h
    right
    rw [this.1];omega
  ·rcases rowN_mem d (w+1) 0 t h with h | h
   ·left;omega
   ·right;omega
theorem rowN_end {s:Sheet} {out:List Int}:∀ (d w f t:Nat),(d=0→f < t)→0 < t→(rowN s out d w f t).getLast? = some (w+d,t - 1)
 |0,w,f,t,h,h'=>by
  have h:=h rfl
  unfold rowN
  obtain ⟨t,rfl⟩:∃ t',t=t'+1:=⟨t - 1,by omega⟩
  rw [seg_snoc (by omega)]
  simp
 |d+1,w,f,t,h,h'=>by
  unfold rowN
  have:=rowN_end (s:=s) (out:=out) d (w+1) 0 t (fun _=>h') h'
  rw [List.getLast?_append,this]
  show some (w+1+d,t - 1)=some (w+(d+1),t - 1)
  rw [show w+1+d=w+(d+1) by omega]
def nE (e:End):Nat×Nat:=(e.1.toNat,e.2.toNat)
def aft (es:List End):Nat→Nat×Nat
 |0=>(0,0)
 |i+1=>match es[i]? with | some e=>nE e | none=>(0,0)
def rowI (s:Sheet) (out:List Int) (es:List End) (i:Nat):List (Nat×Nat):=match es[i]? with | some e=>rowG s out (aft es i) (nE e) | none=>[]
def cutI (s:Sheet) (es:List End) (i:Nat):Bool:=match es[i]? with | some e=>decide (e.2 < (lenW s e.1.toNat:Int)) | none=>false
structure Good (s:Sheet) (out:List Int) (es:List End):Prop where
 one:∀ i (h:i < es.length),0≤es[i].1∧es[i].1 < s.words.length∧out.contains es[i].1=false∧1≤es[i].2∧es[i].2≤lenW s es[i].1.toNat
 rise:∀ i (h:i+1 < es.length),es[i].1 < es[i+1].1∨es[i].1=es[i+1].1∧es[i].2 < es[i+1].2
theorem sheetI_wordI {s:Sheet} (h:sheetI s=true) {w:Word} (hw:w∈s.words):wordI s w=true:=by
 unfold sheetI endI at h
 simp only [Bool.and_eq_true,Bool.not_eq_true',List.any_eq_false] at h
 have:=h.2.1.1.2 w hw
 simpa using this
structure WordF (s:Sheet) (w:Word):Prop where
 len1:1≤w.signs.length
 len6:w.signs.length≤6
 sign:∀ n∈w.signs,0≤n∧n < s.widths.length
 cuts:risesI w.cuts 1 (w.signs.length - 1)=true
theorem wordF {s:Sheet} (h:sheetI s=true) {w:Word} (hw:w∈s.words):WordF s w:=by
 have h:=sheetI_wordI h hw
 unfold wordI at h
 simp only [Bool.and_eq_true,Bool.not_eq_true',List.any_eq_false,inI,decide_eq_true_eq] at h
 obtain ⟨⟨⟨h1,h2⟩,h3⟩,h4⟩:=h
 refine ⟨by omega,by omega,fun n hn => ?_,h4⟩
 have:=h3 n hn
 simp [signI,inI] at this
 omega
theorem good_of {s:Sheet} {out:List Int} {es:List End} (hs:sheetI s=true) (h:setR s out es=true):Good s out es:=by
 unfold setR at h
 simp only [Bool.and_eq_true] at h
 obtain ⟨_,h,_⟩:=h
 rw [adjI_iff] at h
 obtain ⟨h1,h2⟩:=h
 refine ⟨fun i hi => ?_,fun i hi => ?_⟩
 ·have:=h1 _ (List.getElem_mem hi)
  unfold okE inI at this
  simp only [Bool.and_eq_true,decide_eq_true_eq,Bool.not_eq_true'] at this
  obtain ⟨⟨⟨a1,a2⟩,a3⟩,a4⟩:=this
  have hlt:es[i].1.toNat < s.words.length:=by omega
  rw [List.getElem?_eq_getElem hlt] at a4
  have hw:=wordF hs (List.getElem_mem hlt)
  rw [lenW_eq hlt]
  refine ⟨a1,by omega,a3,?_⟩
  simp only [Bool.or_eq_true,beq_iff_eq] at a4
  rcases a4 with a4 | a4
  ·have:=hw.len1;omega
  ·have hc:=hw.cuts
   unfold risesI at hc
   rw [adjI_iff] at hc
   have:=hc.1 _ (by simpa using a4)
   simp [inI] at this
   omega
 ·have:=h2 i hi
  rw [soonerI_iff] at this
  exact this
theorem aft_le {s:Sheet} {out:List Int} {es:List End} (g:Good s out es) {i:Nat} (h:i < es.length):(aft es i).1 < (nE es[i]).1∨(aft es i).1=(nE es[i]).1∧(aft es i).2 < (nE es[i]).2:=by
 cases i with
 |zero =>
  have:=g.one 0 h
  show 0 < es[0].1.toNat∨0=es[0].1.toNat∧0 < es[0].2.toNat
  omega
 |succ i =>
  have h1:=g.one i (by omega)
  have h2:=g.one (i+1) h
  have h3:=g.rise i h
  have e:aft es (i+1)=nE es[i]:=by
   show (match es[i]? with | some e=>nE e | none=>(0,0))=_
   rw [List.getElem?_eq_getElem (by omega)]
  rw [e]
  show es[i].1.toNat < es[i+1].1.toNat∨es[i].1.toNat=es[i+1].1.toNat∧es[i].2.toNat < es[i+1].2.toNat
  omega
theorem rowI_eq {s:Sheet} {out:List Int} {es:List End} {i:Nat} (h:i < es.length):rowI s out es i=rowG s out (aft es i) (nE es[i]):=by
 unfold rowI;rw [List.getElem?_eq_getElem h]
theorem cutI_eq {s:Sheet} {es:List End} {i:Nat} (h:i < es.length):cutI s es i=decide (es[i].2 < (lenW s es[i].1.toNat:Int)):=by
 unfold cutI;rw [List.getElem?_eq_getElem h]
theorem rowI_last {s:Sheet} {out:List Int} {es:List End} (g:Good s out es) {i:Nat} (h:i < es.length):(rowI s out es i).getLast? = some ((nE es[i]).1,(nE es[i]).2 - 1):=by
 have h1:=aft_le g h
 have h2:=g.one i h
 rw [rowI_eq h]
 unfold rowG
 have h3:0 < (nE es[i]).2:=by show 0 < es[i].2.toNat;omega
 rw [rowN_end _ _ _ _ (fun hd=>by omega) h3]
 congr 2
 omega
theorem rowI_ne {s:Sheet} {out:List Int} {es:List End} (g:Good s out es) {i:Nat} (h:i < es.length):rowI s out es i≠[]:=by
 intro e
 have:=rowI_last g h
 rw [e] at this;cases this
theorem rowI_mem {s:Sheet} {out:List Int} {es:List End} (g:Good s out es) {i:Nat} {x:Nat×Nat} (hx:x∈rowI s out es i):x.1 < s.words.length∧x.2 < lenW s x.1:=by
 by_cases h:i < es.length
 case neg =>
  unfold rowI at hx
  rw [List.getElem?_eq_none (by omega)] at hx
  cases hx
 have h1:=aft_le g h
 have h2:=g.one i h
 rw [rowI_eq h] at hx
 have e1:(nE es[i]).1=es[i].1.toNat:=rfl
 have e2:(nE es[i]).2=es[i].2.toNat:=rfl
 rcases rowN_mem _ _ _ _ hx with ⟨h3,h4⟩ | ⟨h3,h4,h5⟩
 ·have h5:x.1=es[i].1.toNat:=by omega
  rw [h5]
  refine ⟨by omega,by omega⟩
 ·exact ⟨by omega,h5⟩
theorem rowI_len {s:Sheet} {out:List Int} {es:List End} (hs:sheetI s=true) (g:Good s out es) (i:Nat):(rowI s out es i).length≤24:=by
 by_cases h:i < es.length
 case neg =>
  unfold rowI
  rw [List.getElem?_eq_none (by omega)]
  simp
 have h2:=g.one i h
 have hb:∀ w,lenW s w≤6:=by
  intro w
  unfold lenW
  split
  ·rename_i x hx
   obtain ⟨hlt,rfl⟩:=List.getElem?_eq_some_iff.1 hx
   exact (wordF hs (List.getElem_mem hlt)).len6
  ·omega
 rw [rowI_eq h]
 unfold rowG
 have h3:=rowN_len (s:=s) (out:=out) hb ((nE es[i]).1 - (aft es i).1) (aft es i).1 (aft es i).2 (nE es[i]).2 (by have:=hb es[i].1.toNat;show es[i].2.toNat≤6;omega)
 have h4:s.words.length≤4:=by
  unfold sheetI inI at hs
  simp only [Bool.and_eq_true,decide_eq_true_eq] at hs
  omega
 have h5:(nE es[i]).1 < s.words.length:=by show es[i].1.toNat < _;omega
 have h6:((nE es[i]).1 - (aft es i).1+1) * 6≤4 * 6:=Nat.mul_le_mul_right _ (by omega)
 omega
end Go.Proofs.Tryz
namespace Go.Proofs.Tryz
open Go.AL
abbrev Lt:=Int×Int
def letS (s:Sheet) (g:Nat×Nat):Lt:=((g.1:Int),match s.words[g.1]? with | some w=>w.signs[g.2]?.getD 0 | none=>0)
def betw (lo hi st:Int):Int:=lo+((hi - lo) * st).tdiv 10
def spanS (s:Sheet) (a b:Lt):Int×Int:=if a.1=b.1 then match s.pairs.find? fun p=>p.l==a.2 && p.r==b.2 with
 |some p=>(p.lo,p.hi)
 |none=>(s.olo,s.ohi)
 else (s.glo,s.ghi)
def spc (s:Sheet) (st:Int) (a b:Lt):Int:=betw (spanS s a b).1 (spanS s a b).2 st
def wdL (s:Sheet) (a:Lt):Int:=if a.2 < 0 then s.hyphen else s.widths[a.2.toNat]?.getD 0
def gapsS (s:Sheet) (st:Int) (l:List Lt):Nat→Int
 |0=>0
 |i+1=>gapsS s st l i+(match l[i]?,l[i+1]? with | some a,some b=>spc s st a b | _,_=>0)
theorem gapsS_succ {s:Sheet} {st:Int} {l:List Lt} {i:Nat} (h:i+1 < l.length):gapsS s st l (i+1)=gapsS s st l i+spc s st (l[i]'(by omega)) l[i+1]:=by
 show gapsS s st l i+(match l[i]?,l[i+1]? with | some a,some b=>spc s st a b | _,_=>0)=_
 rw [List.getElem?_eq_getElem (by omega),List.getElem?_eq_getElem h]
def letsS (s:Sheet) (l:List Lt):Nat→Int
 |0=>0
 |i+1=>letsS s l i+(match l[i]? with | some a=>wdL s a | none=>0)
theorem letsS_succ {s:Sheet} {l:List Lt} {i:Nat} (h:i < l.length):letsS s l (i+1)=letsS s l i+wdL s l[i]:=by
 show letsS s l i+(match l[i]? with | some a=>wdL s a | none=>0)=_
 rw [List.getElem?_eq_getElem h]
def wideP (s:Sheet) (st:Int) (l:List Lt) (cut:Bool):Int:=(letsS s l l.length+(if cut then s.hyphen else 0))+(gapsS s st l (l.length - 1)+(if cut then betw s.olo s.ohi st else 0))
theorem betw_bounds {lo hi st:Int} (h:lo≤hi) (h0:0≤st) (h1:st≤10):lo≤betw lo hi st∧betw lo hi st≤hi:=by
 unfold betw
 have a:0≤(hi - lo) * st:=Int.mul_nonneg (by omega) h0
 have b:(hi - lo) * st≤(hi - lo) * 10:=Int.mul_le_mul_of_nonneg_left h1 (by omega)
 rw [Int.tdiv_eq_ediv_of_nonneg a]
 generalize (hi - lo) * st=x at a b ⊢
 omega
structure SheetF (s:Sheet):Prop where
 widths:∀ n∈s.widths,1≤n∧n≤20
 wlen:s.widths.length≤6
 pairs:∀ p∈s.pairs,0≤p.l∧0≤p.r∧0≤p.lo∧p.lo≤p.hi∧p.hi≤9
 plen:s.pairs.length≤6
 o:0≤s.olo∧s.olo≤s.ohi∧s.ohi≤9
 g:0≤s.glo∧s.glo≤s.ghi∧s.ghi≤20
 hyphen:1≤s.hyphen∧s.hyphen≤20
 words:1≤s.words.length∧s.words.length≤4
 wide:1≤s.wide∧s.wide≤400
 rows:1≤s.rows∧s.rows≤3
theorem sheetF {s:Sheet} (h:sheetI s=true):SheetF s:=by
 unfold sheetI endI spanI inI at h
 simp only [Bool.and_eq_true,decide_eq_true_eq,Bool.not_eq_true',List.any_eq_false,adjI_iff] at h
 obtain ⟨⟨⟨⟨h1,h2⟩,h3⟩,h4,_⟩,⟨⟨⟨⟨⟨h5,h6⟩,h7⟩,h8⟩,_⟩,h9⟩,h10⟩:=h
 refine ⟨fun n hn => ?_,by omega,fun p hp => ?_,h2,by omega,by omega,by omega,by omega,h9,h10⟩
 ·have:=h5 n hn
  simpa using this
 ·have:=h4 p hp
  unfold pairI signI spanI inI at this
  simp only [Bool.and_eq_true,decide_eq_true_eq] at this
  omega
theorem spanS_bounds {s:Sheet} (h:SheetF s) (a b:Lt):0≤(spanS s a b).1∧(spanS s a b).1≤(spanS s a b).2∧(spanS s a b).2≤20:=by
 unfold spanS
 split
 ·split
  ·rename_i p hp
   have:=h.pairs p (List.mem_of_find?_eq_some hp)
   simp only;omega
  ·have:=h.o;simp only;omega
 ·have:=h.g;simp only;omega
theorem spc_bounds {s:Sheet} (h:SheetF s) {st:Int} (h0:0≤st) (h1:st≤10) (a b:Lt):0≤spc s st a b∧spc s st a b≤20:=by
 have h2:=spanS_bounds h a b
 have h3:=betw_bounds h2.2.1 h0 h1
 unfold spc;omega
def okL (s:Sheet) (a:Lt):Prop:=0≤a.2∧a.2 < s.widths.length
theorem wdL_bounds {s:Sheet} (h:SheetF s) {a:Lt} (ha:okL s a):1≤wdL s a∧wdL s a≤20:=by
 unfold wdL
 rw [if_neg (by have:=ha.1;omega)]
 have hlt:a.2.toNat < s.widths.length:=by have:=ha.1;have:=ha.2;omega
 rw [List.getElem?_eq_getElem hlt]
 exact h.widths _ (List.getElem_mem hlt)
theorem letsS_bounds {s:Sheet} (h:SheetF s) {l:List Lt} (hl:∀ a∈l,okL s a):∀ {i:Nat},i≤l.length→(i:Int)≤letsS s l i∧letsS s l i≤20 * i
 |0,_=>by simp [letsS]
 |i+1,hi=>by
  rw [letsS_succ (by omega)]
  have:=letsS_bounds h hl (i:=i) (by omega)
  have:=wdL_bounds h (hl _ (List.getElem_mem (show i < l.length by omega)))
  omega
theorem gapsS_bounds {s:Sheet} (h:SheetF s) {st:Int} (h0:0≤st) (h1:st≤10) {l:List Lt}:∀ {i:Nat},i+1≤l.length→0≤gapsS s st l i∧gapsS s st l i≤20 * i
 |0,_=>by simp [gapsS]
 |i+1,hi=>by
  rw [gapsS_succ hi]
  have:=gapsS_bounds h h0 h1 (l:=l) (i:=i) (by omega)
  have:=spc_bounds h h0 h1 (l[i]'(by omega)) (l[i+1]'hi)
  omega
theorem wideP_bounds {s:Sheet} (h:SheetF s) {st:Int} (h0:0≤st) (h1:st≤10) {l:List Lt} (hl:l≠[]) (ho:∀ a∈l,okL s a) (hlen:l.length≤24) (cut:Bool):1≤wideP s st l cut∧wideP s st l cut≤1000:=by
 have hpos:=List.length_pos_iff.2 hl
 unfold wideP
 have:=gapsS_bounds h h0 h1 (l:=l) (i:=l.length - 1) (by omega)
 have:=letsS_bounds h ho (i:=l.length) (by omega)
 have:=betw_bounds h.o.2.1 h0 h1
 have:=h.o
 have:=h.hyphen
 split<;>omega
end Go.Proofs.Tryz
namespace Go.Proofs.Tryz
open Go.AL
def wideI (s:Sheet) (out:List Int) (es:List End) (st:Int) (i:Nat):Int:=wideP s st ((rowI s out es i).map (letS s)) (cutI s es i)
def widthsI (s:Sheet) (out:List Int) (es:List End) (st:Int):List Int:=(List.range es.length).map (wideI s out es st)
def fitI (s:Sheet) (out:List Int) (es:List End) (st:Int):Bool:=decide ((es.length:Int)≤s.rows) && (widthsI s out es st).all fun n=>decide (n≤s.wide)
def downL (p:Int→Bool):Nat→Int
 |0 => -1
 |n+1=>if p n then n else downL p n
def mostI (s:Sheet) (out:List Int) (es:List End):Int:=downL (fitI s out es) 11
theorem letS_ok {s:Sheet} (hs:sheetI s=true) {g:Nat×Nat} (h:g.1 < s.words.length∧g.2 < lenW s g.1):okL s (letS s g):=by
 obtain ⟨h1,h2⟩:=h
 rw [lenW_eq h1] at h2
 unfold letS okL
 simp only
 rw [List.getElem?_eq_getElem h1]
 simp only
 rw [List.getElem?_eq_getElem h2]
 exact (wordF hs (List.getElem_mem h1)).sign _ (List.getElem_mem h2)
section
variable {s:Sheet} {out:List Int} {es:List End}
end
theorem mem_ch {now es:List End}:∀ {all:List End} {m:Nat},all≠[]→all.Nodup→(es∈ch now all m↔∃ t,es=now++t∧t.Sublist all∧t.getLast? = all.getLast? ∧ t.length≤m):=by
 have key:∀ (all:List End),all.Nodup→∀ (now:List End) (m:Nat),(all≠[]→(es∈ch now all m↔∃ t,es=now++t∧t.Sublist all∧t.getLast? = all.getLast? ∧ t.length≤m))∧(all≠[]→(es∈lp now all m↔∃ t,es=now++t∧t.Sublist all∧t.getLast? = all.getLast? ∧ t.length≤m+1)):=by
  intro all
  induction all with
  |nil=>intro _ now m;exact ⟨fun h=>absurd rfl h,fun h=>absurd rfl h⟩
  |cons a r ih =>
   intro hnd
   obtain ⟨hna,hnr⟩:=List.nodup_cons.1 hnd
   have ih:=ih hnr
   have hlp:∀ (now:List End) (m:Nat),es∈lp now (a::r) m↔∃ t,es=now++t∧t.Sublist (a::r)∧t.getLast? = (a::r).getLast? ∧ t.length≤m+1:=by
    intro now m
    unfold lp
    rw [List.mem_append]
    by_cases hr:r=[]
    ·subst hr
     rw [if_pos rfl,List.mem_singleton]
     constructor
     ·rintro (h | h)
      ·exact ⟨[a],h,List.Sublist.refl _,rfl,by simp⟩
      ·unfold lp at h;cases h
     ·rintro ⟨t,h1,h2,h3,h4⟩
      left
      have:t=[a]:=by
       cases h2 with
       |cons _ h=>rw [List.sublist_nil.1 h] at h3;cases h3
       |cons_cons _ h=>rw [List.sublist_nil.1 h]
      rw [h1,this]
    ·rw [if_neg hr]
     have hl:(a::r).getLast? = r.getLast? := by
      cases r with
      |nil=>exact absurd rfl hr
      |cons b r=>rfl
     have h1:(es∈(match m with | 0=>[] | m+1=>lp (now++[a]) r m))↔∃ t,es=now++a::t∧t.Sublist r∧t.getLast? = r.getLast? ∧ t.length≤m:=by
      cases m with
      |zero =>
       constructor
       ·intro h;cases h
       ·rintro ⟨t,_,_,h3,h4⟩
        have:t=[]:=List.length_eq_zero_iff.1 (by omega)
        subst this
        exact absurd (List.getLast?_eq_none_iff.1 h3.symm) hr
      |succ m =>
       simp only
       rw [(ih (now++[a]) m).2 hr]
       simp
     rw [hl]
     refine (or_congr h1 ((ih now m).2 hr)).trans ?_
     constructor
     ·rintro (⟨t,a1,a2,a3,a4⟩ | ⟨t,a1,a2,a3,a4⟩)
      ·refine ⟨a::t,a1,a2.cons_cons _,?_,by simp;omega⟩
       cases t with
       |nil=>exact absurd (List.getLast?_eq_none_iff.1 a3.symm) hr
       |cons b t=>rw [← a3];rfl
      ·exact ⟨t,a1,a2.cons _,a3,a4⟩
     ·rintro ⟨t,a1,a2,a3,a4⟩
      cases a2 with
      |cons _ h=>exact .inr ⟨t,a1,h,a3,a4⟩
      |cons_cons _ h =>
       rename_i t
       left
       refine ⟨t,a1,h,?_,by simpa using a4⟩
       cases t with
       |nil =>
        exfalso
        apply hna
        exact List.mem_of_getLast? a3.symm
       |cons b t=>rw [← a3];rfl
   intro now m
   refine ⟨fun _ => ?_,fun _=>hlp now m⟩
   unfold ch
   rw [if_neg (by simp)]
   cases m with
   |zero =>
    constructor
    ·intro h;cases h
    ·rintro ⟨t,_,_,h3,h4⟩
     have:t=[]:=List.length_eq_zero_iff.1 (by omega)
     subst this
     cases r with
     |nil=>cases h3
     |cons b r=>exact absurd (List.getLast?_eq_none_iff.1 h3.symm) (by simp)
   |succ m=>exact hlp now m
 intro all m h hnd
 exact (key all hnd now m).1 h
end Go.Proofs.Tryz
namespace Go.Proofs.Tryz
open Go Go.AL Go.RowKit Go.Proofs
attribute [local simp] awp_all qs_all ops_all dops_all ops_nil dops_nil ops_call ops_callv ops_alloc ops_box dops_call dops_alloc kO_eq kD_eq awanted apure ev Eff.S Eff.H tmpOf upd putD AL.start AV.dem AV.cells AV.storable AV.scells splice scrub abin loadA HR.okB post ares aress ares1 AV.out AV.isData ints_len ints_get fz fz1 AV.vw AV.vw1 boxy vI int undefA assignQ thenQ blockQ seqQ panQ prol prolH allocOf
variable {GI:World→Prop}
def gA (g:Nat×Nat):AV := .agg [.int .i64 g.1,.int .i64 g.2]
def frontL (s:Sheet):List AV:=sheetL s++[spaces s.pairs]
def frontA (s:Sheet):AV := .agg (frontL s)
def lnA (l:List (Nat×Nat)) (cut:Bool):AV:=lineA ⟨l.map gA,cut⟩
def InS (s:Sheet) (g:Nat×Nat):Prop:=g.1 < s.words.length∧g.2 < lenW s g.1
theorem ac82 (hG:Stable GI) (s:Sheet) {g:Nat×Nat} (h:InS s g):AC prog GI 82 [frontA s,gA g] (.ret (.int .i64 (letS s g).2)):=by
 obtain ⟨h1,h2⟩:=h
 rw [lenW_eq h1] at h2
 have hr:(letS s g).2=s.words[g.1].signs[g.2]:=by unfold letS;simp [List.getElem?_eq_getElem h1,h2]
 rw [hr]
 refine AC.of_body hG hmix func82 rfl ntmps82 (by simp) (ac:=c82) (by kernel_rfl) ?_
 refine awp_cut (fun S H=>S 2 = .box 2 0∧S 3 = .box 3 0∧H 2=some (frontL s)∧H 3=some [.int .i64 g.1,.int .i64 g.2]) (by simp [frontA,frontL,gA,sheetL,spaces]) ?_
 rintro S H ⟨s2,s3,e2,e3⟩
 simp [s2,s3,e2,e3,frontL,sheetL,spaces,h1,h2,wordA]
theorem ac130 (hG:Stable GI) {lo hi st:Int} (h0:0≤lo) (h1:lo≤hi) (h2:hi≤20) (h3:0≤st) (h4:st≤10):AC prog GI 130 [.agg [.int .i64 lo,.int .i64 hi],.int .i64 st] (.ret (.int .i64 (betw lo hi st))):=by
 have hm0:0≤(hi - lo) * st:=Int.mul_nonneg (by omega) h3
 have hm1:(hi - lo) * st≤20 * 10:=Int.mul_le_mul (by omega) h4 h3 (by omega)
 have hb:=betw_bounds h1 h3 h4
 unfold betw at hb
 have w1:IntKind.i64.wrap (hi - lo)=hi - lo:=wrapI (by omega)
 have w2:IntKind.i64.wrap ((hi - lo) * st)=(hi - lo) * st:=wrapI (by omega)
 have w3:IntKind.i64.wrap (((hi - lo) * st).tdiv 10)=((hi - lo) * st).tdiv 10:=wrapI (by omega)
 have w4:IntKind.i64.wrap (lo+((hi - lo) * st).tdiv 10)=lo+((hi - lo) * st).tdiv 10:=wrapI (by omega)
 refine AC.of_body hG hmix func130 rfl ntmps130 (by simp) (ac:=c130) (by kernel_rfl) ?_
 simp [c130,w1,w2,w3,w4,betw]
theorem lookA_find (x y:Int):∀ (ps:List Pair),lookA [x,y] (ps.map keyA) (ps.map spanA)=some ((ps.find? fun p=>p.l==x && p.r==y).map spanA)
 |[]=>rfl
 |p::ps=>by
  show lookA [x,y] (keyA p::ps.map keyA) (spanA p::ps.map spanA)=_
  unfold lookA
  simp only [keyA,intsOf,Option.map_some]
  simp only [List.length_cons,List.length_nil,ne_eq,not_true_eq_false,if_false]
  rw [List.find?_cons]
  by_cases hp:p.l=x∧p.r=y
  ·obtain ⟨rfl,rfl⟩:=hp
   simp
  ·have h1:([x,y]==[p.l,p.r])=false:=by
    simp only [beq_eq_false_iff_ne,ne_eq,List.cons.injEq,and_true]
    rintro ⟨rfl,rfl⟩;exact hp ⟨rfl,rfl⟩
   have h2:(p.l==x && p.r==y)=false:=by
    rw [Bool.and_eq_false_iff];simp only [beq_eq_false_iff_ne]
    by_cases h:p.l=x
    ·exact .inr fun h'=>hp ⟨h,h'⟩
    ·exact .inl h
   rw [h1,h2]
   exact lookA_find x y ps
set_option maxHeartbeats 2000000 in
theorem ac83 (hG:Stable GI) (s:Sheet) (hF:SheetF s) {a b:Nat×Nat} (ha:InS s a) (hb:InS s b) {st:Int} (h3:0≤st) (h4:st≤10):AC prog GI 83 [frontA s,gA a,gA b,.int .i64 st] (.ret (.int .i64 (spc s st (letS s a) (letS s b)))):=by
 have hsb:=spanS_bounds hF (letS s a) (letS s b)
 refine AC.of_body hG hmix func83 rfl ntmps83 (by simp) (ac:=c83) (by kernel_rfl) ?_
 refine awp_cut (fun S H=>S 4 = .box 4 0∧S 5 = .box 5 0∧S 6 = .box 6 0∧S 3 = .int .i64 st∧H 4=some (frontL s)∧H 5=some [.int .i64 a.1,.int .i64 a.2]∧H 6=some [.int .i64 b.1,.int .i64 b.2]) (by simp [frontA,frontL,gA,sheetL,spaces]) ?_
 rintro S H ⟨s4,s5,s6,s3,e4,e5,e6⟩
 by_cases hw:a.1=b.1
 case neg =>
  have hsp:spanS s (letS s a) (letS s b)=(s.glo,s.ghi):=by
   unfold spanS letS;rw [if_neg];simp only;omega
  have hwb:((a.1:Int) != (b.1:Int))=true:=by simp;omega
  unfold spc
  rw [hsp] at hsb ⊢
  simp [s4,s5,s6,s3,e4,e5,e6,frontL,sheetL,spaces,hwb]
  refine ⟨_,by kernel_rfl,ac130 hG hsb.1 hsb.2.1 hsb.2.2 h3 h4,fun _=>rfl,?_⟩
  simp
 have hwi:(letS s a).1=(letS s b).1:=by unfold letS;simp only;omega
 have hwb:((a.1:Int) != (b.1:Int))=false:=by simp;omega
 simp [s4,s5,s6,s3,e4,e5,e6,frontL,sheetL,spaces,hwb]
 refine ⟨_,by kernel_rfl,ac82 hG s ha,by simp [boxy],?_⟩
 simp [s4,s5,s6,s3,e4,e5,e6,frontL,sheetL,spaces,hwb]
 refine ⟨_,by kernel_rfl,ac82 hG s hb,by simp [boxy],?_⟩
 simp [s4,s5,s6,s3,e4,e5,e6,frontL,sheetL,spaces,hwb,intsOf2,fillA,lookA_find]
 cases hf:s.pairs.find? fun p=>p.l==(letS s a).2 && p.r==(letS s b).2 with
 |some p =>
  have hsp:spanS s (letS s a) (letS s b)=(p.lo,p.hi):=by unfold spanS;rw [if_pos hwi,hf]
  unfold spc
  rw [hsp] at hsb ⊢
  simp [s4,s5,s6,s3,e4,e5,e6,spanA]
  refine ⟨_,by kernel_rfl,ac130 hG hsb.1 hsb.2.1 hsb.2.2 h3 h4,fun _=>rfl,?_⟩
  simp
 |none =>
  have hsp:spanS s (letS s a) (letS s b)=(s.olo,s.ohi):=by unfold spanS;rw [if_pos hwi,hf]
  unfold spc
  rw [hsp] at hsb ⊢
  simp [s4,s5,s6,s3,e4,e5,e6,frontL,sheetL,spaces]
  refine ⟨_,by kernel_rfl,ac130 hG hsb.1 hsb.2.1 hsb.2.2 h3 h4,fun _=>rfl,?_⟩
  simp
end Go.Proofs.Tryz
namespace Go.Proofs.Tryz
open Go Go.AL Go.RowKit Go.Proofs
attribute [local simp] awp_all qs_all ops_all dops_all ops_nil dops_nil ops_call ops_callv ops_alloc ops_box dops_call dops_alloc kO_eq kD_eq awanted apure ev Eff.S Eff.H tmpOf upd putD AL.start AV.dem AV.cells AV.storable AV.scells splice scrub abin loadA HR.okB post ares aress ares1 AV.out AV.isData ints_len ints_get fz fz1 AV.vw AV.vw1 boxy vI int undefA assignQ thenQ blockQ seqQ panQ prol prolH allocOf
variable {GI:World→Prop}
theorem sum_bounds {l:List Int} (h:∀ x∈l,0≤x∧x≤1000):0≤l.sum∧l.sum≤1000 * l.length:=by
 induction l with
 |nil=>simp
 |cons a l ih =>
  have h1:=h a List.mem_cons_self
  have h2:=ih fun x hx=>h x (List.mem_cons_of_mem _ hx)
  simp only [List.sum_cons,List.length_cons]
  omega
theorem sum_take {l:List Int} {i:Nat} (h:i < l.length):(l.take (i+1)).sum=(l.take i).sum+l[i]:=by
 rw [List.take_succ_eq_append_getElem h,List.sum_append];simp
theorem ac169 (hG:Stable GI) (l:List Int) (hl:l.length < 100000) (h:∀ x∈l,0≤x∧x≤1000):AC prog GI 169 [vI l] (.ret (.int .i64 l.sum)):=by
 refine AC.of_body hG hmix func169 rfl ntmps169 (by simp) (ac:=c169) (by kernel_rfl) ?_
 simp [c169]
 refine awp_loop 8 l.length (fun i S H=>S 6=vI l∧S 7 = .int .i64 l.length∧S 8 = .int .i64 (i:Nat)∧S 3 = .int .i64 (l.take i).sum) (fun i S H h=>h.2.2.1) ⟨by simp,by simp,by simp,by simp⟩ ?_
 rintro i hi S H ⟨s6,s7,s8,s3⟩
 by_cases hlt:i < l.length
 ·have hb:=sum_bounds (l:=l.take i) fun x hx=>h x (List.mem_of_mem_take hx)
  have hx:=h l[i] (List.getElem_mem hlt)
  rw [List.length_take] at hb
  have hw:IntKind.i64.wrap ((i:Int)+1)=i+1:=wrapI (by omega)
  have hw2:IntKind.i64.wrap ((l.take i).sum+l[i])=(l.take i).sum+l[i]:=wrapI (by omega)
  rw [sum_take hlt]
  generalize (l.take i).sum=y at s3 hw2 ⊢
  simp [s6,s7,s8,s3,hlt,hw,hw2]
 ·have hil:i=l.length:=by omega
  subst hil
  rw [List.take_length] at s3
  simp [s6,s7,s8,s3]
def intsG (l:List Int):AV:=grow 3 (l.map (AV.int .i64))
theorem ints_ok1 (l:List Int):elemsOK 1 (l.map (AV.int .i64))=true:=elems_map fun a=>⟨rfl,rfl⟩
theorem intsG_form (l:List Int):(intsG l = .slice .nil []∧l=[])∨intsG l = .slice (.own 3) (ints l):=by
 unfold intsG grow
 cases l with
 |nil=>exact .inl ⟨rfl,rfl⟩
 |cons a l=>exact .inr rfl
theorem letsS_take (s:Sheet) (l:List Lt):∀ i,i≤l.length→letsS s l i=((l.take i).map (wdL s)).sum
 |0,_=>rfl
 |i+1,h=>by
  rw [letsS_succ (by omega),letsS_take s l i (by omega),List.take_succ_eq_append_getElem (by omega),List.map_append,List.sum_append]
  simp
def gapL (s:Sheet) (st:Int) (l:List Lt):Nat→List Int
 |0=>[]
 |i+1=>gapL s st l i++(if 0 < i then match l[i - 1]?,l[i]? with
  |some a,some b=>[spc s st a b]
  |_,_=>[] else [])
theorem gapL_succ {s:Sheet} {st:Int} {l:List Lt} {i:Nat} (h:i+1 < l.length):gapL s st l (i+2)=gapL s st l (i+1)++[spc s st (l[i]'(by omega)) l[i+1]]:=by
 show gapL s st l (i+1)++_=_
 rw [if_pos (by omega),show i+1 - 1=i by omega,List.getElem?_eq_getElem (by omega:i < l.length),List.getElem?_eq_getElem h]
theorem gapL_sum {s:Sheet} {st:Int} {l:List Lt}:∀ i,i+1≤l.length→(gapL s st l (i+1)).sum=gapsS s st l i
 |0,_=>rfl
 |i+1,h=>by
  rw [gapL_succ (by omega),gapsS_succ (by omega),List.sum_append,gapL_sum i (by omega)]
  simp
theorem gapL_mem {s:Sheet} (hF:SheetF s) {st:Int} (h0:0≤st) (h1:st≤10) {l:List Lt}:∀ i,∀ x∈gapL s st l i,0≤x∧x≤20
 |0,x,hx=>by cases hx
 |i+1,x,hx=>by
  unfold gapL at hx
  rw [List.mem_append] at hx
  rcases hx with hx | hx
  ·exact gapL_mem hF h0 h1 i x hx
  ·split at hx
   ·split at hx
    ·rw [List.mem_singleton] at hx
     subst hx;exact spc_bounds hF h0 h1 _ _
    ·cases hx
   ·cases hx
theorem gapL_len {s:Sheet} {st:Int} {l:List Lt}:∀ i,(gapL s st l i).length≤i
 |0=>Nat.le_refl _
 |i+1=>by
  have:=gapL_len (s:=s) (st:=st) (l:=l) i
  unfold gapL
  rw [List.length_append]
  split
  ·split<;>simp<;>omega
  ·simp;omega
end Go.Proofs.Tryz
namespace Go.Proofs.Tryz
open Go Go.AL Go.RowKit Go.Proofs
attribute [local simp] awp_all qs_all ops_allN dops_allN ops_nil dops_nil ops_call ops_callv ops_alloc ops_box dops_call dops_alloc kO_eq kD_eq awanted apure ev Eff.S Eff.H tmpOf upd putD AL.start AV.dem AV.cells AV.storable AV.scells splice scrub abin loadA HR.okB post ares aress ares1 AV.out AV.isData ints_len ints_get fz fz1 AV.vw AV.vw1 boxy vI int undefA assignQ thenQ blockQ seqQ panQ prol prolH allocOf
variable {GI:World→Prop}
theorem letS_okS {s:Sheet} (hs:sheetI s=true) {g:Nat×Nat} (h:InS s g):okL s (letS s g):=letS_ok hs h
set_option maxHeartbeats 1000000 in
theorem ac131 (hG:Stable GI) (s:Sheet) (hs:sheetI s=true) {l:List (Nat×Nat)} (hl:l.length < 10000) (hin:∀ g∈l,InS s g) (cut:Bool) (x:Int):AC prog GI 131 [frontA s,lnA l cut,.int .i64 x] (.ret (.int .i64 (letsS s (l.map (letS s)) l.length+(if cut then s.hyphen else 0)))):=by
 have hF:=sheetF hs
 have hwl:=hF.wlen
 have hb:∀ x∈(l.map fun g=>wdL s (letS s g)),0≤x∧x≤1000:=by
  intro x hx
  obtain ⟨g,hg,rfl⟩:=List.mem_map.1 hx
  have:=wdL_bounds hF (letS_okS hs (hin g hg));omega
 have hsum:letsS s (l.map (letS s)) l.length=(l.map fun g=>wdL s (letS s g)).sum:=by
  have:=letsS_take s (l.map (letS s)) l.length (by simp)
  rw [this,List.take_of_length_le (by simp),List.map_map];rfl
 have hlenL:(l.map fun g=>wdL s (letS s g)).length < 10000:=by rw [List.length_map];exact hl
 rw [hsum]
 refine AC.of_body hG hmix func131 rfl ntmps131 (by simp) (ac:=c131) (by kernel_rfl) ?_
 refine awp_cut (fun S H=>S 3 = .box 3 0∧S 4 = .box 4 0∧H 3=some (frontL s)∧H 4=some [.slice .view (l.map gA),.bool cut]) (by simp [ops_ap,dops_ap,frontA,frontL,lnA,lineA,sheetL,spaces]) ?_
 rintro S H ⟨s3,s4,e3,e4⟩
 refine awp_cut (fun S H=>S 3 = .box 3 0∧S 4 = .box 4 0∧H 3=some (frontL s)∧H 4=some [.slice .view (l.map gA),.bool cut]∧S 7=intsG []) (by simp [ops_ap,dops_ap,s3,s4,e3,e4,intsG,grow]) ?_
 clear s3 s4 e3 e4 S H
 rintro S H ⟨s3,s4,e3,e4,s7⟩
 refine awp_cut (fun S H=>S 3 = .box 3 0∧S 4 = .box 4 0∧H 3=some (frontL s)∧H 4=some [.slice .view (l.map gA),.bool cut]∧S 7=intsG (l.map fun g=>wdL s (letS s g))) ?_ ?_
 ·simp [ops_ap,dops_ap,s3,s4,e3,e4]
  refine awp_loop 13 l.length (fun i S H=>S 3 = .box 3 0∧S 4 = .box 4 0∧H 3=some (frontL s)∧H 4=some [.slice .view (l.map gA),.bool cut]∧S 11 = .slice .view (l.map gA)∧S 12 = .int .i64 l.length∧S 13 = .int .i64 (i:Nat)∧S 7=intsG ((l.take i).map fun g=>wdL s (letS s g))) (fun i S H h=>h.2.2.2.2.2.2.1) ⟨by simp [ops_ap,dops_ap,s3],by simp [ops_ap,dops_ap,s4],by simp [ops_ap,dops_ap,e3],by simp [ops_ap,dops_ap,e4],by simp [ops_ap,dops_ap],by simp [ops_ap,dops_ap],by simp [ops_ap,dops_ap],by simp [ops_ap,dops_ap,s7]⟩ ?_
  clear s3 s4 e3 e4 s7 S H
  rintro i hi S H ⟨s3,s4,e3,e4,s11,s12,s13,s7⟩
  by_cases hlt:i < l.length
  case neg =>
   have hil:i=l.length:=by omega
   subst hil
   rw [List.take_length] at s7
   simp [ops_ap,dops_ap,s3,s4,e3,e4,s11,s12,s13,s7]
  have hw:IntKind.i64.wrap ((i:Int)+1)=i+1:=wrapI (by omega)
  obtain ⟨k,hk⟩:∃ k:Nat,(letS s l[i]).2=k:=⟨(letS s l[i]).2.toNat,by have:=(letS_okS hs (hin _ (List.getElem_mem hlt))).1;omega⟩
  have hkl:k < s.widths.length:=by have:=(letS_okS hs (hin _ (List.getElem_mem hlt))).2;omega
  have hwd:wdL s (letS s l[i])=s.widths[k]:=by
   unfold wdL
   rw [hk,if_neg (by omega),Int.toNat_natCast,List.getElem?_eq_getElem hkl];rfl
  rw [List.take_succ_eq_append_getElem hlt,List.map_append,List.map_singleton,hwd]
  have hlen:((l.take i).map fun g=>wdL s (letS s g)).length < 1000000:=by
   rw [List.length_map,List.length_take];omega
  generalize ((l.take i).map fun g=>wdL s (letS s g))=L at s7 hlen ⊢
  simp [s3,s4,e3,e4,s11,s12,s13,s7,hlt,gA,frontL,sheetL,spaces]
  refine ⟨_,by kernel_rfl,ac82 hG s (hin _ (List.getElem_mem hlt)),by simp [boxy],?_⟩
  have hok1:elemsOK 1 [AV.int .i64 s.widths[k]]=true:=rfl
  simp [s3,s4,e3,e4,s11,s12,s13,s7,hlt,frontL,sheetL,spaces,hk,hkl,hok1]
  refine dops_app (L.map (AV.int .i64)) (AV.int .i64 s.widths[k]) (.own 3) (by simp [s7,intsG,grow]) (by simp) rfl (ints_ok1 _) (by rw [List.length_map];omega) ?_
  intro S' sd hk'
  simp [sd,hk',s3,s4,e3,e4,s11,s12,s13,hlt,hw,intsG,frontL,sheetL,spaces]
 clear s3 s4 e3 e4 s7 S H
 rintro S H ⟨s3,s4,e3,e4,s7⟩
 refine awp_cut (fun S H=>S 7=intsG ((l.map fun g=>wdL s (letS s g))++if cut then [s.hyphen] else [])) ?_ ?_
 ·cases cut with
  |false=>simp [ops_ap,dops_ap,s3,s4,e3,e4,s7]
  |true =>
   have hok1:elemsOK 1 [AV.int .i64 s.hyphen]=true:=rfl
   generalize (l.map fun g=>wdL s (letS s g))=L at s7 hlenL ⊢
   simp [s3,s4,e3,e4,s7,frontL,sheetL,spaces,hok1]
   refine aops_app (L.map (AV.int .i64)) (AV.int .i64 s.hyphen) (.own 3) (by simp [intsG]) (by simp) rfl (ints_ok1 _) (by rw [List.length_map];omega) ?_
   intro S' sd hk'
   simp [sd,hk',intsG]
 clear s3 s4 e3 e4 s7 S H
 rintro S H s7
 have hh:=hF.hyphen
 have hb2:∀ x∈((l.map fun g=>wdL s (letS s g))++if cut then [s.hyphen] else []),0≤x∧x≤1000:=by
  intro x hx
  rcases List.mem_append.1 hx with hx | hx
  ·exact hb x hx
  ·cases cut with
   |false=>simp at hx
   |true=>simp at hx;omega
 have hsum2:((l.map fun g=>wdL s (letS s g))++if cut then [s.hyphen] else []).sum=(l.map fun g=>wdL s (letS s g)).sum+if cut then s.hyphen else 0:=by
  rw [List.sum_append]
  cases cut<;>simp
 have hl2:((l.map fun g=>wdL s (letS s g))++if cut then [s.hyphen] else []).length < 100000:=by
  rw [List.length_append]
  cases cut<;>simp<;>omega
 rw [← hsum2]
 generalize ((l.map fun g=>wdL s (letS s g))++if cut then [s.hyphen] else [])=L at s7 hb2 hl2 ⊢
 rcases intsG_form L with ⟨hg,rfl⟩ | hg
 ·rw [hg] at s7
  simp [ops_ap,dops_ap,s7]
  refine ⟨_,by kernel_rfl,ac169 hG [] hl2 hb2,by simp [boxy],?_⟩
  simp [ops_ap,dops_ap]
 ·rw [hg] at s7
  simp [ops_ap,dops_ap,s7]
  refine ⟨_,by kernel_rfl,ac169 hG L hl2 hb2,by simp [boxy],?_⟩
  simp [ops_ap,dops_ap]
end Go.Proofs.Tryz
namespace Go.Proofs.Tryz
open Go Go.AL Go.RowKit Go.Proofs
attribute [local simp] awp_all qs_all ops_allN dops_allN ops_nil dops_nil ops_call ops_callv ops_alloc ops_box dops_call dops_alloc kO_eq kD_eq awanted apure ev Eff.S Eff.H tmpOf upd putD AL.start AV.dem AV.cells AV.storable AV.scells splice scrub abin loadA HR.okB post ares aress ares1 AV.out AV.isData ints_len ints_get fz fz1 AV.vw AV.vw1 boxy vI int undefA assignQ thenQ blockQ seqQ panQ prol prolH allocOf
variable {GI:World→Prop}
set_option maxHeartbeats 1000000 in
theorem ac132 (hG:Stable GI) (s:Sheet) (hs:sheetI s=true) {l:List (Nat×Nat)} (hne:l≠[]) (hl:l.length < 10000) (hin:∀ g∈l,InS s g) (cut:Bool) {st:Int} (h0:0≤st) (h1:st≤10):AC prog GI 132 [frontA s,lnA l cut,.int .i64 st] (.ret (.int .i64 (gapsS s st (l.map (letS s)) (l.length - 1)+(if cut then betw s.olo s.ohi st else 0)))):=by
 have hF:=sheetF hs
 have hpos:=List.length_pos_iff.2 hne
 have hsum:gapsS s st (l.map (letS s)) (l.length - 1)=(gapL s st (l.map (letS s)) l.length).sum:=by
  have:=gapL_sum (s:=s) (st:=st) (l:=l.map (letS s)) (l.length - 1) (by rw [List.length_map];omega)
  rw [show l.length - 1+1=l.length by omega] at this
  exact this.symm
 rw [hsum]
 refine AC.of_body hG hmix func132 rfl ntmps132 (by simp) (ac:=c132) (by kernel_rfl) ?_
 refine awp_cut (fun S H=>S 2 = .int .i64 st∧S 3 = .box 3 0∧S 4 = .box 4 0∧H 3=some (frontL s)∧H 4=some [.slice .view (l.map gA),.bool cut]) (by simp [ops_ap,dops_ap,frontA,frontL,lnA,lineA,sheetL,spaces]) ?_
 rintro S H ⟨s2,s3,s4,e3,e4⟩
 refine awp_cut (fun S H=>S 2 = .int .i64 st∧S 3 = .box 3 0∧S 4 = .box 4 0∧H 3=some (frontL s)∧H 4=some [.slice .view (l.map gA),.bool cut]∧S 7=intsG []) (by simp [ops_ap,dops_ap,s2,s3,s4,e3,e4,intsG,grow]) ?_
 clear s2 s3 s4 e3 e4 S H
 rintro S H ⟨s2,s3,s4,e3,e4,s7⟩
 refine awp_cut (fun S H=>S 2 = .int .i64 st∧S 3 = .box 3 0∧S 4 = .box 4 0∧H 3=some (frontL s)∧H 4=some [.slice .view (l.map gA),.bool cut]∧S 7=intsG (gapL s st (l.map (letS s)) l.length)) ?_ ?_
 ·simp [ops_ap,dops_ap,s2,s3,s4,e3,e4]
  refine awp_loop 13 l.length (fun i S H=>S 2 = .int .i64 st∧S 3 = .box 3 0∧S 4 = .box 4 0∧H 3=some (frontL s)∧H 4=some [.slice .view (l.map gA),.bool cut]∧S 11 = .slice .view (l.map gA)∧S 12 = .int .i64 l.length∧S 13 = .int .i64 (i:Nat)∧S 7=intsG (gapL s st (l.map (letS s)) i)) (fun i S H h=>h.2.2.2.2.2.2.2.1) ⟨by simp [ops_ap,dops_ap,s2],by simp [ops_ap,dops_ap,s3],by simp [ops_ap,dops_ap,s4],by simp [ops_ap,dops_ap,e3],by simp [ops_ap,dops_ap,e4],by simp [ops_ap,dops_ap],by simp [ops_ap,dops_ap],by simp [ops_ap,dops_ap],by simp [ops_ap,dops_ap,s7,gapL]⟩ ?_
  clear s2 s3 s4 e3 e4 s7 S H
  rintro i hi S H ⟨s2,s3,s4,e3,e4,s11,s12,s13,s7⟩
  by_cases hlt:i < l.length
  case neg =>
   have hil:i=l.length:=by omega
   subst hil
   simp [ops_ap,dops_ap,s2,s3,s4,e3,e4,s11,s12,s13,s7]
  have hw:IntKind.i64.wrap ((i:Int)+1)=i+1:=wrapI (by omega)
  cases i with
  |zero =>
   have s7':S 7 = .slice .nil []:=by rw [s7];rfl
   simp [ops_ap,dops_ap,s2,s3,s4,e3,e4,s11,s12,s13,s7',hlt,gA]
   exact ⟨wrapI (by omega),by simp [gapL,intsG,grow]⟩
  |succ m =>
   have hml:m < l.length:=by omega
   have hgl:gapL s st (l.map (letS s)) (m+1+1)=gapL s st (l.map (letS s)) (m+1)++[spc s st (letS s l[m]) (letS s l[m+1])]:=by
    rw [gapL_succ (by simpa using hlt)];simp
   have hlen:(gapL s st (l.map (letS s)) (m+1)).length < 1000000:=by have:=gapL_len (s:=s) (st:=st) (l:=l.map (letS s)) (m+1);omega
   rw [hgl]
   have hwm:IntKind.i64.wrap (m:Int)=m:=wrapI (by omega)
   have hw2:IntKind.i64.wrap ((m:Int)+1+1)=m+1+1:=wrapI (by omega)
   have hp0:(0:Int) < (m:Int)+1:=by omega
   have hp00:(0:Int)≤(m:Int)+1:=by omega
   have hlt':(m:Int)+1 < l.length:=by omega
   generalize gapL s st (l.map (letS s)) (m+1)=L at s7 hlen ⊢
   have hok1:elemsOK 1 [AV.int .i64 (spc s st (letS s l[m]) (letS s l[m+1]))]=true:=rfl
   simp [s2,s3,s4,e3,e4,s11,s12,s13,s7,hlt,gA,frontL,sheetL,spaces,hwm,hp0,hp00,hml,hlt']
   refine ⟨_,by kernel_rfl,ac83 hG s hF (hin _ (List.getElem_mem hml)) (hin _ (List.getElem_mem hlt)) h0 h1,by simp [boxy],?_⟩
   simp [s2,s3,s4,e3,e4,s11,s12,s13,s7,hok1]
   refine dops_app (L.map (AV.int .i64)) (AV.int .i64 (spc s st (letS s l[m]) (letS s l[m+1]))) (.own 3) (by simp [s7,intsG,grow]) (by simp) rfl (ints_ok1 _) (by rw [List.length_map];omega) ?_
   intro S' sd hk'
   simp [sd,hk',s2,s3,s4,e3,e4,s11,s12,s13,hlt,hlt',hw2,intsG,frontL,sheetL,spaces]
 clear s2 s3 s4 e3 e4 s7 S H
 rintro S H ⟨s2,s3,s4,e3,e4,s7⟩
 have hbw:=betw_bounds hF.o.2.1 h0 h1
 have hlenL:(gapL s st (l.map (letS s)) l.length).length < 10000:=by have:=gapL_len (s:=s) (st:=st) (l:=l.map (letS s)) l.length;omega
 have hb:∀ x∈gapL s st (l.map (letS s)) l.length,0≤x∧x≤1000:=fun x hx=>by have:=gapL_mem hF h0 h1 _ x hx;omega
 refine awp_cut (fun S H=>S 7=intsG (gapL s st (l.map (letS s)) l.length++if cut then [betw s.olo s.ohi st] else [])) ?_ ?_
 ·cases cut with
  |false=>simp [ops_ap,dops_ap,s2,s3,s4,e3,e4,s7]
  |true =>
   have hok1:elemsOK 1 [AV.int .i64 (betw s.olo s.ohi st)]=true:=rfl
   generalize gapL s st (l.map (letS s)) l.length=L at s7 hlenL ⊢
   simp [s2,s3,s4,e3,e4,s7,frontL,sheetL,spaces]
   refine ⟨_,by kernel_rfl,ac130 hG hF.o.1 hF.o.2.1 (by have:=hF.o.2.2;omega) h0 h1,by simp [boxy],?_⟩
   simp [hok1]
   refine aops_app (L.map (AV.int .i64)) (AV.int .i64 (betw s.olo s.ohi st)) (.own 3) (by simp [intsG]) (by simp) rfl (ints_ok1 _) (by rw [List.length_map];omega) ?_
   intro S' sd hk'
   simp [sd,hk',intsG]
 clear s2 s3 s4 e3 e4 s7 S H
 rintro S H s7
 have ho:=hF.o
 have hb2:∀ x∈(gapL s st (l.map (letS s)) l.length++if cut then [betw s.olo s.ohi st] else []),0≤x∧x≤1000:=by
  intro x hx
  rcases List.mem_append.1 hx with hx | hx
  ·exact hb x hx
  ·cases cut with
   |false=>simp at hx
   |true=>simp at hx;omega
 have hsum2:(gapL s st (l.map (letS s)) l.length++if cut then [betw s.olo s.ohi st] else []).sum=(gapL s st (l.map (letS s)) l.length).sum+if cut then betw s.olo s.ohi st else 0:=by
  rw [List.sum_append]
  cases cut<;>simp
 have hl2:(gapL s st (l.map (letS s)) l.length++if cut then [betw s.olo s.ohi st] else []).length < 100000:=by
  rw [List.length_append]
  cases cut<;>simp<;>omega
 rw [← hsum2]
 generalize (gapL s st (l.map (letS s)) l.length++if cut then [betw s.olo s.ohi st] else [])=L at s7 hb2 hl2 ⊢
 rcases intsG_form L with ⟨hg,rfl⟩ | hg
 ·rw [hg] at s7
  simp [ops_ap,dops_ap,s7]
  refine ⟨_,by kernel_rfl,ac169 hG [] hl2 hb2,by simp [boxy],?_⟩
  simp [ops_ap,dops_ap]
 ·rw [hg] at s7
  simp [ops_ap,dops_ap,s7]
  refine ⟨_,by kernel_rfl,ac169 hG L hl2 hb2,by simp [boxy],?_⟩
  simp [ops_ap,dops_ap]
set_option maxHeartbeats 1000000 in
theorem ac84 (hG:Stable GI) (s:Sheet) (hs:sheetI s=true) {l:List (Nat×Nat)} (hne:l≠[]) (hl:l.length≤24) (hin:∀ g∈l,InS s g) (cut:Bool) {st:Int} (h0:0≤st) (h1:st≤10):AC prog GI 84 [frontA s,lnA l cut,.int .i64 st] (.ret (.int .i64 (wideP s st (l.map (letS s)) cut))):=by
 have hF:=sheetF hs
 have hok:∀ a∈l.map (letS s),okL s a:=fun a ha=>by
  obtain ⟨g,hg,rfl⟩:=List.mem_map.1 ha
  exact letS_okS hs (hin g hg)
 have hne':l.map (letS s)≠[]:=by simpa using hne
 have hb:=wideP_bounds hF h0 h1 hne' hok (by simpa using hl) cut
 have hpos:=List.length_pos_iff.2 hne
 have hg:=gapsS_bounds hF h0 h1 (l:=l.map (letS s)) (i:=l.length - 1) (by rw [List.length_map];omega)
 have hls:=letsS_bounds hF hok (i:=l.length) (by simp)
 have hbw:=betw_bounds hF.o.2.1 h0 h1
 have ho:=hF.o
 have hh:=hF.hyphen
 have a1:=ac131 hG s hs (by omega:l.length < 10000) hin cut st
 have a2:=ac132 hG s hs hne (by omega) hin cut h0 h1
 have hwp:wideP s st (l.map (letS s)) cut=(letsS s (l.map (letS s)) l.length+(if cut then s.hyphen else 0))+(gapsS s st (l.map (letS s)) (l.length - 1)+(if cut then betw s.olo s.ohi st else 0)):=by
  unfold wideP;rw [List.length_map]
 rw [hwp] at hb ⊢
 have hx1:0≤letsS s (l.map (letS s)) l.length+(if cut then s.hyphen else 0):=by cases cut<;>simp<;>omega
 have hx2:0≤gapsS s st (l.map (letS s)) (l.length - 1)+(if cut then betw s.olo s.ohi st else 0):=by cases cut<;>simp<;>omega
 generalize letsS s (l.map (letS s)) l.length+(if cut then s.hyphen else 0)=X at a1 hx1 hb ⊢
 generalize gapsS s st (l.map (letS s)) (l.length - 1)+(if cut then betw s.olo s.ohi st else 0)=Y at a2 hx2 hb ⊢
 have w1:IntKind.i64.wrap X=X:=wrapI (by omega)
 have w2:IntKind.i64.wrap (X+Y)=X+Y:=wrapI (by omega)
 refine AC.of_body hG hmix func84 rfl ntmps84 (by simp) (ac:=c84) (by kernel_rfl) ?_
 refine awp_cut (fun S H=>S 2 = .int .i64 st∧S 3 = .box 3 0∧S 4 = .box 4 0∧H 3=some (frontL s)∧H 4=some [.slice .view (l.map gA),.bool cut]) (by simp [ops_ap,dops_ap,frontA,frontL,lnA,lineA,sheetL,spaces]) ?_
 rintro S H ⟨s2,s3,s4,e3,e4⟩
 simp [ops_ap,dops_ap,s2,s3,s4,e3,e4]
 refine awp_loop 11 2 (fun i S H=>S 2 = .int .i64 st∧S 3 = .box 3 0∧S 4 = .box 4 0∧H 3=some (frontL s)∧H 4=some [.slice .view (l.map gA),.bool cut]∧S 10 = .fagg [.func (.func 131) [] [],.func (.func 132) [] []]∧S 11 = .int .i64 (i:Nat)∧S 7 = .int .i64 (if i=0 then 0 else if i=1 then X else X+Y)) (fun i S H h=>h.2.2.2.2.2.2.1) ⟨by simp [ops_ap,dops_ap,s2],by simp [ops_ap,dops_ap,s3],by simp [ops_ap,dops_ap,s4],by simp [ops_ap,dops_ap,e3],by simp [ops_ap,dops_ap,e4],by simp [ops_ap,dops_ap],by simp [ops_ap,dops_ap],by simp [ops_ap,dops_ap]⟩ ?_
 clear s2 s3 s4 e3 e4 S H
 rintro i hi S H ⟨s2,s3,s4,e3,e4,s10,s11,s7⟩
 match i,hi with
 |0,_ =>
  simp [ops_ap,dops_ap,s2,s3,s4,e3,e4,s10,s11,s7,frontL,sheetL,spaces,isFn]
  refine ⟨_,by kernel_rfl,a1,by simp [boxy],?_⟩
  simp [ops_ap,dops_ap,s2,s3,s4,e3,e4,s10,s11,s7,frontL,sheetL,spaces,w1]
  exact wrapI (by omega)
 |1,_ =>
  simp [ops_ap,dops_ap,s2,s3,s4,e3,e4,s10,s11,s7,frontL,sheetL,spaces,isFn]
  refine ⟨_,by kernel_rfl,a2,by simp [boxy],?_⟩
  simp [ops_ap,dops_ap,s2,s3,s4,e3,e4,s10,s11,s7,frontL,sheetL,spaces,w2]
  exact wrapI (by omega)
 |2,_ =>
  simp [ops_ap,dops_ap,s2,s3,s4,e3,e4,s10,s11,s7]
end Go.Proofs.Tryz
namespace Go.Proofs.Tryz
open Go.AL
theorem soonerI_trans {a b c:End} (h:soonerI a b=true) (h':soonerI b c=true):soonerI a c=true:=by
 rw [soonerI_iff] at *;omega
theorem soonerI_irrefl (a:End):soonerI a a=false:=by
 cases h:soonerI a a with
 |false=>rfl
 |true=>rw [soonerI_iff] at h;omega
abbrev Sorted (l:List End):Prop:=l.Pairwise fun a b=>soonerI a b=true
theorem Sorted.nodup {l:List End} (h:Sorted l):l.Nodup:=h.imp fun hab e=>by
 subst e;rw [soonerI_irrefl] at hab;cases hab
theorem sorted_sub:∀ {all t:List End},Sorted all→Sorted t→(∀ x∈t,x∈all)→t.Sublist all
 |[],t,_,_,h=>by
  cases t with
  |nil=>exact .slnil
  |cons a t=>exact absurd (h a List.mem_cons_self) (by simp)
 |a::r,[],_,_,_=>List.nil_sublist _
 |a::r,b::t,hs,ht,h=>by
  obtain ⟨hs1,hs2⟩:=List.pairwise_cons.1 hs
  obtain ⟨ht1,ht2⟩:=List.pairwise_cons.1 ht
  rcases List.mem_cons.1 (h b List.mem_cons_self) with e | hb
  ·subst e
   refine .cons_cons _ (sorted_sub hs2 ht2 fun x hx => ?_)
   rcases List.mem_cons.1 (h x (List.mem_cons_of_mem _ hx)) with e | hx'
   ·subst e
    have:=ht1 _ hx
    rw [soonerI_irrefl] at this;cases this
   ·exact hx'
  ·refine .cons _ (sorted_sub hs2 ht fun x hx => ?_)
   rcases List.mem_cons.1 (h x hx) with e | hx'
   ·subst e
    exfalso
    have h1:=hs1 b hb
    rcases List.mem_cons.1 hx with e | hx2
    ·subst e;rw [soonerI_irrefl] at h1;cases h1
    ·have:=soonerI_trans h1 (ht1 _ hx2)
     rw [soonerI_irrefl] at this;cases this
   ·exact hx'
theorem sorted_of_adj {l:List End} (h:∀ j (hj:j+1 < l.length),soonerI (l[j]'(by omega)) l[j+1]=true):Sorted l:=by
 unfold Sorted
 rw [List.pairwise_iff_getElem]
 intro i j hi hj hij
 obtain ⟨d,rfl⟩:∃ d,j=i+1+d:=⟨j - i - 1,by omega⟩
 clear hij
 induction d with
 |zero=>exact h i hj
 |succ d ih=>exact soonerI_trans (ih (by omega)) (h (i+1+d) hj)
section
variable {s:Sheet} {out:List Int} {es:List End}
theorem endsL_ne (ho:outI s out=true):endsL s out≠[]:=by
 intro e
 have:=lastE_mem ho
 rw [e] at this;cases this
theorem sheet_cuts (hs:sheetI s=true):∀ w∈s.words,risesI w.cuts 1 (w.signs.length - 1)=true:=fun _ hw=>(wordF hs hw).cuts
def allS (s:Sheet) (out:List Int) (m:Nat):List (List End):=ch [] (endsL s out) m
theorem mem_allS (hs:sheetI s=true) (ho:outI s out=true) {m:Nat}:es∈allS s out m↔setR s out es=true∧es.length≤m:=by
 have hso:=endsL_sorted (out:=out) (sheet_cuts hs)
 unfold allS
 rw [mem_ch (endsL_ne ho) (Sorted.nodup hso)]
 unfold setR
 rw [ho,Bool.true_and,Bool.and_eq_true,Bool.and_eq_true,adjI_iff,Bool.not_eq_true',beq_iff_eq]
 have hl:=lastE_mem ho
 constructor
 ·rintro ⟨t,h1,h2,h3,h4⟩
  rw [List.nil_append] at h1
  subst h1
  rw [h3,hl]
  have hne:es≠[]:=by
   rintro rfl
   rw [hl] at h3;cases h3
  have hst:Sorted es:=hso.sublist h2
  refine ⟨⟨by simpa using hne,⟨fun x hx=>mem_endsL.1 (h2.subset hx),fun j hj=>List.pairwise_iff_getElem.1 hst j (j+1) _ _ (by omega)⟩,rfl⟩,h4⟩
 ·rintro ⟨⟨h1,⟨h2,h3⟩,h4⟩,h5⟩
  have hne:es≠[]:=by
   rintro rfl
   cases h1
  refine ⟨es,rfl,sorted_sub hso (sorted_of_adj h3) fun x hx=>mem_endsL.2 (h2 x hx),?_,h5⟩
  rw [List.getLast?_eq_some_getLast hne] at h4 ⊢
  rw [hl]
  exact congrArg some h4
end
def befE:List End→List End→Bool
 |[],[]=>false
 |[],_::_=>true
 |_::_,[]=>false
 |a::x,b::y=>if a=b then befE x y else soonerI a b
theorem befE_app (now x y:List End):befE (now++x) (now++y)=befE x y:=by
 induction now with
 |nil=>rfl
 |cons a now ih =>
  show (if a=a then befE (now++x) (now++y) else soonerI a a)=_
  rw [if_pos rfl,ih]
theorem befE_irrefl:∀ l:List End,befE l l=false
 |[]=>rfl
 |a::l=>by
  unfold befE
  rw [if_pos rfl];exact befE_irrefl l
theorem mem_lp_head {es:List End}:∀ {all now:List End} {m:Nat},es∈lp now all m→∃ b t,b∈all∧es=now++b::t
 |[],now,m,h=>by unfold lp at h;cases h
 |a::r,now,m,h=>by
  unfold lp at h
  rcases List.mem_append.1 h with h | h
  ·split at h
   ·exact ⟨a,[],List.mem_cons_self,List.mem_singleton.1 h⟩
   ·split at h
    ·cases h
    ·obtain ⟨b,t,h1,rfl⟩:=mem_lp_head h
     exact ⟨a,b::t,List.mem_cons_self,by simp⟩
  ·obtain ⟨b,t,h1,rfl⟩:=mem_lp_head h
   exact ⟨b,t,List.mem_cons_of_mem _ h1,rfl⟩
theorem lp_sorted:∀ {all now:List End} {m:Nat},Sorted all→(lp now all m).Pairwise fun x y=>befE x y=true
 |[],now,m,_=>by unfold lp;exact .nil
 |a::r,now,m,hs=>by
  obtain ⟨hs1,hs2⟩:=List.pairwise_cons.1 hs
  unfold lp
  rw [List.pairwise_append]
  refine ⟨?_,lp_sorted hs2,?_⟩
  ·split
   ·exact List.pairwise_singleton _ _
   ·split
    ·exact .nil
    ·exact lp_sorted hs2
  ·intro x hx y hy
   obtain ⟨b,t,hb,rfl⟩:=mem_lp_head hy
   have hx':∃ u,x=now++a::u:=by
    split at hx
    ·exact ⟨[],List.mem_singleton.1 hx⟩
    ·split at hx
     ·cases hx
     ·obtain ⟨c,u,_,rfl⟩:=mem_lp_head hx
      exact ⟨c::u,by simp⟩
   obtain ⟨u,rfl⟩:=hx'
   rw [befE_app]
   unfold befE
   have hab:=hs1 b hb
   rw [if_neg,hab]
   rintro rfl
   rw [soonerI_irrefl] at hab;cases hab
theorem ch_sorted {all now:List End} {m:Nat} (hs:Sorted all):(ch now all m).Pairwise fun x y=>befE x y=true:=by
 unfold ch
 split
 ·exact List.pairwise_singleton _ _
 ·split
  ·exact .nil
  ·exact lp_sorted hs
theorem befE_nodup {l:List (List End)} (h:l.Pairwise fun x y=>befE x y=true):l.Nodup:=h.imp fun hab e=>by
 subst e;rw [befE_irrefl] at hab;cases hab
def goodS (s:Sheet) (out:List Int):List (List End):=(allS s out s.rows.toNat).filter fun es=>fitI s out es 0
theorem mem_goodS {s:Sheet} {out:List Int} {es:List End} (hs:sheetI s=true) (ho:outI s out=true):es∈goodS s out↔setR s out es=true∧fitI s out es 0=true:=by
 unfold goodS
 rw [List.mem_filter,mem_allS hs ho]
 constructor
 ·rintro ⟨⟨h1,_⟩,h2⟩;exact ⟨h1,h2⟩
 ·rintro ⟨h1,h2⟩
  refine ⟨⟨h1,?_⟩,h2⟩
  unfold fitI at h2
  simp only [Bool.and_eq_true,decide_eq_true_eq] at h2
  omega
theorem goodS_sorted {s:Sheet} {out:List Int} (hs:sheetI s=true):(goodS s out).Pairwise fun x y=>befE x y=true :=
 (ch_sorted (endsL_sorted (sheet_cuts hs))).sublist List.filter_sublist
section
variable {α:Type}
def bestL (better:α→α→Bool) (x:α) (l:List α):α:=l.foldl (fun o x=>if better x o then x else o) x
structure IsBest (better:α→α→Bool) (l:List α) (x:α):Prop where
 at':∃ pre post,l=pre++x::post∧(∀ y∈pre,better x y=true)∧∀ y∈post,better y x=false
theorem bestL_is {better:α→α→Bool} (htr:∀ a b c,better a b=true→better b c=true→better a c=true) (hneg:∀ a b c,better a b=true→better c b=false→better a c=true) :
  ∀ (l pre:List α) (x:α) (post:List α),(∀ y∈pre,better x y=true)→(∀ y∈post,better y x=false)→IsBest better (pre++x::post++l) (bestL better x l)
 |[],pre,x,post,h1,h2=>⟨pre,post,by rw [List.append_nil];rfl,h1,h2⟩
 |z::l,pre,x,post,h1,h2=>by
  show IsBest better _ (bestL better (if better z x then z else x) l)
  cases h:better z x with
  |true =>
   have:=bestL_is htr hneg l (pre++x::post) z [] (fun y hy=>by
    rcases List.mem_append.1 hy with hy | hy
    ·exact htr _ _ _ h (h1 y hy)
    ·rcases List.mem_cons.1 hy with rfl | hy
     ·exact h
     ·exact hneg _ _ _ h (h2 y hy)) (fun y hy=>by cases hy)
   simpa using this
  |false =>
   have:=bestL_is htr hneg l pre x (post++[z]) h1 (fun y hy=>by
    rcases List.mem_append.1 hy with hy | hy
    ·exact h2 y hy
    ·rw [List.mem_singleton] at hy;subst hy;exact h)
   simpa using this
end
end Go.Proofs.Tryz
namespace Go.Proofs.Tryz
open Go.AL
theorem nodup_len {α:Type} [DecidableEq α]:∀ {l r:List α},l.Nodup→(∀ x∈l,x∈r)→l.length≤r.length
 |[],_,_,_=>Nat.zero_le _
 |a::l,r,h,hs=>by
  obtain ⟨h1,h2⟩:=List.nodup_cons.1 h
  have ha:=hs a List.mem_cons_self
  have hl:=List.length_erase_of_mem ha
  have hp:=List.length_pos_of_mem ha
  have:=nodup_len (r:=r.erase a) h2 fun x hx=>(List.mem_erase_of_ne (by rintro rfl;exact h1 hx)).2 (hs x (List.mem_cons_of_mem _ hx))
  simp only [List.length_cons]
  omega
structure WordW (w x:Word):Prop where
 signs:x.signs=w.signs
 free:x.free=w.free
 cuts:∀ c∈w.cuts,c∈x.cuts
structure Wider (s x:Sheet):Prop where
 widths:x.widths=s.widths
 pairs:x.pairs=s.pairs
 olo:x.olo=s.olo
 ohi:x.ohi=s.ohi
 glo:x.glo=s.glo
 ghi:x.ghi=s.ghi
 hyphen:x.hyphen=s.hyphen
 len:x.words.length=s.words.length
 words:∀ i (h:i < s.words.length),WordW s.words[i] (x.words[i]'(by omega))
 wide:s.wide≤x.wide
 rows:s.rows≤x.rows
section
variable {s x:Sheet} {out:List Int} {es:List End}
theorem Wider.lenW (h:Wider s x) (i:Nat):lenW x i=lenW s i:=by
 unfold Tryz.lenW
 by_cases hi:i < s.words.length
 ·rw [List.getElem?_eq_getElem hi,List.getElem?_eq_getElem (by rw [h.len];exact hi)]
  simp only
  rw [(h.words i hi).signs]
 ·have:=h.len
  rw [List.getElem?_eq_none (show s.words.length≤i by omega),List.getElem?_eq_none (show x.words.length≤i by omega)]
theorem Wider.letS (h:Wider s x) (g:Nat×Nat):letS x g=letS s g:=by
 unfold Tryz.letS
 by_cases hi:g.1 < s.words.length
 ·rw [List.getElem?_eq_getElem hi,List.getElem?_eq_getElem (by rw [h.len];exact hi)]
  simp only
  rw [(h.words g.1 hi).signs]
 ·have:=h.len
  rw [List.getElem?_eq_none (show s.words.length≤g.1 by omega),List.getElem?_eq_none (show x.words.length≤g.1 by omega)]
theorem rowN_congr {s x:Sheet} (h:∀ i,Tryz.lenW x i=Tryz.lenW s i) (out:List Int):∀ d w f t,rowN x out d w f t=rowN s out d w f t
 |0,_,_,_=>rfl
 |d+1,w,f,t=>by
  unfold rowN
  rw [h,rowN_congr h out d]
theorem Wider.rowI (h:Wider s x) (i:Nat):rowI x out es i=rowI s out es i:=by
 unfold Tryz.rowI
 split
 ·unfold rowG;rw [rowN_congr h.lenW]
 ·rfl
theorem Wider.cutI (h:Wider s x) (i:Nat):cutI x es i=cutI s es i:=by
 unfold Tryz.cutI
 split
 ·rw [h.lenW]
 ·rfl
theorem spc_congr {s x:Sheet} (h2:x.pairs=s.pairs) (h3:x.olo=s.olo) (h4:x.ohi=s.ohi) (h5:x.glo=s.glo) (h6:x.ghi=s.ghi) (st:Int) (a b:Lt):spc x st a b=spc s st a b:=by
 unfold spc spanS
 rw [h2,h3,h4,h5,h6]
theorem wideP_congr {s x:Sheet} (h1:x.widths=s.widths) (h2:x.pairs=s.pairs) (h3:x.olo=s.olo) (h4:x.ohi=s.ohi) (h5:x.glo=s.glo) (h6:x.ghi=s.ghi) (h7:x.hyphen=s.hyphen) (st:Int) (l:List Lt) (cut:Bool):wideP x st l cut=wideP s st l cut:=by
 have e1:∀ i,letsS x l i=letsS s l i:=by
  intro i
  induction i with
  |zero=>rfl
  |succ i ih =>
   unfold letsS
   rw [ih]
   congr 1
   split
   ·unfold wdL;rw [h1,h7]
   ·rfl
 have e2:∀ i,gapsS x st l i=gapsS s st l i:=by
  intro i
  induction i with
  |zero=>rfl
  |succ i ih =>
   unfold gapsS
   rw [ih]
   congr 1
   split
   ·exact spc_congr h2 h3 h4 h5 h6 st _ _
   ·rfl
 unfold wideP
 rw [e1,e2,h3,h4,h7]
theorem Wider.wideI (h:Wider s x) (st:Int) (i:Nat):wideI x out es st i=wideI s out es st i:=by
 unfold Tryz.wideI
 rw [h.rowI,h.cutI,wideP_congr h.widths h.pairs h.olo h.ohi h.glo h.ghi h.hyphen]
 congr 1
 exact List.map_congr_left fun g _=>h.letS g
theorem Wider.widthsI (h:Wider s x) (st:Int):widthsI x out es st=widthsI s out es st:=by
 unfold Tryz.widthsI
 exact List.map_congr_left fun i _=>h.wideI st i
theorem Wider.fitI (h:Wider s x) {st:Int} (hf:fitI s out es st=true):fitI x out es st=true:=by
 unfold Tryz.fitI at hf ⊢
 rw [h.widthsI]
 simp only [Bool.and_eq_true,List.all_eq_true,decide_eq_true_eq] at hf ⊢
 have:=h.wide
 have:=h.rows
 exact ⟨by omega,fun n hn=>by have:=hf.2 n hn;omega⟩
theorem Wider.outI (h:Wider s x):outI x out=outI s out:=by
 unfold Tryz.outI
 rw [h.len]
 have:notFree x=notFree s:=by
  unfold notFree
  funext n
  by_cases hi:n.toNat < s.words.length
  ·rw [List.getElem?_eq_getElem hi,List.getElem?_eq_getElem (by rw [h.len];exact hi)]
   simp only
   rw [(h.words _ hi).free]
  ·have:=h.len
   rw [List.getElem?_eq_none (show s.words.length≤n.toNat by omega),List.getElem?_eq_none (show x.words.length≤n.toNat by omega)]
 rw [this]
theorem Wider.setR (h:Wider s x) (hr:setR s out es=true):setR x out es=true:=by
 unfold Tryz.setR at hr ⊢
 rw [h.outI]
 simp only [Bool.and_eq_true,adjI_iff] at hr ⊢
 obtain ⟨h1,⟨h2,h3⟩,h4⟩:=hr
 refine ⟨h1,⟨fun e he => ?_,h3⟩,?_⟩
 ·have:=h2 e he
  unfold okE at this ⊢
  rw [h.len]
  by_cases hi:e.1.toNat < s.words.length
  ·rw [List.getElem?_eq_getElem hi] at this
   rw [List.getElem?_eq_getElem (by rw [h.len];exact hi)]
   simp only [Bool.and_eq_true,Bool.or_eq_true] at this ⊢
   rw [(h.words _ hi).signs]
   refine ⟨this.1,this.2.imp id fun hc => ?_⟩
   have:=(h.words _ hi).cuts e.2 (by simpa using hc)
   simpa using this
  ·rw [List.getElem?_eq_none (by omega)] at this
   simp at this
 ·have e1:lastE x out=lastE s out:=by
   unfold lastE
   rw [h.len]
   congr 1
   by_cases hi:(lastN out s.words.length).toNat < s.words.length
   ·rw [List.getElem?_eq_getElem hi,List.getElem?_eq_getElem (by rw [h.len];exact hi)]
    simp only
    rw [(h.words _ hi).signs]
   ·have:=h.len
    rw [List.getElem?_eq_none (show s.words.length≤(lastN out s.words.length).toNat by omega),List.getElem?_eq_none (show x.words.length≤(lastN out s.words.length).toNat by omega)]
  rw [e1];exact h4
theorem Wider.good (h:Wider s x) (hs:sheetI s=true) (hx:sheetI x=true) (ho:Tryz.outI s out=true) (hm:es∈goodS s out):es∈goodS x out:=by
 rw [mem_goodS hx (by rw [h.outI];exact ho)]
 rw [mem_goodS hs ho] at hm
 exact ⟨h.setR hm.1,h.fitI hm.2⟩
theorem Wider.count (h:Wider s x) (hs:sheetI s=true) (hx:sheetI x=true) (ho:Tryz.outI s out=true):(goodS s out).length≤(goodS x out).length :=
 nodup_len (befE_nodup (goodS_sorted hs)) fun _ hm=>h.good hs hx ho hm
end
end Go.Proofs.Tryz
namespace Go.Proofs.Tryz
open Go.AL
theorem lp0_len:∀ {all now:List End},all≠[]→(lp now all 0).length=1
 |[],_,h=>absurd rfl h
 |a::r,now,_=>by
  unfold lp
  by_cases hr:r=[]
  ·subst hr;simp [lp]
  ·simp only [if_neg hr,List.nil_append]
   exact lp0_len hr
theorem lp1_len:∀ {all now:List End},(lp now all 1).length=all.length
 |[],_=>rfl
 |a::r,now=>by
  unfold lp
  by_cases hr:r=[]
  ·subst hr;simp [lp]
  ·simp only [if_neg hr,List.length_append,List.length_cons]
   rw [lp0_len hr,lp1_len];omega
theorem lp2_len:∀ {all now:List End},all≠[]→2 * (lp now all 2).length=2+all.length * (all.length - 1)
 |[],_,h=>absurd rfl h
 |a::r,now,_=>by
  unfold lp
  by_cases hr:r=[]
  ·subst hr;simp [lp]
  ·simp only [if_neg hr,List.length_append,List.length_cons]
   rw [lp1_len,Nat.mul_add,lp2_len hr]
   obtain ⟨n,hn⟩:∃ n,r.length=n+1:=⟨r.length - 1,by have:=List.length_pos_iff.2 hr;omega⟩
   rw [hn]
   simp only [Nat.add_sub_cancel]
   have e1:(n+1+1) * (n+1)=(n+1) * n+2 * (n+1):=by
    rw [Nat.add_mul,Nat.mul_comm (n+1) n,Nat.add_mul n 1];omega
   omega
theorem ch_len {all now:List End} {m:Nat} (h:all.length≤24) (hm:m≤3):(ch now all m).length≤277:=by
 unfold ch
 split
 ·simp
 rename_i hne
 match m,hm with
 |0,_=>simp
 |1,_=>simp only;rw [lp0_len hne];omega
 |2,_=>simp only;rw [lp1_len];omega
 |3,_ =>
  simp only
  have:=lp2_len (now:=now) hne
  have:all.length * (all.length - 1)≤24 * 23:=Nat.mul_le_mul h (by omega)
  omega
theorem rises_bound {l:List Int} {lo hi:Int} (h:risesI l lo hi=true) (hle:lo≤hi+1):(l.length:Int)≤hi+1 - lo:=by
 have h':=h
 unfold risesI at h
 rw [adjI_iff] at h
 obtain ⟨h1,h2⟩:=h
 have key:∀ j (hj:j < l.length),lo+j≤l[j]:=by
  intro j
  induction j with
  |zero =>
   intro hj
   have:=h1 _ (List.getElem_mem hj)
   simp [inI] at this
   simpa using this.1
  |succ j ih =>
   intro hj
   have:=ih (by omega)
   have:=h2 j hj
   simp at this
   omega
 by_cases h0:l.length=0
 ·omega
 ·have a:=key (l.length - 1) (by omega)
  have b:=h1 _ (List.getElem_mem (show l.length - 1 < l.length by omega))
  simp [inI] at b
  omega
theorem endsW_len {s:Sheet} (hs:sheetI s=true) {out:List Int} (n:Nat):(endsW s out n).length≤lenW s n∧lenW s n≤6:=by
 unfold endsW lenW
 by_cases h:n < s.words.length
 ·rw [List.getElem?_eq_getElem h]
  have hw:=wordF hs (List.getElem_mem h)
  have h1:=hw.len1
  have:=rises_bound hw.cuts (by omega)
  have:=hw.len6
  split
  ·simp only [List.length_nil];omega
  ·simp only [List.length_append,List.length_map,List.length_cons,List.length_nil];omega
 ·rw [List.getElem?_eq_none (by omega)]
  split<;>simp
theorem endsL_len {s:Sheet} (hs:sheetI s=true) (out:List Int):(endsL s out).length≤24:=by
 unfold endsL
 have h4:=(sheetF hs).words.2
 have key:∀ m:Nat,((List.range m).flatMap (endsW s out)).length≤6 * m:=by
  intro m
  induction m with
  |zero=>simp
  |succ m ih =>
   rw [List.range_succ,List.flatMap_append,List.flatMap_singleton,List.length_append]
   have:=endsW_len hs (out:=out) m
   omega
 have:=key s.words.length
 omega
theorem allS_len {s:Sheet} (hs:sheetI s=true) (out:List Int) {m:Nat} (hm:m≤3):(allS s out m).length≤277:=ch_len (endsL_len hs out) hm
theorem goodS_len {s:Sheet} (hs:sheetI s=true) (out:List Int):(goodS s out).length≤277 :=
 Nat.le_trans (List.length_filter_le _ _) (allS_len hs out (by have:=(sheetF hs).rows;omega))
end Go.Proofs.Tryz
namespace Go.Proofs.Tryz
open Go Go.AL Go.RowKit Go.Proofs
attribute [local simp] awp_all qs_all ops_allN dops_allN ops_nil dops_nil ops_call ops_callv ops_alloc ops_box dops_call dops_alloc kO_eq kD_eq awanted apure ev Eff.S Eff.H tmpOf upd putD AL.start AV.dem AV.cells AV.storable AV.scells splice scrub abin loadA HR.okB post ares aress ares1 AV.out AV.isData ints_len ints_get fz fz1 AV.vw AV.vw1 boxy vI int undefA assignQ thenQ blockQ seqQ panQ prol prolH allocOf
variable {GI:World→Prop}
def lnI (s:Sheet) (out:List Int) (es:List End) (i:Nat):AV:=lnA (rowI s out es i) (cutI s es i)
def linesL (s:Sheet) (out:List Int) (es:List End) (n:Nat):List AV:=(List.range n).map (lnI s out es)
theorem linesL_succ (s:Sheet) (out:List Int) (es:List End) (n:Nat):linesL s out es (n+1)=linesL s out es n++[lnI s out es n]:=by
 unfold linesL;rw [List.range_succ,List.map_append];rfl
theorem lines_ok2 (s:Sheet) (out:List Int) (es:List End) (n:Nat):elemsOK 2 (linesL s out es n)=true:=elems_map fun a=>⟨rfl,rfl⟩
theorem gA_ok2 (l:List (Nat×Nat)):elemsOK 2 (l.map gA)=true:=elems_map fun a=>⟨rfl,rfl⟩
theorem linesL_len (s:Sheet) (out:List Int) (es:List End) (n:Nat):(linesL s out es n).length=n:=by unfold linesL;simp
def mwf (a:Nat) (S:Slots) (_:Boxes):Nat:=match S 6,S 7 with
 |.int _ w,.int _ f=>((a - w) * 1000+(1000 - f)).toNat
 |_,_=>0
def I81 (s:Sheet) (out:List Int) (es:List End) (i a b:Nat) (S:Slots) (H:Boxes):Prop:=S 2 = .box 2 0∧S 3 = .box 3 0∧H 2=some (frontL s)∧H 3=some [vI out,.slice .view (es.map endA)]∧S 12 = .slice .view (es.map endA)∧S 13 = .int .i64 es.length∧S 14 = .int .i64 (i:Nat)∧S 5=grow 109 (linesL s out es i)∧S 9 = .box 9 0∧H 9=some [.int .i64 a,.int .i64 b]∧S 10 = .box 10 0∧∃ (w f:Nat) (D:List (Nat×Nat)),H 10=some [grow 111 (D.map gA),.bool (cutI s es i)]∧S 6 = .int .i64 w∧S 7 = .int .i64 f∧D++rowG s out (w,f) (a,b)=rowI s out es i∧w≤a∧(w=a→f≤b)∧(w < a→f≤lenW s w)
set_option maxHeartbeats 2000000 in
theorem ac81 (hG:Stable GI) (s:Sheet) (hs:sheetI s=true) (out:List Int) (ho:out.length < 1000000) (es:List End) (he:es.length < 100000) (g:Good s out es):AC prog GI 81 [frontA s,settingA out es] (.ret (.slice .view (linesL s out es es.length))):=by
 have hF:=sheetF hs
 refine AC.as_view (o:=if linesL s out es es.length=[] then .nil else .view) ?_
 refine AC.of_body hG hmix func81 rfl ntmps81 (by simp) (ac:=c81) (by kernel_rfl) ?_
 refine awp_cut (fun S H=>S 2 = .box 2 0∧S 3 = .box 3 0∧H 2=some (frontL s)∧H 3=some [vI out,.slice .view (es.map endA)]) (by simp [ops_ap,dops_ap,frontA,frontL,sheetL,spaces,settingA,endsA]) ?_
 rintro S H ⟨s2,s3,e2,e3⟩
 simp [ops_ap,dops_ap,s2,s3,e2,e3]
 refine awp_loop 14 es.length (fun i S H=>S 2 = .box 2 0∧S 3 = .box 3 0∧H 2=some (frontL s)∧H 3=some [vI out,.slice .view (es.map endA)]∧S 12 = .slice .view (es.map endA)∧S 13 = .int .i64 es.length∧S 14 = .int .i64 (i:Nat)∧S 5=grow 109 (linesL s out es i)∧S 6 = .int .i64 (aft es i).1∧S 7 = .int .i64 (aft es i).2) (fun i S H h=>h.2.2.2.2.2.2.1) ⟨by simp [ops_ap,dops_ap,s2],by simp [ops_ap,dops_ap,s3],by simp [ops_ap,dops_ap,e2],by simp [ops_ap,dops_ap,e3],by simp [ops_ap,dops_ap],by simp [ops_ap,dops_ap],by simp [ops_ap,dops_ap],by simp [ops_ap,dops_ap,grow,linesL],by simp [ops_ap,dops_ap,aft],by simp [ops_ap,dops_ap,aft]⟩ ?_
 clear s2 s3 e2 e3 S H
 rintro i hi S H ⟨s2,s3,e2,e3,s12,s13,s14,s5,s6,s7⟩
 by_cases hlt:i < es.length
 case neg =>
  have hil:i=es.length:=by omega
  subst hil
  by_cases h0:linesL s out es es.length=[]
  ·have s5':S 5 = .slice .nil []:=by rw [s5,h0];rfl
   simp [ops_ap,dops_ap,s2,s3,e2,e3,s12,s13,s14,s5',h0]
  ·have s5':S 5 = .slice (.own 109) (linesL s out es es.length):=by rw [s5];simp [grow,h0]
   simp [ops_ap,dops_ap,s2,s3,e2,e3,s12,s13,s14,s5',h0]
 obtain ⟨g1,g2,g3,g4,g5⟩:=g.one i hlt
 obtain ⟨a,ha⟩:∃ a:Nat,es[i].1=a:=⟨es[i].1.toNat,by omega⟩
 obtain ⟨b,hb⟩:∃ b:Nat,es[i].2=b:=⟨es[i].2.toNat,by omega⟩
 have hE:es[i]=((a:Int),(b:Int)):=Prod.ext ha hb
 have hnE:nE es[i]=(a,b):=by rw [hE];rfl
 have hal:a < s.words.length:=by omega
 have hcut:cutI s es i=decide (b < s.words[a].signs.length):=by
  rw [cutI_eq hlt,hE]
  show decide ((b:Int) < (lenW s (a:Int).toNat:Int))=_
  rw [Int.toNat_natCast,lenW_eq hal,decide_eq_decide];omega
 rw [ha] at g3 g5
 rw [hb] at g4 g5
 have g5:b≤s.words[a].signs.length:=by rw [Int.toNat_natCast,lenW_eq hal] at g5;omega
 have hrow:rowI s out es i=rowG s out (aft es i) (a,b):=by rw [rowI_eq hlt,hnE]
 have hrl:=rowI_len hs g i
 have hw:IntKind.i64.wrap ((i:Int)+1)=i+1:=wrapI (by omega)
 have haft:aft es (i+1)=(a,b):=by
  show (match es[i]? with | some e=>nE e | none=>(0,0))=_
  rw [List.getElem?_eq_getElem hlt];exact hnE
 have hale:=aft_le g hlt
 rw [hnE] at hale
 simp [ops_ap,dops_ap,s2,s3,e2,e3,s12,s13,s14,hlt,hE,endA,frontL,sheetL,spaces,hal,wordA,fillA]
 refine ⟨I81 s out es i a b,mwf a,⟨by simp [ops_ap,dops_ap,s2],by simp [ops_ap,dops_ap,s3],by simp [ops_ap,dops_ap,e2,frontL,sheetL,spaces],by simp [ops_ap,dops_ap,e3],by simp [ops_ap,dops_ap,s12],by simp [ops_ap,dops_ap,s13],by simp [ops_ap,dops_ap,s14],by simp [ops_ap,dops_ap,s5,grow],by simp [ops_ap,dops_ap],by simp [ops_ap,dops_ap],by simp [ops_ap,dops_ap],(aft es i).1,(aft es i).2,[],by simp [ops_ap,dops_ap,grow,hcut],by simp [ops_ap,dops_ap,s6],by simp [ops_ap,dops_ap,s7],by rw [hrow];rfl,by omega,by omega,?_⟩,?_⟩
 ·intro _
  cases i with
  |zero=>exact Nat.zero_le _
  |succ j =>
   have hj:=g.one j (by omega)
   have:aft es (j+1)=nE es[j]:=by show (match es[j]? with | some e=>nE e | none=>(0,0))=_;rw [List.getElem?_eq_getElem (by omega)]
   rw [this];show es[j].2.toNat≤lenW s es[j].1.toNat;omega
 clear s2 s3 e2 e3 s12 s13 s14 s5 s6 s7 S H
 rintro S H ⟨s2,s3,e2,e3,s12,s13,s14,s5,s9,e9,s10,w,f,D,e10,s6,s7,hD,hwa,hfb,hfl⟩
 have hDl:D.length≤24:=by
  have:=congrArg List.length hD
  rw [List.length_append] at this;omega
 have hl6:=(endsW_len hs (out:=out) w).2
 have hl6a:=(endsW_len hs (out:=out) a).2
 rw [lenW_eq hal] at hl6a
 have hf6:f≤6:=by
  by_cases h:w < a
  ·have:=hfl h;omega
  ·have:=hfb (by omega);omega
 by_cases hgo:w < a∨w=a∧f < b
 case neg =>
  obtain rfl:w=a:=by omega
  obtain rfl:f=b:=by have:=hfb rfl;omega
  rw [rowG_self (Nat.le_refl _),List.append_nil] at hD
  have hDne:D≠[]:=by rw [hD];exact rowI_ne g hlt
  have hg:grow 111 (D.map gA) = .slice (.own 111) (D.map gA):=by simp [grow,hDne]
  rw [hg] at e10
  have hln:lnI s out es i = .agg [.slice .view (D.map gA),.bool (cutI s es i)]:=by rw [hD];rfl
  have hok1:elemsOK 2 [AV.agg [AV.slice .view (D.map gA),AV.bool (cutI s es i)]]=true:=rfl
  simp [s2,s3,e2,e3,s12,s13,s14,s5,s9,e9,s10,e10,s6,s7,hok1]
  refine aops_app (linesL s out es i) (lnI s out es i) (.own 109) (by simp [s5,grow]) (by rw [hln];simp) (by rw [hln];rfl) (lines_ok2 _ _ _ _) (by rw [linesL_len];omega) ?_
  intro S' sd hk'
  simp [sd,hk',s2,s3,e2,e3,s12,s13,s14,s6,s7,hw,hlt,haft,linesL_succ,grow,frontL,sheetL,spaces]
 have hwl:w < s.words.length:=by omega
 have hlw:=lenW_eq hwl
 refine awp_cut (fun S H=>S 2 = .box 2 0∧S 3 = .box 3 0∧H 2=some (frontL s)∧H 3=some [vI out,.slice .view (es.map endA)]∧S 12 = .slice .view (es.map endA)∧S 13 = .int .i64 es.length∧S 14 = .int .i64 (i:Nat)∧S 5=grow 109 (linesL s out es i)∧S 9 = .box 9 0∧H 9=some [.int .i64 a,.int .i64 b]∧S 10 = .box 10 0∧H 10=some [grow 111 (D.map gA),.bool (cutI s es i)]∧S 6 = .int .i64 w∧S 7 = .int .i64 f) ?_ ?_
 ·rcases hgo with hwlt | ⟨rfl,hfl'⟩
  ·have hwi:(w:Int) < a:=by omega
   simp [ops_ap,dops_ap,s2,s3,e2,e3,s12,s13,s14,s5,s9,e9,s10,e10,s6,s7,hwi,hwlt]
  ·have hfi:(f:Int) < b:=by omega
   simp [ops_ap,dops_ap,s2,s3,e2,e3,s12,s13,s14,s5,s9,e9,s10,e10,s6,s7,hfi,hfl']
 have hmm:mwf a S H=(a - w) * 1000+(1000 - f):=by unfold mwf;rw [s6,s7];simp only;omega
 rw [hmm]
 clear s2 s3 e2 e3 s12 s13 s14 s5 s9 e9 s10 e10 s6 s7 hmm S H
 rintro S H ⟨s2,s3,e2,e3,s12,s13,s14,s5,s9,e9,s10,e10,s6,s7⟩
 simp [s2,s3,e2,e3,s12,s13,s14,s5,s9,e9,s10,e10,s6,s7]
 refine ⟨_,by kernel_rfl,ac129 hG out ho w,fun _=>rfl,?_⟩
 have hw4:=hF.words.2
 have hw1:IntKind.i64.wrap ((w:Int)+1)=w+1:=wrapI (by omega)
 have hf1:IntKind.i64.wrap ((f:Int)+1)=f+1:=wrapI (by omega)
 have hw0:IntKind.i64.wrap 0=0:=wrapI (by omega)
 cases hct:out.contains (w:Int)
 case true =>
  have hwlt:w < a:=by
   rcases hgo with h | ⟨rfl,_⟩
   ·exact h
   ·rw [hct] at g3;cases g3
  simp [s2,s3,e2,e3,s12,s13,s14,s5,s9,e9,s10,e10,s6,s7,hw1,hw0]
  refine ⟨⟨by simp [ops_ap,dops_ap,s2],by simp [ops_ap,dops_ap,s3],e2,e3,by simp [ops_ap,dops_ap,s12],by simp [ops_ap,dops_ap,s13],by simp [ops_ap,dops_ap,s14],by simp [ops_ap,dops_ap,s5,grow],by simp [ops_ap,dops_ap,s9],e9,by simp [ops_ap,dops_ap,s10],w+1,0,D,e10,by simp [ops_ap,dops_ap],by simp [ops_ap,dops_ap],by rw [← hD,rowG_out hwlt hct],by omega,fun _=>Nat.zero_le _,fun _=>Nat.zero_le _⟩,?_⟩
  simp [mwf,upd]
  omega
 have hlen:(((w:Nat):Int)) < s.words.length:=by omega
 cases hfe:((f:Int)==s.words[w].signs.length)
 case true =>
  have hfe':lenW s w≤f:=by rw [hlw];simp at hfe;omega
  have hwlt:w < a:=by
   rcases hgo with h | ⟨rfl,h⟩
   ·exact h
   ·rw [hlw] at hfe';omega
  simp [s2,s3,e2,e3,s12,s13,s14,s5,s9,e9,s10,e10,s6,s7,hw1,hw0,frontL,sheetL,spaces,wordA,hwl,hfe]
  refine ⟨⟨by simp [ops_ap,dops_ap,s2],by simp [ops_ap,dops_ap,s3],e2,e3,by simp [ops_ap,dops_ap,s12],by simp [ops_ap,dops_ap,s13],by simp [ops_ap,dops_ap,s14],by simp [ops_ap,dops_ap,s5,grow],by simp [ops_ap,dops_ap,s9],e9,by simp [ops_ap,dops_ap,s10],w+1,0,D,e10,by simp [ops_ap,dops_ap],by simp [ops_ap,dops_ap],by rw [← hD,rowG_full hwlt hfe'],by omega,fun _=>Nat.zero_le _,fun _=>Nat.zero_le _⟩,?_⟩
  simp [mwf,upd]
  omega
 have hne:f≠s.words[w].signs.length:=by simp at hfe;omega
 have hfw:f < lenW s w:=by
  rcases hgo with h | ⟨rfl,h⟩
  ·have:=hfl h;omega
  ·omega
 have hok1:elemsOK 2 [AV.agg [AV.int .i64 (w:Nat),AV.int .i64 (f:Nat)]]=true:=rfl
 simp [s2,s3,e2,e3,s12,s13,s14,s5,s9,e9,s10,e10,s6,s7,frontL,sheetL,spaces,wordA,hwl,hfe,fillA,hok1]
 refine aops_app (D.map gA) (gA (w,f)) (.own 111) (by simp [grow]) (by simp [gA]) rfl (gA_ok2 _) (by rw [List.length_map];omega) ?_
 intro S' sd hk'
 simp [sd,hk',s2,s3,e2,e3,s12,s13,s14,s5,s9,e9,s10,s6,s7,hf1,grow]
 refine ⟨⟨by simp [ops_ap,dops_ap,hk',s2],by simp [ops_ap,dops_ap,hk',s3],?_,?_,by simp [ops_ap,dops_ap,hk',s12],by simp [ops_ap,dops_ap,hk',s13],by simp [ops_ap,dops_ap,hk',s14],by simp [ops_ap,dops_ap,hk',s5,grow],by simp [ops_ap,dops_ap,hk',s9],?_,by simp [ops_ap,dops_ap,hk',s10],w,f+1,D++[(w,f)],?_,by simp [ops_ap,dops_ap,hk',s6],by simp [ops_ap,dops_ap],?_,hwa,?_,?_⟩,?_⟩
 ·simp [ops_ap,dops_ap,e2,frontL,sheetL,spaces]
 ·simp [ops_ap,dops_ap,e3]
 ·simp [ops_ap,dops_ap,e9]
 ·simp [ops_ap,dops_ap,grow]
 ·have hgr:rowG s out (w,f) (a,b)=(w,f)::rowG s out (w,f+1) (a,b):=rowG_go (by
   rcases hgo with h | h
   ·exact .inl ⟨h,hct,hfw⟩
   ·exact .inr h)
  rw [← hD,hgr];simp
 ·intro h;rcases hgo with h' | h'<;>omega
 ·intro _;omega
 ·simp [mwf,upd,hk',s6]
  omega
end Go.Proofs.Tryz
namespace Go.Proofs.Tryz
open Go.AL
def letsN (l:List Word):Nat:=(l.map fun w=>w.signs.length).sum
def lessS (s:Sheet) (k:Nat):Sheet:={ s with words:=shorterW s.words k }
theorem letsS_pre {s:Sheet} {l r:List Lt}:∀ {i:Nat},i≤l.length→letsS s (l++r) i=letsS s l i
 |0,_=>rfl
 |i+1,h=>by
  rw [letsS_succ (by rw [List.length_append];omega),letsS_succ (by omega),letsS_pre (by omega),List.getElem_append_left (by omega)]
theorem gapsS_pre {s:Sheet} {st:Int} {l r:List Lt}:∀ {i:Nat},i+1≤l.length→gapsS s st (l++r) i=gapsS s st l i
 |0,_=>rfl
 |i+1,h=>by
  rw [gapsS_succ (by rw [List.length_append];omega),gapsS_succ h,gapsS_pre (by omega),List.getElem_append_left (by omega),List.getElem_append_left (by omega)]
theorem wideP_snoc {s:Sheet} (h:SheetF s) {st:Int} (h0:0≤st) (h1:st≤10) {l:List Lt} (hl:l≠[]) {a:Lt} (ha:okL s a):wideP s st l false≤wideP s st (l++[a]) false:=by
 have hpos:=List.length_pos_iff.2 hl
 unfold wideP
 simp only [List.length_append,List.length_cons,List.length_nil,Nat.zero_add,Nat.add_sub_cancel,Bool.false_eq_true,if_false]
 rw [letsS_succ (by simp),letsS_pre (Nat.le_refl _)]
 obtain ⟨n,hn⟩:∃ n,l.length=n+1:=⟨l.length - 1,by omega⟩
 have e1:=gapsS_succ (s:=s) (st:=st) (l:=l++[a]) (i:=n) (by simp;omega)
 rw [gapsS_pre (l:=l) (i:=n) (by omega)] at e1
 have h3:=spc_bounds h h0 h1 ((l++[a])[n]'(by simp;omega)) ((l++[a])[n+1]'(by simp;omega))
 have h4:=wdL_bounds h ha
 have e2:(l++[a])[l.length]'(by simp)=a:=by simp
 have e3:gapsS s st (l++[a]) l.length=gapsS s st (l++[a]) (n+1):=by rw [hn]
 have e4:gapsS s st l (l.length - 1)=gapsS s st l n:=by rw [hn];rfl
 rw [e2,e3,e4,e1]
 omega
theorem wideP_cut {s:Sheet} (h:SheetF s) {st:Int} (h0:0≤st) (h1:st≤10) (l:List Lt):wideP s st l false≤wideP s st l true:=by
 unfold wideP
 have:=betw_bounds h.o.2.1 h0 h1
 have:=h.o
 have:=h.hyphen
 simp only [Bool.false_eq_true,if_false,if_true]
 omega
structure Lost (s x:Sheet) (m:Nat) (z:Nat×Nat) (z':Nat×Nat):Prop where
 widths:x.widths=s.widths
 pairs:x.pairs=s.pairs
 olo:x.olo=s.olo
 ohi:x.ohi=s.ohi
 glo:x.glo=s.glo
 ghi:x.ghi=s.ghi
 hyphen:x.hyphen=s.hyphen
 wide:x.wide=s.wide
 rows:x.rows=s.rows
 hm:s.words.length=m+1
 hz:z=(m,lenW s m)
 low:∀ i,i < m→lenW x i=lenW s i
 let':∀ g:Nat×Nat,g.2 < lenW x g.1→letS x g=letS s g
 kind:(2≤lenW s m∧x.words.length=m+1∧lenW x m=lenW s m - 1∧z'=(m,lenW s m - 1))∨(lenW s m=1∧1≤m∧x.words.length=m∧z'=(m - 1,lenW s (m - 1)))
 ends:∀ e:End,okE s [] e=true→nE e≠z→nE e≠z'→okE x [] e=true
 okz:okE x [] ((z'.1:Int),(z'.2:Int))=true
 lastz:lastE x []=((z'.1:Int),(z'.2:Int))
section
variable {s x:Sheet} {m:Nat} {z z':Nat×Nat}
theorem rowN_low (hl:∀ i,i < m→lenW x i=lenW s i):∀ (d w f t:Nat),w+d≤m→rowN x [] d w f t=rowN s [] d w f t
 |0,_,_,_,_=>rfl
 |d+1,w,f,t,h=>by
  unfold rowN
  rw [hl w (by omega),rowN_low hl d (w+1) 0 t (by omega)]
theorem rowN_snoc:∀ (d w f t:Nat),(d=0→f≤t)→rowN s [] d w f (t+1)=rowN s [] d w f t++[(w+d,t)]
 |0,w,f,t,h=>by
  unfold rowN
  exact seg_snoc (h rfl)
 |d+1,w,f,t,h=>by
  unfold rowN
  rw [rowN_snoc d (w+1) 0 t (fun _=>by omega),List.append_assoc,show w+1+d=w+(d+1) by omega]
theorem rowN_full:∀ (d w f:Nat),rowN s [] (d+1) w f 0=rowN s [] d w f (lenW s (w+d))
 |0,w,f=>by
  show (if ([]:List Int).contains (w:Int) then [] else seg w f (lenW s w))++seg (w+1) 0 0=seg w f (lenW s (w+0))
  rw [if_neg (by simp),seg_nil (Nat.le_refl _),List.append_nil];rfl
 |d+1,w,f=>by
  have h1:=rowN_full d (w+1) 0
  show (if ([]:List Int).contains (w:Int) then [] else seg w f (lenW s w))++rowN s [] (d+1) (w+1) 0 0=(if ([]:List Int).contains (w:Int) then [] else seg w f (lenW s w))++rowN s [] d (w+1) 0 (lenW s (w+(d+1)))
  rw [h1,show w+1+d=w+(d+1) by omega]
theorem setR_parts {s:Sheet} {out:List Int} {es:List End} (h:setR s out es=true):outI s out=true∧es≠[]∧(∀ e∈es,okE s out e=true)∧(∀ j (hj:j+1 < es.length),soonerI (es[j]'(by omega)) es[j+1]=true)∧es.getLast?.getD (-1,0)=lastE s out:=by
 unfold setR at h
 simp only [Bool.and_eq_true,adjI_iff,Bool.not_eq_true',beq_iff_eq] at h
 obtain ⟨⟨h1,h2⟩,⟨h3,h4⟩,h5⟩:=h
 exact ⟨h1,(by rintro rfl;cases h2),h3,h4,h5⟩
theorem setR_of {s:Sheet} {out:List Int} {es:List End} (h1:outI s out=true) (h2:es≠[]) (h3:∀ e∈es,okE s out e=true) (h4:Sorted es) (h5:es.getLast?.getD (-1,0)=lastE s out):setR s out es=true:=by
 unfold setR
 simp only [Bool.and_eq_true,adjI_iff,Bool.not_eq_true',beq_iff_eq]
 exact ⟨⟨h1,by cases es with | nil=>exact absurd rfl h2 | cons _ _=>rfl⟩,⟨h3,fun j hj=>List.pairwise_iff_getElem.1 h4 j (j+1) _ _ (by omega)⟩,h5⟩
theorem nE_cast {e:End} (h1:0≤e.1) (h2:0≤e.2) {w k:Nat} (h:nE e=(w,k)):e=((w:Int),(k:Int)):=by
 unfold nE at h
 obtain ⟨a,b⟩:=e
 simp only [Prod.mk.injEq] at h ⊢
 simp only at h1 h2
 omega
theorem lost_good (hL:Lost s x m z z') (hs:sheetI s=true) (hx:sheetI x=true) {es:List End} (he:es∈goodS s []):goodS x []≠[]:=by
 have ho:∀ {y:Sheet},sheetI y=true→outI y []=true:=by
  intro y hy
  have:=(sheetF hy).words.1
  unfold outI risesI adjI
  simp;omega
 rw [mem_goodS hs (ho hs)] at he
 obtain ⟨hset,hfit⟩:=he
 have g:=good_of hs hset
 obtain ⟨_,hne,hok,hadj,hlast⟩:=setR_parts hset
 have hsort:=sorted_of_adj hadj
 have hsort':=List.pairwise_iff_getElem.1 hsort
 obtain ⟨n,hn⟩:∃ n,es.length=n+1:=⟨es.length - 1,by have:=List.length_pos_iff.2 hne;omega⟩
 have hm:=hL.hm
 have hz:=hL.hz
 have hen:nE es[n]=z:=by
  have h1:es[n]=lastE s []:=by
   rw [List.getLast?_eq_getElem?,hn] at hlast
   simpa [hn] using hlast
  rw [h1,hz]
  unfold lastE nE
  have h2:lastN [] s.words.length=m:=by rw [hm];unfold lastN;simp
  rw [h2,Int.toNat_natCast,List.getElem?_eq_getElem (by omega)]
  simp only [Int.toNat_natCast]
  rw [lenW_eq (by omega)]
 have hgn:=g.one n (by omega)
 have hlow:∀ i (hi:i < n),(nE es[i]).1 < z.1∨(nE es[i]).1=z.1∧(nE es[i]).2 < z.2:=by
  intro i hi
  have h1:=hsort' i n (by omega) (by omega) hi
  rw [soonerI_iff] at h1
  have h2:=g.one i (by omega)
  rw [← hen]
  show es[i].1.toNat < es[n].1.toNat∨es[i].1.toNat=es[n].1.toNat∧es[i].2.toNat < es[n].2.toNat
  omega
 have hz'0:1≤z'.2:=by
  rcases hL.kind with ⟨k1,k2,k3,k4⟩ | ⟨k1,k2,k3,k4⟩
  ·rw [k4];simp only;omega
  ·rw [k4];simp only
   rw [lenW_eq (by omega)]
   exact (wordF hs (List.getElem_mem _)).len1
 have hlow':∀ i (hi:i < n),nE es[i]=z'∨(nE es[i]).1 < z'.1∨(nE es[i]).1=z'.1∧(nE es[i]).2 < z'.2:=by
  intro i hi
  have h1:=hlow i hi
  have h2:=g.one i (by omega)
  have e1:(nE es[i]).1=es[i].1.toNat:=rfl
  have e2:(nE es[i]).2=es[i].2.toNat:=rfl
  rw [hz] at h1
  simp only at h1
  rcases hL.kind with ⟨k1,k2,k3,k4⟩ | ⟨k1,k2,k3,k4⟩
  ·rw [k4]
   simp only
   by_cases h3:(nE es[i]).1 < m
   ·exact .inr (.inl h3)
   ·by_cases h4:(nE es[i]).2=lenW s m - 1
    ·left
     apply Prod.ext
     ·simp only;omega
     ·exact h4
    ·right;right;omega
  ·rw [k4]
   simp only
   have h3:(nE es[i]).1 < m:=by omega
   by_cases h5:(nE es[i]).1=m - 1
   ·have h6:(nE es[i]).2≤lenW s (m - 1):=by rw [← h5,e1,e2];omega
    by_cases h4:(nE es[i]).2=lenW s (m - 1)
    ·left
     exact Prod.ext h5 h4
    ·right;right;omega
   ·right;left;omega
 have hz'lt:z'.1 < x.words.length:=by
  rcases hL.kind with ⟨k1,k2,k3,k4⟩ | ⟨k1,k2,k3,k4⟩<;>rw [k4]<;>simp only<;>omega
 have hfx:=sheetF hx
 have hle:∀ i,lenW x i≤lenW s i∨¬ i≤m:=by
  intro i
  by_cases h1:i < m
  ·left;rw [hL.low i h1];exact Nat.le_refl _
  ·by_cases h2:i=m
   ·left
    subst h2
    rcases hL.kind with ⟨k1,k2,k3,k4⟩ | ⟨k1,k2,k3,k4⟩
    ·omega
    ·have:lenW x i=0:=by unfold lenW;rw [List.getElem?_eq_none (by omega)]
     omega
   ·right;omega
 have hrows:∀ es':List End,Good x [] es'→∀ i (hi:i < n) (hi':i < es'.length),(∀ j (hj:j≤i),es'[j]'(by omega)=es[j]'(by omega))→wideI x [] es' 0 i≤wideI s [] es 0 i:=by
  intro es' g' i hi hi' heq
  have e1:es'[i]=es[i]:=heq i (Nat.le_refl _)
  have ea:aft es' i=aft es i:=by
   cases i with
   |zero=>rfl
   |succ i =>
    show (match es'[i]? with | some e=>nE e | none=>(0,0))=(match es[i]? with | some e=>nE e | none=>(0,0))
    rw [List.getElem?_eq_getElem (by omega),List.getElem?_eq_getElem (by omega),heq i (by omega)]
  have hl1:=hlow i hi
  have hm1:(nE es[i]).1≤m:=by rw [hz] at hl1;simp only at hl1;omega
  have er:rowI x [] es' i=rowI s [] es i:=by
   rw [rowI_eq hi',rowI_eq (by omega),e1,ea]
   unfold rowG
   have:=aft_le g (i:=i) (by omega)
   exact rowN_low hL.low _ _ _ _ (by omega)
  have el:(rowI s [] es i).map (letS x)=(rowI s [] es i).map (letS s):=by
   refine List.map_congr_left fun gl hgl=>hL.let' gl ?_
   rw [← er] at hgl
   exact (rowI_mem g' hgl).2
  unfold wideI
  rw [er,el,wideP_congr hL.widths hL.pairs hL.olo hL.ohi hL.glo hL.ghi hL.hyphen]
  have hc:cutI x es' i=true→cutI s es i=true:=by
   rw [cutI_eq hi',cutI_eq (by omega),e1]
   simp only [decide_eq_true_eq]
   intro h
   rcases hle es[i].1.toNat with h2 | h2
   ·omega
   ·exact absurd hm1 h2
  cases hcx:cutI x es' i with
  |true=>rw [hc hcx];exact Int.le_refl _
  |false =>
   cases hcs:cutI s es i with
   |false=>exact Int.le_refl _
   |true=>exact wideP_cut (sheetF hs) (by decide) (by decide) _
 have hfit':∀ es':List End,setR x [] es'=true→es'.length≤es.length→(∀ i,i < es'.length→wideI x [] es' 0 i≤wideI s [] es 0 i)→goodS x []≠[]:=by
  intro es' h1 h2 h3
  have:es'∈goodS x []:=by
   rw [mem_goodS hx (ho hx)]
   refine ⟨h1,?_⟩
   unfold fitI widthsI at hfit ⊢
   simp only [Bool.and_eq_true,List.all_eq_true,List.mem_map,List.mem_range,decide_eq_true_eq] at hfit ⊢
   have hw:=hL.wide
   have hr:=hL.rows
   refine ⟨by omega,?_⟩
   rintro k ⟨i,hi,rfl⟩
   have:=hfit.2 _ ⟨i,by omega,rfl⟩
   have:=h3 i hi
   omega
  intro e
  rw [e] at this;cases this
 by_cases hp:∃ k,∃ hk:k+1=n,nE (es[k]'(by omega))=z'
 ·
  obtain ⟨k,hk,hpe⟩:=hp
  have htl:(es.take n).length=n:=by rw [List.length_take];omega
  have hget:∀ j (hj:j < n),(es.take n)[j]'(by omega)=es[j]'(by omega):=fun j hj=>List.getElem_take
  have hset':setR x [] (es.take n)=true:=by
   refine setR_of (ho hx) ?_ ?_ (hsort.sublist (List.take_sublist _ _)) ?_
   ·intro e
    rw [e] at htl;simp at htl;omega
   ·intro e he
    obtain ⟨j,hj,rfl⟩:=List.getElem_of_mem he
    rw [hget j (by omega)]
    have h1:=hlow j (by omega)
    by_cases hz1:nE es[j]=z'
    ·have h2:=g.one j (by omega)
     rw [nE_cast (w:=z'.1) (k:=z'.2) h2.1 (by omega) hz1]
     exact hL.okz
    ·refine hL.ends _ (hok _ (List.getElem_mem _)) (fun h => ?_) hz1
     rw [h] at h1;omega
   ·have e1:(es.take n).getLast? = some (es[k]'(by omega)):=by
     rw [List.getLast?_eq_getElem?,htl]
     have:n - 1=k:=by omega
     rw [this,List.getElem?_eq_getElem (by omega),hget k (by omega)]
    rw [e1,hL.lastz]
    have h2:=g.one k (by omega)
    exact nE_cast h2.1 (by omega) hpe
  refine hfit' _ hset' (by omega) fun i hi => ?_
  rw [htl] at hi
  exact hrows _ (good_of hx hset') i hi (by omega) fun j hj=>hget j (by omega)
 ·
  have hlt:∀ i (hi:i < n),(nE es[i]).1 < z'.1∨(nE es[i]).1=z'.1∧(nE es[i]).2 < z'.2:=by
   intro i hi
   by_cases hin:i+1=n
   ·rcases hlow' i hi with h | h
    ·exact absurd ⟨i,hin,h⟩ hp
    ·exact h
   ·have h1:=hsort' i (n - 1) (by omega) (by omega) (by omega)
    rw [soonerI_iff] at h1
    have h2:=g.one i (by omega)
    have h3:=g.one (n - 1) (by omega)
    have h4:=hlow' (n - 1) (by omega)
    have e1:(nE es[i]).1=es[i].1.toNat:=rfl
    have e2:(nE es[i]).2=es[i].2.toNat:=rfl
    have e3:(nE es[n - 1]).1=es[n - 1].1.toNat:=rfl
    have e4:(nE es[n - 1]).2=es[n - 1].2.toNat:=rfl
    rcases h4 with h4 | h4
    ·have e5:=congrArg Prod.fst h4
     have e6:=congrArg Prod.snd h4
     omega
    ·omega
  have htl:(es.take n).length=n:=by rw [List.length_take];omega
  let es':=es.take n++[((z'.1:Int),(z'.2:Int))]
  have hl':es'.length=n+1:=by simp [es',htl]
  have hget:∀ j (hj:j < n),es'[j]'(by omega)=es[j]'(by omega):=fun j hj=>by
   show (es.take n++[((z'.1:Int),(z'.2:Int))])[j]'(by simp;omega)=_
   rw [List.getElem_append_left (by omega),List.getElem_take]
  have hgetn:es'[n]'(by omega)=((z'.1:Int),(z'.2:Int)):=by
   show (es.take n++[((z'.1:Int),(z'.2:Int))])[n]'(by simp;omega)=_
   rw [List.getElem_append_right (by omega)]
   simp
  have hset':setR x [] es'=true:=by
   refine setR_of (ho hx) (by simp [es']) ?_ ?_ ?_
   ·intro e he
    obtain ⟨j,hj,rfl⟩:=List.getElem_of_mem he
    by_cases hjn:j < n
    ·rw [hget j hjn]
     have h1:=hlow j hjn
     have h2:=hlt j hjn
     refine hL.ends _ (hok _ (List.getElem_mem _)) (fun h => ?_) (fun h => ?_)
     ·rw [h] at h1;omega
     ·rw [h] at h2;omega
    ·have:j=n:=by omega
     subst this
     rw [hgetn];exact hL.okz
   ·refine sorted_of_adj fun j hj => ?_
    rw [hget j (by omega)]
    by_cases hjn:j+1 < n
    ·rw [hget (j+1) hjn];exact hadj j (by omega)
    ·have:j+1=n:=by omega
     subst this
     rw [hgetn,soonerI_iff]
     have h1:=hlt j (by omega)
     have h2:=g.one j (by omega)
     have e1:(nE es[j]).1=es[j].1.toNat:=rfl
     have e2:(nE es[j]).2=es[j].2.toNat:=rfl
     simp only;omega
   ·simp [es',hL.lastz]
  refine hfit' _ hset' (by omega) fun i hi => ?_
  by_cases hin:i < n
  ·exact hrows _ (good_of hx hset') i hin (by omega) fun j hj=>hget j (by omega)
  have:i=n:=by omega
  subst this
  have g':=good_of hx hset'
  have ea:aft es' i=aft es i:=by
   cases i with
   |zero=>rfl
   |succ i =>
    show (match es'[i]? with | some e=>nE e | none=>(0,0))=(match es[i]? with | some e=>nE e | none=>(0,0))
    rw [List.getElem?_eq_getElem (by omega),List.getElem?_eq_getElem (by omega),hget i (by omega)]
  have hza:nE es'[i]=z':=by rw [hgetn];rfl
  have hal:=aft_le g (i:=i) (by omega)
  have hal':=aft_le g' hi
  rw [ea,hza] at hal'
  rw [hen] at hal
  have er':rowI x [] es' i=rowG x [] (aft es i) z':=by rw [rowI_eq hi,ea,hza]
  have er:∃ gl,gl.1 < s.words.length∧gl.2 < lenW s gl.1∧rowI s [] es i=rowI x [] es' i++[gl]:=by
   rw [er',rowI_eq (by omega),hen]
   unfold rowG
   rw [hz]
   rcases hL.kind with ⟨k1,k2,k3,k4⟩ | ⟨k1,k2,k3,k4⟩
   ·refine ⟨(m,lenW s m - 1),by simp only;omega,by simp only;omega,?_⟩
    rw [k4] at hal' ⊢
    simp only at hal' ⊢
    obtain ⟨L,hLe⟩:∃ L,lenW s m=L+1:=⟨lenW s m - 1,by omega⟩
    rw [hLe] at hal' ⊢
    simp only [Nat.add_sub_cancel] at hal' ⊢
    rw [rowN_snoc _ _ _ _ (fun h=>by omega),rowN_low hL.low _ _ _ _ (by omega)]
    congr 3
    omega
   ·refine ⟨(m,0),by simp only;omega,by simp only;omega,?_⟩
    rw [k4] at hal' ⊢
    rw [k1]
    simp only at hal' ⊢
    have hd:(aft es i).1≤m - 1:=by omega
    obtain ⟨d,hd'⟩:∃ d,m=(aft es i).1+d+1:=⟨m - 1 - (aft es i).1,by omega⟩
    have e1:m - (aft es i).1=d+1:=by omega
    have e2:m - 1 - (aft es i).1=d:=by omega
    rw [e1,e2,rowN_snoc _ _ _ _ (fun h=>by omega),rowN_full,rowN_low hL.low _ _ _ _ (by omega)]
    have e3:(aft es i).1+d=m - 1:=by omega
    have e4:(aft es i).1+(d+1)=m:=by omega
    rw [e3,e4]
  obtain ⟨gl,hg1,hg2,er⟩:=er
  have el:(rowI x [] es' i).map (letS x)=(rowI x [] es' i).map (letS s) :=
   List.map_congr_left fun gl hgl=>hL.let' gl (rowI_mem g' hgl).2
  have hne':(rowI x [] es' i).map (letS s)≠[]:=fun e=>rowI_ne g' hi (List.map_eq_nil_iff.1 e)
  have hcs:cutI s es i=false:=by
   rw [cutI_eq (by omega)]
   have e1:=congrArg Prod.fst hen
   have e2:=congrArg Prod.snd hen
   rw [hz] at e1 e2
   have e1:es[i].1.toNat=m:=e1
   have e2:es[i].2.toNat=lenW s m:=e2
   rw [e1]
   simp;omega
  have hcx:cutI x es' i=false:=by
   rw [cutI_eq hi,hgetn]
   simp only [Int.toNat_natCast,decide_eq_false_iff_not,Int.ofNat_lt]
   rcases hL.kind with ⟨k1,k2,k3,k4⟩ | ⟨k1,k2,k3,k4⟩
   ·rw [k4];simp only;omega
   ·rw [k4];simp only
    rw [hL.low _ (by omega)];omega
  unfold wideI
  rw [hcs,hcx,el,er,wideP_congr hL.widths hL.pairs hL.olo hL.ohi hL.glo hL.ghi hL.hyphen,List.map_append,List.map_cons,List.map_nil]
  exact wideP_snoc (sheetF hs) (by decide) (by decide) hne' (letS_ok hs ⟨hg1,hg2⟩)
end
end Go.Proofs.Tryz
namespace Go.Proofs.Tryz
open Go Go.AL Go.RowKit Go.Proofs
attribute [local simp] awp_all qs_all ops_allN dops_allN ops_nil dops_nil ops_call ops_callv ops_alloc ops_box dops_call dops_alloc kO_eq kD_eq awanted apure ev Eff.S Eff.H tmpOf upd putD AL.start AV.dem AV.cells AV.storable AV.scells splice scrub abin loadA HR.okB post ares aress ares1 AV.out AV.isData ints_len ints_get fz fz1 AV.vw AV.vw1 boxy vI int undefA assignQ thenQ blockQ seqQ panQ prol prolH allocOf
variable {GI:World→Prop}
theorem pairs_apart {s:Sheet} (hs:sheetI s=true):∀ i j (hi:i < s.pairs.length) (hj:j < s.pairs.length),i < j→¬ (s.pairs[i].l=s.pairs[j].l∧s.pairs[i].r=s.pairs[j].r):=by
 unfold sheetI at hs
 simp only [Bool.and_eq_true] at hs
 have h:=hs.1.2
 rw [adjI_iff] at h
 have hp:Sorted (s.pairs.map fun p=>(p.l,p.r)):=sorted_of_adj fun j hj=>by
  rw [List.getElem_map,List.getElem_map]
  exact h.2 j (by simpa using hj)
 intro i j hi hj hij he
 have:=List.pairwise_iff_getElem.1 hp i j (by simpa using hi) (by simpa using hj) hij
 rw [List.getElem_map,List.getElem_map,he.1,he.2,soonerI_irrefl] at this
 cases this
theorem ac80f (hG:Stable GI) (s:Sheet) (hs:sheetI s=true):AC prog GI 80 [sheetA s] (.ret (frontA s)):=by
 have hF:=sheetF hs
 exact ac80 hG (sA:=sheetL s) (ps:=s.pairs) rfl rfl (by simp [sheetL,vI,int,AV.storable,isVal]) (by have:=hF.plen;omega) (pairs_apart hs)
theorem widthsI_len (s:Sheet) (out:List Int) (es:List End) (st:Int):(widthsI s out es st).length=es.length:=by unfold widthsI;simp
end Go.Proofs.Tryz
namespace Go.Proofs.Tryz
open Go Go.AL Go.RowKit Go.Proofs
attribute [local simp] awp_all qs_all ops_all dops_all ops_nil dops_nil ops_call ops_callv ops_alloc ops_box dops_call dops_alloc kO_eq kD_eq awanted apure ev Eff.S Eff.H tmpOf upd putD AL.start AV.dem AV.cells AV.storable AV.scells splice scrub abin loadA HR.okB post ares aress ares1 AV.out AV.isData ints_len ints_get fz fz1 AV.vw AV.vw1 boxy vI int undefA assignQ thenQ blockQ seqQ panQ prol prolH allocOf
variable {GI:World→Prop}
end Go.Proofs.Tryz
namespace Go.Proofs.Tryz
open Go Go.AL Go.RowKit Go.Proofs
attribute [local simp] awp_all qs_all ops_allN dops_allN ops_nil dops_nil ops_call ops_callv ops_alloc ops_box dops_call dops_alloc kO_eq kD_eq awanted apure ev Eff.S Eff.H tmpOf upd putD AL.start AV.dem AV.cells AV.storable AV.scells splice scrub abin loadA HR.okB post ares aress ares1 AV.out AV.isData ints_len ints_get fz fz1 AV.vw AV.vw1 boxy vI int undefA assignQ thenQ blockQ seqQ panQ prol prolH allocOf
variable {GI:World→Prop}
end Go.Proofs.Tryz
namespace Go.Proofs.Tryz
open Go Go.AL Go.RowKit Go.Proofs
attribute [local simp] awp_all qs_all ops_allN dops_allN ops_nil dops_nil ops_call ops_callv ops_alloc ops_box dops_call dops_alloc kO_eq kD_eq awanted apure ev Eff.S Eff.H tmpOf upd putD AL.start AV.dem AV.cells AV.storable AV.scells splice scrub abin loadA HR.okB post ares aress ares1 AV.out AV.isData ints_len ints_get fz fz1 AV.vw AV.vw1 boxy vI int undefA assignQ thenQ blockQ seqQ panQ prol prolH allocOf
variable {GI:World→Prop}
end Go.Proofs.Tryz
namespace Go.Proofs.Tryz
open Go Go.AL Go.RowKit Go.Proofs
attribute [local simp] awp_all qs_all ops_allN dops_allN ops_nil dops_nil ops_call ops_callv ops_alloc ops_box dops_call dops_alloc kO_eq kD_eq awanted apure ev Eff.S Eff.H tmpOf upd putD AL.start AV.dem AV.cells AV.storable AV.scells splice scrub abin loadA HR.okB post ares aress ares1 AV.out AV.isData ints_len ints_get fz fz1 AV.vw AV.vw1 boxy vI int undefA assignQ thenQ blockQ seqQ panQ prol prolH allocOf
variable {GI:World→Prop}
end Go.Proofs.Tryz
namespace Go.Proofs.Tryz
open Go.AL
variable {s:Sheet} {st:Int} {l:List Lt}
end Go.Proofs.Tryz
namespace Go.Proofs.Tryz
open Go Go.AL Go.RowKit Go.Proofs
attribute [local simp] awp_all qs_all ops_allN dops_allN ops_nil dops_nil ops_call ops_callv ops_alloc ops_box dops_call dops_alloc kO_eq kD_eq awanted apure ev Eff.S Eff.H tmpOf upd putD AL.start AV.dem AV.cells AV.storable AV.scells splice scrub abin loadA HR.okB post ares aress ares1 AV.out AV.isData ints_len ints_get fz fz1 AV.vw AV.vw1 boxy vI int undefA assignQ thenQ blockQ seqQ panQ prol prolH allocOf
variable {GI:World→Prop}
end Go.Proofs.Tryz
namespace Go.Proofs.Tryz
open Go.AL
def FineW (w:Word):Prop:=1≤w.signs.length∧∀ c∈w.cuts,c < w.signs.length
theorem fineW {s:Sheet} (h:sheetI s=true) {w:Word} (hw:w∈s.words):FineW w:=by
 have f:=wordF h hw
 refine ⟨f.len1,fun c hc => ?_⟩
 have:=f.cuts
 unfold risesI at this
 rw [adjI_iff] at this
 have:=this.1 c hc
 simp [inI] at this
 omega
theorem cutW_full {w:Word} (h:FineW w):({ signs:=w.signs.take w.signs.length,cuts:=w.cuts.filter fun c => !decide ((w.signs.length:Int)≤c),free:=w.free }:Word)=w:=by
 have e1:w.signs.take w.signs.length=w.signs:=List.take_of_length_le (Nat.le_refl _)
 have e2:(w.cuts.filter fun c => !decide ((w.signs.length:Int)≤c))=w.cuts:=by
  rw [List.filter_eq_self]
  intro c hc
  have:=h.2 c hc
  simp;omega
 rw [e1,e2]
theorem letsN_cons (w:Word) (l:List Word):letsN (w::l)=w.signs.length+letsN l:=rfl
theorem letsN_app (l r:List Word):letsN (l++r)=letsN l+letsN r:=by
 induction l with
 |nil=>simp [letsN]
 |cons a l ih=>rw [List.cons_append,letsN_cons,letsN_cons,ih];omega
theorem shorter_app:∀ {l r:List Word} {k:Nat},(∀ w∈l,FineW w)→shorterW (l++r) (letsN l+k)=l++(shorterW r k)
 |[],r,k,_=>by simp [letsN]
 |w::l,r,k,h=>by
  have hw:=h w List.mem_cons_self
  have e0:letsN (w::l)+k≠0:=by rw [letsN_cons];have:=hw.1;omega
  have e1:min (letsN (w::l)+k) w.signs.length=w.signs.length:=by rw [letsN_cons];omega
  rw [List.cons_append]
  unfold shorterW
  rw [if_neg e0,e1,cutW_full hw]
  have e2:letsN (w::l)+k - w.signs.length=letsN l+k:=by rw [letsN_cons];omega
  rw [e2,shorter_app fun x hx=>h x (List.mem_cons_of_mem _ hx)]
  cases r<;>rfl
theorem shorter_len:∀ {l:List Word} {k:Nat},(∀ w∈l,FineW w)→k≤letsN l→letsN (shorterW l k)=k
 |[],k,_,hk=>by simp [letsN] at hk;subst hk;rfl
 |w::l,k,h,hk=>by
  unfold shorterW
  by_cases h0:k=0
  ·rw [if_pos h0,h0];rfl
  ·rw [if_neg h0,letsN_cons]
   rw [letsN_cons] at hk
   rw [shorter_len (fun x hx=>h x (List.mem_cons_of_mem _ hx)) (by omega)]
   simp only [List.length_take]
   omega
theorem shorterW_zero (l:List Word):shorterW l 0=[]:=by
 cases l with
 |nil=>rfl
 |cons a l=>unfold shorterW;rw [if_pos rfl]
theorem shorterW_cons (a:Word) (l:List Word) {k:Nat} (h:k≠0):shorterW (a::l) k={ signs:=a.signs.take (min k a.signs.length),cuts:=a.cuts.filter fun c => !decide (((min k a.signs.length:Nat):Int)≤c),free:=a.free }::shorterW l (k - min k a.signs.length):=by
 conv=>lhs;unfold shorterW
 rw [if_neg h]
theorem shorter_shorter:∀ {l:List Word} {j k:Nat},j≤k→shorterW (shorterW l k) j=shorterW l j
 |[],_,_,_=>rfl
 |a::l,j,k,h=>by
  by_cases hj:j=0
  ·subst hj
   rw [shorterW_zero,shorterW_zero]
  ·rw [shorterW_cons a l (show k≠0 by omega),shorterW_cons _ _ hj,shorterW_cons a l hj]
   have e1:min j (List.take (min k a.signs.length) a.signs).length=min j a.signs.length:=by rw [List.length_take];omega
   simp only [e1]
   congr 1
   ·congr 1
    ·rw [List.take_take];congr 1;omega
    ·rw [List.filter_filter]
     apply List.filter_congr
     intro c _
     by_cases h1:((min j a.signs.length:Nat):Int)≤c
     ·simp [h1]
     ·have h2:¬ ((min k a.signs.length:Nat):Int)≤c:=by omega
      simp [h1,h2]
   ·exact shorter_shorter (by omega)
theorem sheetI_parts {s:Sheet}:sheetI s=true↔(inI s.widths.length 1 6=true∧s.pairs.length≤6∧adjI (pairI s) ltP s.pairs=true∧(s.widths.any fun n => !inI n 1 20)=false∧spanI s.olo s.ohi 0 9=true∧spanI s.glo s.ghi 0 20=true∧inI s.hyphen 1 20=true∧inI s.wide 1 400=true∧inI s.rows 1 3=true)∧inI s.words.length 1 4=true∧(s.words.any fun w => !wordI s w)=false:=by
 unfold sheetI endI
 simp only [Bool.and_eq_true,Bool.not_eq_true',decide_eq_true_eq]
 constructor
 ·rintro ⟨⟨⟨⟨a,b⟩,c⟩,d⟩,⟨⟨⟨⟨⟨e,f⟩,g⟩,h⟩,i⟩,j⟩,k⟩
  exact ⟨⟨a,b,d,e,f,g,h,j,k⟩,c,i⟩
 ·rintro ⟨⟨a,b,d,e,f,g,h,j,k⟩,c,i⟩
  exact ⟨⟨⟨⟨a,b⟩,c⟩,d⟩,⟨⟨⟨⟨⟨e,f⟩,g⟩,h⟩,i⟩,j⟩,k⟩
theorem sheetI_words {s:Sheet} (hs:sheetI s=true) {ws:List Word} (h1:1≤ws.length) (h2:ws.length≤4) (h3:∀ w∈ws,wordI s w=true):sheetI { s with words:=ws }=true:=by
 rw [sheetI_parts] at hs ⊢
 refine ⟨hs.1,?_,?_⟩
 ·simp [inI];omega
 ·rw [List.any_eq_false]
  intro w hw
  have:wordI { s with words:=ws } w=wordI s w:=rfl
  rw [this,h3 w hw];simp
theorem wordI_cut {s:Sheet} {w:Word} (hw:WordF s w) {k:Nat} (hk:1≤k):wordI s { signs:=w.signs.take (min k w.signs.length),cuts:=w.cuts.filter fun c => !decide (((min k w.signs.length:Nat):Int)≤c),free:=w.free }=true:=by
 unfold wordI
 have h1:=hw.len1
 have h6:=hw.len6
 simp only [List.length_take,Bool.and_eq_true,Bool.not_eq_true',List.any_eq_false]
 refine ⟨⟨by simp [inI];omega,fun n hn => ?_⟩,?_⟩
 ·have:=hw.sign n (List.mem_of_mem_take hn)
  simp [signI,inI];omega
 ·have hc:=hw.cuts
  unfold risesI at hc ⊢
  rw [adjI_iff] at hc ⊢
  refine ⟨fun c hc' => ?_,?_⟩
  ·obtain ⟨a,b⟩:=List.mem_filter.1 hc'
   have:=hc.1 c a
   simp [inI] at this b ⊢
   omega
  ·have hp:w.cuts.Pairwise fun a b=>a < b:=adj_lt fun j hj=>by simpa using hc.2 j hj
   have hp:=List.pairwise_iff_getElem.1 (hp.sublist (List.filter_sublist (p:=fun c => !decide (((min k w.signs.length:Nat):Int)≤c))))
   intro j hj
   have:=hp j (j+1) (by omega) hj (by omega)
   simpa using this
theorem shorter_wordI {s:Sheet}:∀ {l:List Word} {k:Nat},(∀ w∈l,WordF s w)→∀ w∈shorterW l k,wordI s w=true
 |[],k,_,w,hw=>by cases hw
 |a::l,k,h,w,hw=>by
  unfold shorterW at hw
  split at hw
  ·cases hw
  ·rename_i h0
   rcases List.mem_cons.1 hw with rfl | hw
   ·exact wordI_cut (h a List.mem_cons_self) (by omega)
   ·exact shorter_wordI (fun x hx=>h x (List.mem_cons_of_mem _ hx)) w hw
theorem shorter_length:∀ {l:List Word} {k:Nat},(shorterW l k).length≤l.length
 |[],_=>Nat.le_refl _
 |a::l,k=>by
  unfold shorterW
  split
  ·simp
  ·have:=shorter_length (l:=l) (k:=k - min k a.signs.length)
   simp only [List.length_cons];omega
theorem lessS_sheet {s:Sheet} (hs:sheetI s=true) {k:Nat} (hk:1≤k):sheetI (lessS s k)=true:=by
 refine sheetI_words hs ?_ ?_ (shorter_wordI fun w hw=>wordF hs hw)
 ·have:=(sheetF hs).words.1
  match hw:s.words with
  |[]=>rw [hw] at this;simp at this
  |a::l =>
   unfold shorterW
   rw [if_neg (by omega)]
   simp
 ·have:=(sheetF hs).words.2
  have:=shorter_length (l:=s.words) (k:=k)
  omega
end Go.Proofs.Tryz
namespace Go.Proofs.Tryz
open Go.AL
theorem okE_iff {s:Sheet} {out:List Int} {e:End}:okE s out e=true↔0≤e.1∧¬ e.1∈out∧∃ h:e.1.toNat < s.words.length,e.2=s.words[e.1.toNat].signs.length∨e.2∈s.words[e.1.toNat].cuts:=by
 unfold okE inI
 simp only [Bool.and_eq_true,decide_eq_true_eq,Bool.not_eq_true',List.contains_eq_mem,decide_eq_false_iff_not]
 constructor
 ·rintro ⟨⟨⟨h1,h2⟩,h3⟩,h4⟩
  have hlt:e.1.toNat < s.words.length:=by omega
  rw [List.getElem?_eq_getElem hlt] at h4
  refine ⟨h1,h3,hlt,?_⟩
  simpa using h4
 ·rintro ⟨h1,h3,hlt,h4⟩
  refine ⟨⟨⟨h1,by omega⟩,h3⟩,?_⟩
  rw [List.getElem?_eq_getElem hlt]
  simpa using h4
theorem lastE_nil {s:Sheet} {m:Nat} (h:s.words.length=m+1):lastE s []=((m:Int),(lenW s m:Int)):=by
 unfold lastE
 have e:lastN [] s.words.length=m:=by rw [h];unfold lastN;simp
 rw [e,Int.toNat_natCast,List.getElem?_eq_getElem (by omega),lenW_eq (by omega)]
theorem lost_of {s:Sheet} (hs:sheetI s=true) (h2:2≤letsN s.words):∃ m z z',Lost s (lessS s (letsN s.words - 1)) m z z':=by
 have hf:=sheetF hs
 have hwne:s.words≠[]:=by
  intro e
  have:=hf.words.1
  rw [e] at this;simp at this
 obtain ⟨init,w,hiw⟩:∃ init w,s.words=init++[w]:=⟨s.words.dropLast,s.words.getLast hwne,(List.dropLast_concat_getLast hwne).symm⟩
 have hfine:∀ a∈init,FineW a:=fun a ha=>fineW hs (by rw [hiw];exact List.mem_append_left _ ha)
 have hwf:WordF s w:=wordF hs (by rw [hiw];simp)
 have hN:letsN s.words=letsN init+w.signs.length:=by rw [hiw,letsN_app];rfl
 have hl1:=hwf.len1
 have hsl:s.words.length=init.length+1:=by rw [hiw];simp
 have hget:∀ (i:Nat) (hi:i < init.length),s.words[i]'(by omega)=init[i]:=fun i hi=>by
  simp only [hiw]
  rw [List.getElem_append_left hi]
 have hgetm:s.words[init.length]'(by omega)=w:=by
  simp only [hiw]
  rw [List.getElem_append_right (Nat.le_refl _)]
  simp
 have hlm:lenW s init.length=w.signs.length:=by rw [lenW_eq (by omega),hgetm]
 by_cases h:2≤w.signs.length
 ·
  let w':Word:={ signs:=w.signs.take (w.signs.length - 1),cuts:=w.cuts.filter fun c => !decide (((w.signs.length - 1:Nat):Int)≤c),free:=w.free }
  have hx:shorterW s.words (letsN s.words - 1)=init++[w']:=by
   rw [hiw,letsN_app,show letsN init+letsN [w] - 1=letsN init+(w.signs.length - 1) by rw [letsN_cons];simp [letsN];omega,shorter_app hfine]
   congr 1
   rw [shorterW_cons _ _ (by omega)]
   rw [show min (w.signs.length - 1) w.signs.length=w.signs.length - 1 by omega,show w.signs.length - 1 - (w.signs.length - 1)=0 by omega,shorterW_zero]
  refine ⟨init.length,(init.length,lenW s init.length),(init.length,lenW s init.length - 1),?_⟩
  have hxw:(lessS s (letsN s.words - 1)).words=init++[w']:=hx
  have hxl:(lessS s (letsN s.words - 1)).words.length=init.length+1:=by rw [hxw];simp
  have hxg:∀ (i:Nat) (hi:i < init.length),(lessS s (letsN s.words - 1)).words[i]'(by omega)=init[i]:=fun i hi=>by
   simp only [hxw]
   rw [List.getElem_append_left hi]
  have hxgm:(lessS s (letsN s.words - 1)).words[init.length]'(by omega)=w':=by
   simp only [hxw]
   rw [List.getElem_append_right (Nat.le_refl _)]
   simp
  have hw'l:w'.signs.length=w.signs.length - 1:=by simp [w']
  refine { widths:=rfl,pairs:=rfl,olo:=rfl,ohi:=rfl,glo:=rfl,ghi:=rfl,hyphen:=rfl,wide:=rfl,rows:=rfl,hm:=hsl,hz:=rfl,low:=fun i hi => ?_,let':=fun g hg => ?_,kind := .inl ⟨by omega,hxl,?_,rfl⟩,ends:=fun e he h1 h2 => ?_,okz := ?_,lastz := ?_ }
  ·rw [lenW_eq (by omega),lenW_eq (by omega),hxg i hi,hget i hi]
  ·by_cases hi:g.1 < init.length
   ·unfold letS
    rw [List.getElem?_eq_getElem (by omega),List.getElem?_eq_getElem (by omega),hxg _ hi,hget _ hi]
   ·by_cases hi2:g.1=init.length
    ·rw [hi2,lenW_eq (by omega),hxgm,hw'l] at hg
     unfold letS
     rw [List.getElem?_eq_getElem (by omega),List.getElem?_eq_getElem (by omega)]
     simp only [hi2,hxgm,hgetm]
     have e1:w'.signs[g.2]? = w.signs[g.2]? := by
      show (w.signs.take (w.signs.length - 1))[g.2]? = _
      rw [List.getElem?_take,if_pos (by omega)]
     rw [e1]
    ·unfold lenW at hg
     rw [List.getElem?_eq_none (by omega)] at hg
     simp at hg
  ·rw [lenW_eq (by omega),hxgm,hw'l,hlm]
  ·rw [okE_iff] at he ⊢
   obtain ⟨a1,a2,a3,a4⟩:=he
   refine ⟨a1,a2,by omega,?_⟩
   by_cases hi:e.1.toNat < init.length
   ·rw [hxg _ hi]
    rw [hget _ hi] at a4
    exact a4
   ·have hi2:e.1.toNat=init.length:=by omega
    simp only [hi2,hgetm] at a4
    simp only [hi2,hxgm]
    have e1:(nE e).1=e.1.toNat:=rfl
    have e2:(nE e).2=e.2.toNat:=rfl
    rcases a4 with a4 | a4
    ·exfalso
     apply h1
     refine Prod.ext (by rw [e1,hi2]) ?_
     rw [e2,a4,hlm];simp
    ·have hc:=hwf.cuts
     unfold risesI at hc
     rw [adjI_iff] at hc
     have hb:=hc.1 _ a4
     simp [inI] at hb
     have hne:e.2≠(w.signs.length:Int) - 1:=by
      intro h3
      apply h2
      refine Prod.ext (by rw [e1,hi2]) ?_
      rw [e2,h3,hlm];simp only;omega
     right
     refine List.mem_filter.2 ⟨a4,?_⟩
     simp;omega
  ·rw [okE_iff]
   refine ⟨by simp,by simp,by simp only [Int.toNat_natCast];omega,?_⟩
   left
   simp only [Int.toNat_natCast,hxgm,hw'l,hlm]
  ·rw [lastE_nil hxl,lenW_eq (by omega),hxgm,hw'l,hlm]
 ·
  have h1:w.signs.length=1:=by omega
  have hx:shorterW s.words (letsN s.words - 1)=init:=by
   rw [hiw,letsN_app,show letsN init+letsN [w] - 1=letsN init+0 by rw [letsN_cons];simp [letsN];omega,shorter_app hfine,shorterW_zero,List.append_nil]
  have hi1:1≤init.length:=by
   cases init with
   |nil=>have e0:letsN ([]:List Word)=0:=rfl;omega
   |cons a l=>simp
  refine ⟨init.length,(init.length,lenW s init.length),(init.length - 1,lenW s (init.length - 1)),?_⟩
  have hxw:(lessS s (letsN s.words - 1)).words=init:=hx
  have hxl:(lessS s (letsN s.words - 1)).words.length=init.length:=by rw [hxw]
  have hxg:∀ (i:Nat) (hi:i < init.length),(lessS s (letsN s.words - 1)).words[i]'(by omega)=init[i]:=fun i hi=>by
   simp only [hxw]
  refine { widths:=rfl,pairs:=rfl,olo:=rfl,ohi:=rfl,glo:=rfl,ghi:=rfl,hyphen:=rfl,wide:=rfl,rows:=rfl,hm:=hsl,hz:=rfl,low:=fun i hi => ?_,let':=fun g hg => ?_,kind := .inr ⟨by omega,hi1,hxl,rfl⟩,ends:=fun e he h3 h4 => ?_,okz := ?_,lastz := ?_ }
  ·rw [lenW_eq (by omega),lenW_eq (by omega),hxg i hi,hget i hi]
  ·by_cases hi:g.1 < init.length
   ·unfold letS
    rw [List.getElem?_eq_getElem (by omega),List.getElem?_eq_getElem (by omega),hxg _ hi,hget _ hi]
   ·unfold lenW at hg
    rw [List.getElem?_eq_none (by omega)] at hg
    simp at hg
  ·rw [okE_iff] at he ⊢
   obtain ⟨a1,a2,a3,a4⟩:=he
   by_cases hi:e.1.toNat < init.length
   ·refine ⟨a1,a2,by omega,?_⟩
    rw [hxg _ hi]
    rw [hget _ hi] at a4
    exact a4
   ·exfalso
    have hi2:e.1.toNat=init.length:=by omega
    simp only [hi2,hgetm] at a4
    have e1:(nE e).1=e.1.toNat:=rfl
    have e2:(nE e).2=e.2.toNat:=rfl
    rcases a4 with a4 | a4
    ·apply h3
     refine Prod.ext (by rw [e1,hi2]) ?_
     rw [e2,a4,hlm];simp
    ·have hc:=hwf.cuts
     unfold risesI at hc
     rw [adjI_iff] at hc
     have hb:=hc.1 _ a4
     simp [inI] at hb
     omega
  ·rw [okE_iff]
   refine ⟨by simp,by simp,by simp only [Int.toNat_natCast];omega,?_⟩
   left
   simp only [Int.toNat_natCast]
   rw [hxg _ (by omega),lenW_eq (by omega),hget _ (by omega)]
  ·obtain ⟨k,hk⟩:∃ k,init.length=k+1:=⟨init.length - 1,by omega⟩
   rw [lastE_nil (m:=k) (by omega)]
   have e1:init.length - 1=k:=by omega
   rw [e1,lenW_eq (by omega),lenW_eq (by omega),hxg _ (by omega),hget _ (by omega)]
theorem fits_less {s:Sheet} (hs:sheetI s=true) {k:Nat} (h1:1≤k) (h2:k+1≤letsN s.words) (h:goodS (lessS s (k+1)) []≠[]):goodS (lessS s k) []≠[]:=by
 have hfine:∀ w∈s.words,FineW w:=fun w hw=>fineW hs hw
 have hs':=lessS_sheet hs (k:=k+1) (by omega)
 have hN:letsN (lessS s (k+1)).words=k+1:=shorter_len hfine h2
 obtain ⟨m,z,z',hL⟩:=lost_of hs' (by rw [hN];omega)
 have e:lessS (lessS s (k+1)) (letsN (lessS s (k+1)).words - 1)=lessS s k:=by
  rw [hN]
  unfold lessS
  simp only [Nat.add_sub_cancel]
  rw [shorter_shorter (by omega)]
 rw [e] at hL
 obtain ⟨es,he⟩:=List.exists_mem_of_ne_nil _ h
 exact lost_good hL hs' (lessS_sheet hs h1) he
theorem fits_fewer {s:Sheet} (hs:sheetI s=true) {j k:Nat} (h1:1≤j) (h2:j≤k) (h3:k≤letsN s.words) (h:goodS (lessS s k) []≠[]):goodS (lessS s j) []≠[]:=by
 obtain ⟨d,rfl⟩:∃ d,k=j+d:=⟨k - j,by omega⟩
 clear h2
 induction d with
 |zero=>exact h
 |succ d ih=>exact ih (by omega) (fits_less hs (by omega) h3 h)
end Go.Proofs.Tryz
namespace Go.Proofs.Tryz
open Go.AL
section
variable {s:Sheet}
theorem outI_nil (hs:sheetI s=true):outI s []=true:=by
 have:=(sheetF hs).words.1
 unfold outI risesI adjI
 simp;omega
end
end Go.Proofs.Tryz
namespace Go.Proofs.Tryz
open Go Go.AL Go.RowKit Go.Proofs
attribute [local simp] awp_all qs_all ops_allN dops_allN ops_nil dops_nil ops_call ops_callv ops_alloc ops_box dops_call dops_alloc kO_eq kD_eq awanted apure ev Eff.S Eff.H tmpOf upd putD AL.start AV.dem AV.cells AV.storable AV.scells splice scrub abin loadA HR.okB post ares aress ares1 AV.out AV.isData ints_len ints_get fz fz1 AV.vw AV.vw1 boxy vI int undefA assignQ thenQ blockQ seqQ panQ prol prolH allocOf
variable {GI:World→Prop}
end Go.Proofs.Tryz
namespace Go.AL
theorem ops_panic {P:Program} {GI:World→Prop} (x d rest K Qp S H):aops P GI (⟨d,none,.panic x⟩::rest) K Qp S H=(match ev S x with
  |.iface t v=>Qp (.iface t v)
  |_=>False):=rfl
end Go.AL
namespace Go.Proofs.Tryz
open Go Go.AL Go.RowKit Go.Proofs
attribute [local simp] awp_all qs_all ops_all dops_all ops_nil dops_nil ops_call ops_callv ops_alloc ops_box dops_call dops_alloc kO_eq kD_eq awanted apure ev Eff.S Eff.H tmpOf upd putD AL.start AV.dem AV.cells AV.storable AV.scells splice scrub abin loadA HR.okB post ares aress ares1 AV.out AV.isData ints_len ints_get fz fz1 AV.vw AV.vw1 boxy vI int undefA assignQ thenQ blockQ seqQ panQ prol prolH allocOf
variable {GI:World→Prop}
def wide133 (s:Sheet) (out:List Int) (es:List End) (st:Int):Int:=firstT (fun n=>decide (s.wide < n)) (widthsI s out es st)
theorem fit_wide {s:Sheet} {out:List Int} {es:List End} {st:Int}:((widthsI s out es st).all fun n=>decide (n≤s.wide))=decide (wide133 s out es st < 0):=by
 have h:=firstT_any (p:=fun n=>decide (s.wide < n)) (l:=widthsI s out es st)
 have e:((widthsI s out es st).all fun n=>decide (n≤s.wide)) = !((widthsI s out es st).any fun n=>decide (s.wide < n)):=by
  rw [Bool.eq_iff_iff]
  simp
 rw [e,← h]
 unfold wide133
 by_cases hz:0≤firstT (fun n=>decide (s.wide < n)) (widthsI s out es st)
 ·have:¬ firstT (fun n=>decide (s.wide < n)) (widthsI s out es st) < 0:=by omega
  simp [hz,this]
 ·have:firstT (fun n=>decide (s.wide < n)) (widthsI s out es st) < 0:=by omega
  simp [hz,this]
def out133 (s:Sheet) (out:List Int) (es:List End) (st:Int):AOut:=if wide133 s out es st < 0 then .ret (.tup []) else .panic (.iface 161 (.agg [.int .i64 (wide133 s out es st)]))
set_option maxHeartbeats 2000000 in
theorem ac133 (hG:Stable GI) (s:Sheet) (hsh:sheetI s=true) (out:List Int) (ho:out.length < 1000000) (es:List End) (he:es.length < 100000) (g:Good s out es) {st:Int} (h0:0≤st) (h1:st≤10):AC prog GI 133 [.ref (frontL s),.ref [vI out,.slice .view (es.map endA)],.ref [.int .i64 st]] (out133 s out es st):=by
 have hlw:=widthsI_len s out es st
 refine AC.of_body hG hmix func133 rfl ntmps133 (by simp) (ac:=c133) (by kernel_rfl) ?_
 refine awp_cut (fun S H=>S 0 = .ref (frontL s)∧S 2 = .ref [.int .i64 st]∧S 7 = .slice .view (linesL s out es es.length)∧S 8 = .int .i64 es.length∧S 9 = .int .i64 0) ?_ ?_
 ·simp [frontL,sheetL,spaces]
  refine ⟨_,by kernel_rfl,ac81 hG s hsh out ho es he g,by simp [boxy],?_⟩
  simp [linesL_len]
 rintro S H ⟨s0,s2,s7,s8,s9⟩
 simp [s0,s2,s7,s8,s9]
 refine awp_loop 9 es.length (fun i S H=>S 0 = .ref (frontL s)∧S 2 = .ref [.int .i64 st]∧S 7 = .slice .view (linesL s out es es.length)∧S 8 = .int .i64 es.length∧S 9 = .int .i64 (i:Nat)∧∀ j (hj:j < (widthsI s out es st).length),j < i→decide (s.wide < (widthsI s out es st)[j])=false) (fun i S H h=>h.2.2.2.2.1) ⟨by simp [s0],by simp [s2],by simp [s7],by simp [s8],by simp [s9],fun j _ hj=>absurd hj (Nat.not_lt_zero _)⟩ ?_
 clear s0 s2 s7 s8 s9 S H
 rintro i hi S H ⟨s0,s2,s7,s8,s9,hb⟩
 by_cases hlt:i < es.length
 case neg =>
  have hn:wide133 s out es st < 0:=by
   unfold wide133
   rw [firstT_none fun j hj=>hb j hj (by omega)];decide
  unfold out133
  rw [if_pos hn]
  simp [s0,s2,s7,s8,s9,hlt]
 have hw:IntKind.i64.wrap ((i:Int)+1)=i+1:=wrapI (by omega)
 have hln:(linesL s out es es.length)[i]? = some (.agg [.slice .view ((rowI s out es i).map gA),.bool (cutI s es i)]):=by
  unfold linesL
  rw [List.getElem?_map,List.getElem?_range hlt];rfl
 have hwi:(widthsI s out es st)[i]'(by omega)=wideI s out es st i:=by unfold widthsI;simp
 refine awp_cut (fun S H=>S 0 = .ref (frontL s)∧S 2 = .ref [.int .i64 st]∧S 7 = .slice .view (linesL s out es es.length)∧S 8 = .int .i64 es.length∧S 9 = .int .i64 (i:Nat)∧S 10 = .bool true) (by simp [s0,s2,s7,s8,s9,hlt]) ?_
 clear s0 s2 s7 s8 s9 S H
 rintro S H ⟨s0,s2,s7,s8,s9,s10⟩
 refine awp_go (by simp [s10]) ?_
 refine awp_in ?_
 refine awp_cut (fun S H=>S 0 = .ref (frontL s)∧S 2 = .ref [.int .i64 st]∧S 7 = .slice .view (linesL s out es es.length)∧S 8 = .int .i64 es.length∧S 9 = .int .i64 (i:Nat)∧S 3 = .int .i64 (i:Nat)∧S 4 = .box 4 0∧H 4=some [.slice .view ((rowI s out es i).map gA),.bool (cutI s es i)]) (by simp [s0,s2,s7,s8,s9,hlt,hln]) ?_
 clear s0 s2 s7 s8 s9 s10 S H
 rintro S H ⟨s0,s2,s7,s8,s9,s3,s4,e4⟩
 have a84:=ac84 hG s hsh (rowI_ne g hlt) (rowI_len hsh g i) (fun x hx=>rowI_mem g hx) (cutI s es i) h0 h1
 have hfirst:s.wide < wideI s out es st i→wide133 s out es st=i:=fun h=>by
  unfold wide133
  exact firstT_at (i:=i) (by omega) (by rw [hwi];simpa using h) hb
 simp [s0,s2,s7,s8,s9,s3,s4,e4,frontL,sheetL,spaces]
 refine ⟨_,by kernel_rfl,a84,by simp [boxy],?_⟩
 by_cases hwide:s.wide < wideI s out es st i
 ·have hwide':s.wide < wideP s st ((rowI s out es i).map (letS s)) (cutI s es i):=hwide
  have hf:=hfirst hwide
  unfold out133
  rw [if_neg (by omega),hf]
  simp [s0,s2,s7,s8,s9,s3,s4,e4,frontL,sheetL,spaces,hwide',ops_panic,fillA]
 ·have hwide':¬ s.wide < wideP s st ((rowI s out es i).map (letS s)) (cutI s es i):=hwide
  simp [s0,s2,s7,s8,s9,s3,s4,e4,frontL,sheetL,spaces,hwide',hw,hlt]
  intro j hj hji
  by_cases e:j=i
  ·subst e;rw [hwi];omega
  ·have:=hb j hj (by omega);simpa using this
theorem ac86 (hG:Stable GI) (s:Sheet) (hsh:sheetI s=true) (out:List Int) (ho:out.length < 1000000) (es:List End) (he:es.length < 100000) (g:Good s out es) {st:Int} (h0:0≤st) (h1:st≤10):AC prog GI 86 [frontA s,settingA out es,.int .i64 st] (.ret (.bool (fitI s out es st))):=by
 have a:=ac133 hG s hsh out ho es he g h0 h1
 have e:fitI s out es st=(decide ((es.length:Int)≤s.rows) && decide (wide133 s out es st < 0)):=by unfold fitI;rw [fit_wide]
 rw [e]
 refine AC.of_body hG hmix func86 rfl ntmps86 (by simp) (ac:=c86) (by kernel_rfl) ?_
 refine awp_cut (fun S H=>S 3 = .box 3 0∧S 4 = .box 4 0∧S 5 = .box 5 0∧H 3=some (frontL s)∧H 4=some [vI out,.slice .view (es.map endA)]∧H 5=some [.int .i64 st]) (by simp [frontA,frontL,sheetL,spaces,settingA,endsA]) ?_
 rintro S H ⟨s3,s4,s5,e3,e4,e5⟩
 by_cases hr:(es.length:Int)≤s.rows
 case neg=>simp [s3,s4,s5,e3,e4,e5,frontL,sheetL,spaces,hr]
 unfold out133 at a
 by_cases hw:wide133 s out es st < 0
 ·rw [if_pos hw] at a
  have b:=ac117 hG (k:=133) (by kernel_rfl) a (.inl ⟨_,rfl,rfl⟩)
  simp [s3,s4,s5,e3,e4,e5,frontL,sheetL,spaces,hr]
  refine ⟨_,by kernel_rfl,b,fun _=>rfl,?_⟩
  simp [hw]
 ·rw [if_neg hw] at a
  have b:=ac117 hG (k:=133) (by kernel_rfl) a (.inr (.inl ⟨_,rfl,rfl⟩))
  simp [s3,s4,s5,e3,e4,e5,frontL,sheetL,spaces,hr]
  refine ⟨_,by kernel_rfl,b,fun _=>rfl,?_⟩
  simp [hw]
theorem downL_down {p:Int→Bool}:∀ {n i:Nat},i≤n→(∀ k:Nat,i≤k→k < n→p k=false)→downL p n=downL p i
 |0,i,h,_=>by rw [show i=0 by omega]
 |n+1,i,h,hp=>by
  by_cases e:i=n+1
  ·rw [e]
  ·rw [downL,hp n (by omega) (by omega)]
   exact downL_down (by omega) fun k h1 h2=>hp k h1 (by omega)
theorem ac87 (hG:Stable GI) (s:Sheet) (hsh:sheetI s=true) (out:List Int) (ho:out.length < 1000000) (es:List End) (he:es.length < 100000) (g:Good s out es):AC prog GI 87 [frontA s,settingA out es] (.ret (.int .i64 (mostI s out es))):=by
 refine AC.of_body hG hmix func87 rfl ntmps87 (by simp) (ac:=c87) (by kernel_rfl) ?_
 refine awp_cut (fun S H=>S 2 = .box 2 0∧S 3 = .box 3 0∧H 2=some (frontL s)∧H 3=some [vI out,.slice .view (es.map endA)]) (by simp [frontA,frontL,sheetL,spaces,settingA,endsA]) ?_
 rintro S H ⟨s2,s3,e2,e3⟩
 simp [s2,s3,e2,e3]
 refine awp_loopD 5 11 (fun i S H=>i≤11∧S 2 = .box 2 0∧S 3 = .box 3 0∧H 2=some (frontL s)∧H 3=some [vI out,.slice .view (es.map endA)]∧S 5 = .int .i64 ((i:Nat) - 1)∧∀ k:Nat,i≤k→k < 11→fitI s out es k=false) (fun i S H h=>h.2.2.2.2.2.1) ⟨by omega,by simp [s2],by simp [s3],by simp [e2],by simp [e3],by simp,fun k h1 h2=>by omega⟩ ?_
 clear s2 s3 e2 e3 S H
 rintro i hi S H ⟨_,s2,s3,e2,e3,s5,hb⟩
 have hm:=downL_down (p:=fitI s out es) hi hb
 cases i with
 |zero =>
  have hm:mostI s out es = -1:=hm
  simp [s2,s3,e2,e3,s5,hm]
 |succ m =>
  have hm:mostI s out es=if fitI s out es m then (m:Int) else downL (fitI s out es) m:=hm
  have s5':S 5 = .int .i64 (m:Nat):=by rw [s5];congr 1;omega
  have hwm:IntKind.i64.wrap ((m:Int) - 1)=m - 1:=wrapI (by omega)
  simp [s2,s3,e2,e3,s5',frontL,sheetL,spaces]
  refine ⟨_,by kernel_rfl,ac86 hG s hsh out ho es he g (by omega) (by omega),by simp [boxy],?_⟩
  cases hf:fitI s out es m
  ·simp [s2,s3,e2,e3,s5',frontL,sheetL,spaces,hwm]
   refine ⟨by omega,fun k h1 h2 => ?_⟩
   by_cases e:k=m
   ·subst e;exact hf
   ·exact hb k (by omega) h2
  ·rw [hf] at hm
   simp at hm
   simp [s2,s3,e2,e3,s5',frontL,sheetL,spaces,hm]
end Go.Proofs.Tryz
namespace Go.Proofs.Tryz
open Go.AL
section
variable {α:Type} {len:α→Nat} {most:α→Int}
def betterB (len:α→Nat) (most:α→Int) (a b:α):Bool:=decide (len a < len b) || (len a==len b && decide (most b < most a))
theorem better_best (x:α) (l:List α):IsBest (betterB len most) (x::l) (bestL (betterB len most) x l):=by
 have:=bestL_is (better:=betterB len most) (fun a b c h1 h2=>by
  simp only [betterB,Bool.or_eq_true,Bool.and_eq_true,decide_eq_true_eq,beq_iff_eq] at h1 h2 ⊢;omega) (fun a b c h1 h2=>by
  simp only [betterB,Bool.or_eq_true,Bool.and_eq_true,decide_eq_true_eq,beq_iff_eq,Bool.or_eq_false_iff,Bool.and_eq_false_iff,decide_eq_false_iff_not,beq_eq_false_iff_ne] at h1 h2 ⊢;omega) l [] x [] (fun y hy=>by cases hy) (fun y hy=>by cases hy)
 simpa using this
end
end Go.Proofs.Tryz
namespace Go.Proofs.Tryz
open Go.AL
structure Renum (s x:Sheet) (out:List Int) (k:Nat→Nat) (N:Nat):Prop where
 pos:0 < N
 n:x.words.length=N
 lt:∀ i,i < N→k i < s.words.length
 mono:∀ i,i+1 < N→k i < k (i+1)
 inn:∀ i,i < N→out.contains (k i:Int)=false
 gap:∀ i,i+1 < N→∀ j,k i < j→j < k (i+1)→out.contains (j:Int)=true
 first:∀ j,j < k 0→out.contains (j:Int)=true
 last:∀ j,k (N - 1) < j→j < s.words.length→out.contains (j:Int)=true
 word:∀ i,i < N→x.words[i]? = s.words[k i]?
 h1:x.widths=s.widths
 h2:x.pairs=s.pairs
 h3:x.olo=s.olo
 h4:x.ohi=s.ohi
 h5:x.glo=s.glo
 h6:x.ghi=s.ghi
 h7:x.hyphen=s.hyphen
 h8:x.wide=s.wide
 h9:x.rows=s.rows
section
variable {s x:Sheet} {out:List Int} {k:Nat→Nat} {N:Nat}
theorem Renum.lenW (h:Renum s x out k N) {i:Nat} (hi:i < N):lenW x i=lenW s (k i):=by
 unfold Tryz.lenW
 rw [h.word i hi]
theorem Renum.mono' (h:Renum s x out k N):∀ d i,i+d+1 < N→k i < k (i+d+1)
 |0,i,hi=>h.mono i hi
 |d+1,i,hi=>Nat.lt_trans (h.mono' d i (by omega)) (h.mono (i+d+1) hi)
theorem Renum.lt_iff (h:Renum s x out k N) {i j:Nat} (hi:i < N) (hj:j < N):k i < k j↔i < j:=by
 constructor
 ·intro hk
  by_cases hij:i < j
  ·exact hij
  ·by_cases he:i=j
   ·subst he;omega
   ·have:=h.mono' (i - j - 1) j (by omega)
    rw [show j+(i - j - 1)+1=i by omega] at this
    omega
 ·intro hij
  have:=h.mono' (j - i - 1) i (by omega)
  rwa [show i+(j - i - 1)+1=j by omega] at this
theorem Renum.inj (h:Renum s x out k N) {i j:Nat} (hi:i < N) (hj:j < N) (he:k i=k j):i=j:=by
 have h1:=h.lt_iff hi hj
 have h2:=h.lt_iff hj hi
 omega
theorem rowN_skip {d t:Nat}:∀ (m w:Nat),(∀ j,w≤j→j < w+m→out.contains (j:Int)=true)→rowN s out (m+d) w 0 t=rowN s out d (w+m) 0 t
 |0,w,_=>by rw [Nat.zero_add,Nat.add_zero]
 |m+1,w,h=>by
  rw [show m+1+d=(m+d)+1 by omega]
  show (if out.contains (w:Int) then [] else seg w 0 (lenW s w))++rowN s out (m+d) (w+1) 0 t=_
  rw [h w (by omega) (by omega),if_pos rfl,List.nil_append,rowN_skip m (w+1) (fun j h1 h2=>h j (by omega) (by omega)),show w+1+m=w+(m+1) by omega]
def phi (k:Nat→Nat) (g:Nat×Nat):Nat×Nat:=(k g.1,g.2)
theorem seg_phi (w f t:Nat):(seg w f t).map (phi k)=seg (k w) f t:=by
 unfold seg
 rw [List.map_map];rfl
theorem Renum.rowN (h:Renum s x out k N) {t:Nat}:∀ d w f,w+d < N→(rowN x [] d w f t).map (phi k)=rowN s out (k (w+d) - k w) (k w) f t
 |0,w,f,_=>by
  rw [Nat.add_zero,Nat.sub_self]
  exact seg_phi w f t
 |d+1,w,f,hw=>by
  have m1:=h.mono w (by omega)
  have m2:k (w+1)≤k (w+1+d):=by
   cases d with
   |zero=>exact Nat.le_refl _
   |succ d=>exact Nat.le_of_lt (h.mono' d (w+1) (by omega))
  rw [show w+(d+1)=w+1+d by omega]
  rw [show k (w+1+d) - k w=((k (w+1) - k w - 1)+(k (w+1+d) - k (w+1)))+1 by omega]
  show List.map (phi k) ((if ([]:List Int).contains (w:Int) then [] else seg w f (Tryz.lenW x w))++Tryz.rowN x [] d (w+1) 0 t)=(if out.contains (k w:Int) then [] else seg (k w) f (Tryz.lenW s (k w)))++Tryz.rowN s out ((k (w+1) - k w - 1)+(k (w+1+d) - k (w+1))) (k w+1) 0 t
  rw [if_neg (by simp),h.inn w (by omega),if_neg (by simp),List.map_append,seg_phi,h.lenW (by omega),h.rowN d (w+1) 0 (by omega),rowN_skip _ _ fun j h1 h2=>h.gap w (by omega) j (by omega) (by omega),show k w+1+(k (w+1) - k w - 1)=k (w+1) by omega]
def phE (k:Nat→Nat) (e:End):End:=((k e.1.toNat:Int),e.2)
theorem nE_phE (e:End):nE (phE k e)=phi k (nE e):=rfl
theorem aft_succ (es:List End) (i:Nat):aft es (i+1)=match es[i]? with | some e=>nE e | none=>(0,0):=rfl
theorem aft_map (es:List End) (i:Nat):aft (es.map (phE k)) (i+1)=if i < es.length then phi k (aft es (i+1)) else (0,0):=by
 rw [aft_succ,aft_succ,List.getElem?_map]
 by_cases hi:i < es.length
 ·rw [List.getElem?_eq_getElem hi,if_pos hi];rfl
 ·rw [List.getElem?_eq_none (by omega),if_neg hi];rfl
def InR (N:Nat) (es:List End):Prop:=∀ e∈es,0≤e.1∧e.1.toNat < N
theorem Renum.rowI (h:Renum s x out k N) {es:List End} (hr:InR N es) (hs:∀ j (hj:j+1 < es.length),es[j].1.toNat≤es[j+1].1.toNat) (i:Nat) (hi:i < es.length):(rowI x [] es i).map (phi k)=rowI s out (es.map (phE k)) i:=by
 have hil:i < (es.map (phE k)).length:=by rw [List.length_map];exact hi
 rw [rowI_eq hi,rowI_eq hil,List.getElem_map,nE_phE]
 have he:=hr _ (List.getElem_mem hi)
 cases i with
 |zero =>
  have h0:=h.rowN (t:=(nE es[0]).2) (nE es[0]).1 0 0 (by rw [Nat.zero_add];exact he.2)
  show List.map (phi k) (Tryz.rowN x [] ((nE es[0]).1 - 0) 0 0 (nE es[0]).2)=Tryz.rowN s out (k (nE es[0]).1 - 0) 0 0 (nE es[0]).2
  rw [Nat.sub_zero,Nat.sub_zero,h0,Nat.zero_add]
  have hk:k 0≤k (nE es[0]).1:=by
   by_cases hz:(nE es[0]).1=0
   ·rw [hz];exact Nat.le_refl _
   ·exact Nat.le_of_lt ((h.lt_iff h.pos he.2).2 (Nat.pos_of_ne_zero hz))
  have:=rowN_skip (s:=s) (out:=out) (d:=k (nE es[0]).1 - k 0) (t:=(nE es[0]).2) (k 0) 0 fun j _ h2=>h.first j (by omega)
  rw [show k 0+(k (nE es[0]).1 - k 0)=k (nE es[0]).1 by omega,Nat.zero_add] at this
  exact this.symm
 |succ i =>
  have ha:aft es (i+1)=nE es[i]:=by rw [aft_succ,List.getElem?_eq_getElem (by omega)]
  have hb:=hr _ (List.getElem_mem (by omega:i < es.length))
  have hle:=hs i hi
  rw [aft_map,if_pos (by omega),ha]
  have:=h.rowN (t:=(nE es[i+1]).2) ((nE es[i+1]).1 - (nE es[i]).1) (nE es[i]).1 (nE es[i]).2 (by
   show es[i].1.toNat+(es[i+1].1.toNat - es[i].1.toNat) < N
   have:=he.2;omega)
  rw [show (nE es[i]).1+((nE es[i+1]).1 - (nE es[i]).1)=(nE es[i+1]).1 by show es[i].1.toNat+(es[i+1].1.toNat - es[i].1.toNat)=es[i+1].1.toNat;omega] at this
  exact this
theorem Renum.cutI (h:Renum s x out k N) {es:List End} (hr:InR N es) (i:Nat) (hi:i < es.length):cutI x es i=cutI s (es.map (phE k)) i:=by
 have hil:i < (es.map (phE k)).length:=by rw [List.length_map];exact hi
 rw [cutI_eq hi,cutI_eq hil,List.getElem_map]
 show decide (es[i].2 < (Tryz.lenW x es[i].1.toNat:Int))=decide (es[i].2 < (Tryz.lenW s ((k es[i].1.toNat:Int)).toNat:Int))
 rw [Int.toNat_natCast,h.lenW (hr _ (List.getElem_mem hi)).2]
theorem Renum.let2 (h:Renum s x out k N) {g:Nat×Nat} (hg:g.1 < N):(letS x g).2=(letS s (phi k g)).2:=by
 unfold letS phi
 simp only
 rw [h.word _ hg]
theorem Renum.wdL (h:Renum s x out k N) {a b:Lt} (he:a.2=b.2):wdL x a=wdL s b:=by
 unfold Tryz.wdL
 rw [he,h.h1,h.h7]
theorem Renum.spc (h:Renum s x out k N) (st:Int) {f g:Nat×Nat} (hf:f.1 < N) (hg:g.1 < N):spc x st (letS x f) (letS x g)=spc s st (letS s (phi k f)) (letS s (phi k g)):=by
 have e:spanS x (letS x f) (letS x g)=spanS s (letS s (phi k f)) (letS s (phi k g)):=by
  unfold spanS
  rw [h.let2 hf,h.let2 hg,h.h2,h.h3,h.h4,h.h5,h.h6]
  by_cases he:f.1=g.1
  ·rw [if_pos (by unfold letS;simp only;omega),if_pos (by unfold letS phi;simp only;rw [he])]
  ·rw [if_neg (by unfold letS;simp only;omega),if_neg]
   unfold letS phi
   simp only
   intro hc
   exact he (h.inj hf hg (by omega))
 unfold Tryz.spc
 rw [e]
theorem Renum.wideP (h:Renum s x out k N) (st:Int) {l:List (Nat×Nat)} (hl:∀ g∈l,g.1 < N) (cut:Bool):wideP x st (l.map (letS x)) cut=wideP s st ((l.map (phi k)).map (letS s)) cut:=by
 have e1:∀ i,letsS x (l.map (letS x)) i=letsS s ((l.map (phi k)).map (letS s)) i:=by
  intro i
  induction i with
  |zero=>rfl
  |succ i ih =>
   unfold letsS
   rw [ih,List.map_map,List.getElem?_map,List.getElem?_map]
   by_cases hi:i < l.length
   ·rw [List.getElem?_eq_getElem hi]
    show _+Tryz.wdL x (letS x l[i])=_+Tryz.wdL s (letS s (phi k l[i]))
    rw [h.wdL (h.let2 (hl _ (List.getElem_mem hi)))]
   ·rw [List.getElem?_eq_none (by omega)];rfl
 have e2:∀ i,gapsS x st (l.map (letS x)) i=gapsS s st ((l.map (phi k)).map (letS s)) i:=by
  intro i
  induction i with
  |zero=>rfl
  |succ i ih =>
   unfold gapsS
   rw [ih,List.map_map,List.getElem?_map,List.getElem?_map,List.getElem?_map,List.getElem?_map]
   by_cases hi:i+1 < l.length
   ·rw [List.getElem?_eq_getElem (by omega:i < l.length),List.getElem?_eq_getElem hi]
    show _+Tryz.spc x st (letS x l[i]) (letS x l[i+1])=_+Tryz.spc s st (letS s (phi k l[i])) (letS s (phi k l[i+1]))
    rw [h.spc st (hl _ (List.getElem_mem _)) (hl _ (List.getElem_mem hi))]
   ·rw [List.getElem?_eq_none (by omega:l.length≤i+1)]
    cases l[i]?<;>rfl
 unfold Tryz.wideP
 rw [e1,e2,h.h3,h.h4,h.h7]
 simp only [List.length_map]
end
end Go.Proofs.Tryz
namespace Go.Proofs.Tryz
open Go.AL
section
variable {s x:Sheet} {out:List Int} {k:Nat→Nat} {N:Nat}
theorem Renum.lastN (h:Renum s x out k N):Tryz.lastN out s.words.length=(k (N - 1):Int):=by
 have hp:=h.pos
 have hl:=h.lt (N - 1) (by omega)
 have:∀ n,k (N - 1) < n→n≤s.words.length→Tryz.lastN out n=(k (N - 1):Int):=by
  intro n
  induction n with
  |zero=>intro h1;omega
  |succ n ih =>
   intro h1 h2
   unfold Tryz.lastN
   by_cases he:n=k (N - 1)
   ·subst he;rw [h.inn _ (by omega)];rfl
   ·rw [h.last n (by omega) (by omega),if_pos rfl];exact ih (by omega) (by omega)
 exact this _ hl (Nat.le_refl _)
theorem Renum.okE (h:Renum s x out k N) {e:End} (h0:0≤e.1) (hn:e.1.toNat < N):Tryz.okE x [] e=true↔Tryz.okE s out (phE k e)=true:=by
 rw [okE_iff,okE_iff]
 have hk:=h.lt _ hn
 have hx:e.1.toNat < x.words.length:=by rw [h.n];exact hn
 have hw:=h.word _ hn
 rw [List.getElem?_eq_getElem hx,List.getElem?_eq_getElem hk] at hw
 have hw:=Option.some.inj hw
 have hi:=h.inn _ hn
 constructor
 ·rintro ⟨_,_,_,h3⟩
  refine ⟨by show (0:Int)≤(k e.1.toNat:Int);omega,?_,?_⟩
  ·show ¬ (k e.1.toNat:Int)∈out
   simpa using hi
  ·refine ⟨by show (k e.1.toNat:Int).toNat < _;omega,?_⟩
   show e.2=((s.words[(k e.1.toNat:Int).toNat]'_).signs.length:Int)∨e.2∈(s.words[(k e.1.toNat:Int).toNat]'_).cuts
   simp only [Int.toNat_natCast]
   rw [← hw];exact h3
 ·rintro ⟨_,_,_,h3⟩
  refine ⟨h0,by simp,hx,?_⟩
  have h3:e.2=((s.words[(k e.1.toNat:Int).toNat]'(by rw [Int.toNat_natCast];exact hk)).signs.length:Int)∨e.2∈(s.words[(k e.1.toNat:Int).toNat]'(by rw [Int.toNat_natCast];exact hk)).cuts:=h3
  simp only [Int.toNat_natCast] at h3
  rw [hw];exact h3
theorem Renum.sooner (h:Renum s x out k N) {a b:End} (ha:0≤a.1∧a.1.toNat < N) (hb:0≤b.1∧b.1.toNat < N):soonerI a b=soonerI (phE k a) (phE k b):=by
 have h1:=h.lt_iff ha.2 hb.2
 have h2:k a.1.toNat=k b.1.toNat↔a.1.toNat=b.1.toNat:=⟨h.inj ha.2 hb.2,fun e=>by rw [e]⟩
 unfold soonerI phE
 rw [Bool.eq_iff_iff]
 simp only [Bool.or_eq_true,Bool.and_eq_true,decide_eq_true_eq,beq_iff_eq]
 omega
theorem Renum.setR (h:Renum s x out k N) (ho:outI s out=true) (hx:outI x []=true) {es:List End} (hr:InR N es):Tryz.setR x [] es=Tryz.setR s out (es.map (phE k)):=by
 have hlast:(es.getLast?.getD (-1,0)==lastE x [])=((es.map (phE k)).getLast?.getD (-1,0)==lastE s out)∨es=[]:=by
  by_cases hne:es=[]
  ·exact .inr hne
  refine .inl ?_
  obtain ⟨e,he⟩:∃ e,es.getLast? = some e:=by cases hh:es.getLast? with | none=>exact absurd (List.getLast?_eq_none_iff.1 hh) hne | some e=>exact ⟨e,rfl⟩
  have hem:=List.mem_of_getLast? he
  have hee:=hr e hem
  have hp:=h.pos
  rw [List.getLast?_map,he]
  show (e==lastE x [])=(phE k e==lastE s out)
  have e1:lastE x []=(((N - 1:Nat):Int),(Tryz.lenW x (N - 1):Int)):=lastE_nil (by rw [h.n];omega)
  have e2:lastE s out=((k (N - 1):Int),(Tryz.lenW s (k (N - 1)):Int)):=by
   unfold lastE
   rw [h.lastN,Int.toNat_natCast]
   unfold Tryz.lenW
   rw [List.getElem?_eq_getElem (h.lt _ (by omega))]
  rw [e1,e2,h.lenW (by omega),Bool.eq_iff_iff,beq_iff_eq,beq_iff_eq]
  constructor
  ·rintro rfl
   show ((k ((N - 1:Nat):Int).toNat:Int),(Tryz.lenW s (k (N - 1)):Int))=_
   rw [Int.toNat_natCast]
  ·intro hh
   have a1:(k e.1.toNat:Int)=(k (N - 1):Int):=congrArg Prod.fst hh
   have a2:e.2=(Tryz.lenW s (k (N - 1)):Int):=congrArg Prod.snd hh
   have:=h.inj hee.2 (by omega) (by omega:k e.1.toNat=k (N - 1))
   exact Prod.ext (by show e.1=((N - 1:Nat):Int);omega) a2
 rcases hlast with hlast | rfl
 ·unfold Tryz.setR
  rw [ho,hx,hlast]
  have e1:(es.map (phE k)).isEmpty=es.isEmpty:=by cases es<;>rfl
  have e2:adjI (Tryz.okE x []) soonerI es=adjI (Tryz.okE s out) soonerI (es.map (phE k)):=by
   rw [Bool.eq_iff_iff,adjI_iff,adjI_iff]
   constructor
   ·rintro ⟨h1,h2⟩
    refine ⟨fun e he => ?_,fun j hj => ?_⟩
    ·obtain ⟨e',he',rfl⟩:=List.mem_map.1 he
     exact (h.okE (hr _ he').1 (hr _ he').2).1 (h1 _ he')
    ·have hj':j+1 < es.length:=by simpa using hj
     rw [List.getElem_map,List.getElem_map,← h.sooner (hr _ (List.getElem_mem _)) (hr _ (List.getElem_mem _))]
     exact h2 j hj'
   ·rintro ⟨h1,h2⟩
    refine ⟨fun e he => ?_,fun j hj => ?_⟩
    ·exact (h.okE (hr _ he).1 (hr _ he).2).2 (h1 _ (List.mem_map_of_mem he))
    ·have:=h2 j (by simpa using hj)
     rw [List.getElem_map,List.getElem_map,← h.sooner (hr _ (List.getElem_mem _)) (hr _ (List.getElem_mem _))] at this
     exact this
  rw [e1,e2]
 ·unfold Tryz.setR
  simp
theorem Renum.fitI (h:Renum s x out k N) {es:List End} (hr:InR N es) (hs:∀ j (hj:j+1 < es.length),es[j].1.toNat≤es[j+1].1.toNat) (hin:∀ i,i < es.length→∀ g∈Tryz.rowI x [] es i,g.1 < N) (st:Int):Tryz.fitI x [] es st=Tryz.fitI s out (es.map (phE k)) st:=by
 have e:widthsI x [] es st=widthsI s out (es.map (phE k)) st:=by
  unfold widthsI
  rw [List.length_map]
  refine List.map_congr_left fun i hi => ?_
  have hi:i < es.length:=List.mem_range.1 hi
  unfold wideI
  rw [h.wideP st (hin i hi),h.rowI hr hs i hi,h.cutI hr i hi]
 unfold Tryz.fitI
 rw [e,List.length_map,h.h8,h.h9]
end
end Go.Proofs.Tryz
namespace Go.Proofs.Tryz
open Go.AL
end Go.Proofs.Tryz
namespace Go.Proofs.Tryz
open Go.AL
end Go.Proofs.Tryz
namespace Go.Proofs.Tryz
open Go.AL
end Go.Proofs.Tryz
namespace Go.Proofs.Tryz
open Go.AL
variable {s:Sheet} {x y:List End}
def betterE (s:Sheet):List End→List End→Bool:=betterB List.length (mostI s [])
end Go.Proofs.Tryz
namespace Go.AL
theorem awpF_go {P:Program} {GI:World→Prop} {i k:Nat} {x y:ACode} {Q:AExit→Slots→Boxes→Prop} {S:Slots} {H:Boxes} (K:Slots→Boxes→Prop) (hx:awp P GI x (assignQ K) S H) (hy:∀ S' H',K S' H'→awpF P GI i k y Q S' H'):awpF P GI i (k+1) (.seq x y) Q S H:=by
 refine awpF_cut K (awp_mono x (fun e S H h => ?_) hx) (fun h=>awp_mono x h) hy
 cases e<;>first | exact ⟨rfl,h⟩ | exact h.elim
end Go.AL
namespace Go.Proofs.Tryz
open Go Go.AL Go.RowKit Go.Proofs
attribute [local simp] awp_all qs_all ops_all dops_all ops_nil dops_nil ops_call ops_callv ops_alloc ops_box dops_call dops_alloc kO_eq kD_eq awanted apure ev Eff.S Eff.H tmpOf upd putD AL.start AV.dem AV.cells AV.storable AV.scells splice scrub abin loadA HR.okB post ares aress ares1 AV.out AV.isData ints_len ints_get fz fz1 AV.vw AV.vw1 boxy vI int undefA assignQ thenQ blockQ seqQ panQ prol prolH allocOf
variable {GI:World→Prop}
theorem frontL_vw (s:Sheet):(frontL s).map AV.vw1=frontL s:=by
 simp [frontL,sheetL,spaces,vI,ints,AV.vw1]
theorem frontL_len (s:Sheet):(frontL s).length=11:=rfl
theorem frontL_take (s:Sheet):AV.agg ((frontL s).take 10 |>.map AV.vw1)=sheetA s:=by
 simp [frontL,sheetL,sheetA,vI,ints,AV.vw1]
theorem sheet_slim {s:Sheet} (h:sheetI s=true):Slim s:=by
 have hF:=sheetF h
 refine ⟨by have:=hF.wlen;omega,by have:=hF.plen;omega,by have:=hF.words;omega,fun w hw => ?_,fun w hw => ?_⟩
 ·have:=(wordF h hw).len6;omega
 ·have f:=wordF h hw
  have:=rises_bound f.cuts (by have:=f.len1;omega)
  have:=f.len6
  omega
theorem it_set (hG:Stable GI) (s:Sheet) (hsh:sheetI s=true) (out:List Int) (ho:out.length≤1000):IterC prog GI 144 [.ref (frontL s),.ref [vI out]] ((allS s out s.rows.toNat).map (settingA out)):=by
 have hr:=(sheetF hsh).rows
 have he:=endsL_len hsh out
 refine it144 hG (oE := .view) (all:=endsL s out) (rows:=s.rows.toNat) (by omega) (by omega) ho (frontL_len s) ?_ ?_ ?_
 ·intro x hx
  simp [frontL,sheetL] at hx
  rcases hx with rfl | rfl | rfl | rfl | rfl | rfl | rfl | rfl | rfl | rfl<;>exact ⟨rfl,rfl,rfl⟩
 ·show some (AV.int .i64 s.rows)=some (.int .i64 (s.rows.toNat:Nat))
  rw [Int.toNat_of_nonneg (by omega)]
 ·rw [frontL_take]
  exact ac145 hG s (sheet_slim hsh) out (by omega)
theorem allS_good {s:Sheet} (hsh:sheetI s=true) {out:List Int} (hout:outI s out=true) {es:List End} (h:es∈allS s out s.rows.toNat):setR s out es=true∧es.length≤3:=by
 have hr:=(sheetF hsh).rows
 obtain ⟨h1,h2⟩:=(mem_allS hsh hout).1 h
 exact ⟨h1,by omega⟩
theorem ac86s (hG:Stable GI) (s:Sheet) (hsh:sheetI s=true) (out:List Int) (ho:out.length≤1000) (hout:outI s out=true) {es:List End} (h:es∈allS s out s.rows.toNat):AC prog GI 86 [.agg ((frontL s).map AV.vw1),settingA out es,.int .i64 0] (.ret (.bool (fitI s out es 0))):=by
 obtain ⟨h1,h2⟩:=allS_good hsh hout h
 rw [frontL_vw]
 exact ac86 hG s hsh out (by omega) es (by omega) (good_of hsh h1) (by omega) (by omega)
theorem ac97f (hG:Stable GI) (s:Sheet) (hsh:sheetI s=true) (out:List Int) (ho:out.length≤1000) (hout:outI s out=true):AC prog GI 97 [frontA s,vI out] (.ret (.slice .view ((goodS s out).map (settingA out)))):=by
 have hr:=(sheetF hsh).rows
 have hl:=allS_len hsh out (m:=s.rows.toNat) (by omega)
 refine AC.as_view (o:=if (goodS s out).isEmpty then .nil else .view) ?_
 exact ac97 hG (frontL_len s) (by
  intro x hx
  simp [frontL,sheetL] at hx
  rcases hx with rfl | rfl | rfl | rfl | rfl | rfl | rfl | rfl | rfl | rfl | rfl<;>rfl) (by omega) (fun es h=>by have:=(allS_good hsh hout h).2;omega) (by rw [frontL_vw];exact it_set hG s hsh out ho) (fun es h=>ac86s hG s hsh out ho hout h)
theorem ac107f (hG:Stable GI) (s:Sheet) (hsh:sheetI s=true) (out:List Int) (ho:out.length≤1000) (hout:outI s out=true):AC prog GI 107 [frontA s,vI out] (.ret (.bool (!(goodS s out).isEmpty))):=by
 have e:(!(goodS s out).isEmpty)=(allS s out s.rows.toNat).any fun es=>fitI s out es 0:=by
  unfold goodS
  rw [Bool.eq_iff_iff]
  simp [List.filter_eq_nil_iff]
 rw [e]
 exact ac107 hG (frontL_len s) (by rw [frontL_vw];exact it_set hG s hsh out ho) (fun es h=>ac86s hG s hsh out ho hout h)
theorem ac99 (hG:Stable GI) (s:Sheet) (hsh:sheetI s=true) {a b:List End} (ha:setR s [] a=true) (hb:setR s [] b=true) (hal:a.length≤10) (hbl:b.length≤10):AC prog GI 99 [settingA [] a,settingA [] b,.ref (frontL s)] (.ret (.bool (betterE s a b))):=by
 have ga:=ac87 hG s hsh [] (by simp) a (by omega) (good_of hsh ha)
 have gb:=ac87 hG s hsh [] (by simp) b (by omega) (good_of hsh hb)
 refine AC.of_body hG hmix func99 rfl ntmps99 (by simp) (ac:=c99) (by kernel_rfl) ?_
 refine awp_cut (fun S H=>S 2 = .ref (frontL s)∧S 3 = .box 3 0∧S 4 = .box 4 0∧H 3=some [vI [],.slice .view (a.map endA)]∧H 4=some [vI [],.slice .view (b.map endA)]) (by simp [settingA,endsA]) ?_
 rintro S H ⟨s2,s3,s4,e3,e4⟩
 refine awp_cut (fun S H=>S 2 = .ref (frontL s)∧S 3 = .box 3 0∧S 4 = .box 4 0∧H 3=some [vI [],.slice .view (a.map endA)]∧H 4=some [vI [],.slice .view (b.map endA)]∧S 6 = .int .i64 a.length∧S 7 = .int .i64 b.length) (by simp [s2,s3,s4,e3,e4]) ?_
 clear s2 s3 s4 e3 e4 S H
 rintro S H ⟨s2,s3,s4,e3,e4,s6,s7⟩
 unfold betterE betterB
 by_cases hlt:a.length < b.length
 ·have hlt':(a.length:Int) < b.length:=by omega
  simp [s2,s3,s4,e3,e4,s6,s7,hlt,hlt']
 by_cases he:a.length=b.length
 case neg =>
  have hlt':¬ (a.length:Int) < b.length:=by omega
  have he':((a.length:Int)==b.length)=false:=by simp;omega
  have he2:(a.length==b.length)=false:=by simpa using he
  simp [s2,s3,s4,e3,e4,s6,s7,hlt,hlt',he',he2]
 simp [s2,s3,s4,e3,e4,s6,s7,he,frontL,sheetL,spaces]
 refine ⟨_,by kernel_rfl,ga,by simp [boxy],?_⟩
 simp [s2,s3,s4,e3,e4,s6,s7,he,frontL,sheetL,spaces]
 refine ⟨_,by kernel_rfl,gb,by simp [boxy],?_⟩
 simp [s2,s3,s4,e3,e4,s6,s7,he,frontL,sheetL,spaces]
theorem set_ok2 (l:List (List End)):elemsOK 2 (l.map (settingA []))=true:=elems_map fun a=>⟨rfl,rfl⟩
theorem bestL_take {α:Type} (better:α→α→Bool) (x:α) {l:List α} {i:Nat} (h:i < l.length):bestL better x (l.take (i+1))=if better l[i] (bestL better x (l.take i)) then l[i] else bestL better x (l.take i):=by
 unfold bestL
 rw [List.take_succ_eq_append_getElem h,List.foldl_append];rfl
theorem bestL_mem {α:Type} (better:α→α→Bool):∀ (l:List α) (x:α),bestL better x l∈x::l
 |[],x=>List.mem_cons_self
 |a::l,x=>by
  show bestL better (if better a x then a else x) l∈_
  have:=bestL_mem better l (if better a x then a else x)
  rcases List.mem_cons.1 this with e | h
  ·rw [e];split<;>simp
  ·exact List.mem_cons_of_mem _ (List.mem_cons_of_mem _ h)
set_option maxHeartbeats 1000000 in
theorem ac98 (hG:Stable GI) (s:Sheet) (hsh:sheetI s=true) (x:List End) (l:List (List End)) (hl:l.length < 100000) (h:∀ a∈x::l,setR s [] a=true∧a.length≤10):AC prog GI 98 [.slice .view ((x::l).map (settingA [])),.func (.func 99) [] [.ref (frontL s)]] (.ret (settingA [] (bestL (betterE s) x l))):=by
 have hok:=set_ok2 (x::l)
 obtain ⟨it,hit,hsz⟩:=info_size (P:=prog) (t:=31) (s:=2) (by kernel_rfl)
 have hT:List.take l.length (l.map (settingA []))=l.map (settingA []):=List.take_of_length_le (by simp)
 have hm:(x::l).map (settingA [])=settingA [] x::l.map (settingA []):=rfl
 have hscr:∀ d,scrub1 d (.ref (frontL s))=false:=fun d=>rfl
 have hsx:∀ a,settingA [] a = .agg [vI [],.slice .view (a.map endA)]:=fun _=>rfl
 refine AC.of_body hG hmix func98 rfl ntmps98 (by simp) (ac:=c98) (by kernel_rfl) ?_
 refine awp_cut (fun S H=>S 4 = .box 4 0∧S 0 = .slice .view (settingA [] x::l.map (settingA []))∧S 1 = .func (.func 99) [] [.ref (frontL s)]∧H 4=some [.slice .nil [],.slice .nil []]) (by simp [hscr]) ?_
 rintro S H ⟨s4,s0,s1,e4⟩
 refine awp_cut (fun S H=>S 4 = .box 4 0∧S 0 = .slice .view (settingA [] x::l.map (settingA []))∧S 1 = .func (.func 99) [] [.ref (frontL s)]∧H 4=some [.slice .nil [],.slice .nil []]∧S 5 = .box 5 0∧H 5=some [vI [],.slice .view (x.map endA)]) (by simp [s4,s0,s1,e4,hsx,hscr]) ?_
 clear s4 s0 s1 e4 S H
 rintro S H ⟨s4,s0,s1,e4,s5,e5⟩
 rw [hm] at hok
 refine awp_cut (fun S H=>S 4 = .box 4 0∧H 4=some [.slice .nil [],.slice .nil []]∧S 5 = .box 5 0∧H 5=some [vI [],.slice .view ((bestL (betterE s) x l).map endA)]) ?_ ?_
 ·have h1:(1:Int)≤l.length+1:=by omega
  simp [s4,s0,s1,e4,s5,e5,bound,hok,h1]
  refine awp_loop 14 l.length (fun i S H=>S 1 = .func (.func 99) [] [.ref (frontL s)]∧S 4 = .box 4 0∧H 4=some [.slice .nil [],.slice .nil []]∧S 5 = .box 5 0∧H 5=some [vI [],.slice .view ((bestL (betterE s) x (l.take i)).map endA)]∧S 12 = .slice .view (l.map (settingA []))∧S 13 = .int .i64 l.length∧S 14 = .int .i64 (i:Nat)) (fun i S H h=>h.2.2.2.2.2.2.2) ⟨by simp [s1],by simp [s4],by simp [e4],by simp [s5],by simp [e5,bestL],by simp [hT],by simp,by simp⟩ ?_
  clear s4 s0 s1 e4 s5 e5 S H
  rintro i hi S H ⟨s1,s4,e4,s5,e5,s12,s13,s14⟩
  by_cases hlt:i < l.length
  case neg =>
   have hil:i=l.length:=by omega
   subst hil
   rw [List.take_of_length_le (Nat.le_refl _)] at e5
   simp [s1,s4,e4,s5,e5,s12,s13,s14]
  have hw:IntKind.i64.wrap ((i:Int)+1)=i+1:=wrapI (by omega)
  have hmem:=bestL_mem (betterE s) (l.take i) x
  have hb:=h (bestL (betterE s) x (l.take i)) (by
   rcases List.mem_cons.1 hmem with e | e
   ·rw [e];exact List.mem_cons_self
   ·exact List.mem_cons_of_mem _ (List.mem_of_mem_take e))
  have hi':=h l[i] (List.mem_cons_of_mem _ (List.getElem_mem hlt))
  have a99:=ac99 hG s hsh hi'.1 hb.1 hi'.2 hb.2
  rw [bestL_take _ _ hlt]
  generalize bestL (betterE s) x (l.take i)=o at e5 a99 ⊢
  simp [s1,s4,e4,s5,e5,s12,s13,s14,hlt,hsx,hscr]
  refine ⟨_,by kernel_rfl,a99,by simp [boxy],?_⟩
  cases betterE s l[i] o
  ·simp [s1,s4,e4,s5,e5,s12,s13,s14,hlt,hsx,hscr,hw]
  ·simp [s1,s4,e4,s5,e5,s12,s13,s14,hlt,hsx,hscr,hw]
 clear s4 s0 s1 e4 s5 e5 S H
 rintro S H ⟨s4,e4,s5,e5⟩
 simp [s4,e4,s5,e5,hsx,hit,hsz,aggT]
def setO (s:Sheet):List AV:=if sheetI s then match goodS s [] with
 |[]=>[settingA [] [],.int .i64 0,.int .i64 5]
 |x::l=>[settingA [] (bestL (betterE s) x l),.int .i64 (mostI s [] (bestL (betterE s) x l)),.int .i64 0]
 else [settingA [] [],.int .i64 0,.int .i64 2]
theorem good_ok {s:Sheet} (hsh:sheetI s=true) {a:List End} (h:a∈goodS s []):setR s [] a=true∧a.length≤3∧fitI s [] a 0=true:=by
 have hr:=(sheetF hsh).rows
 obtain ⟨h1,h2⟩:=(mem_goodS hsh (outI_nil hsh)).1 h
 refine ⟨h1,?_,h2⟩
 unfold fitI at h2
 simp only [Bool.and_eq_true,decide_eq_true_eq] at h2
 omega
theorem ac40_no (hG:Stable GI) (s:Sheet) (hs:Slim s) (hno:sheetI s=false∨goodS s []=[]):AC prog GI 40 [sheetA s] (.ret (.tup (setO s))):=by
 obtain ⟨it,hit,hsz⟩:=info_size (P:=prog) (t:=31) (s:=2) (by kernel_rfl)
 have hsx:∀ a,settingA [] a = .agg [vI [],.slice .view (a.map endA)]:=fun _=>rfl
 refine AC.of_body hG hmix func40 rfl ntmps40 (by simp) (ac:=c40) (by kernel_rfl) ?_
 refine awp_cut (fun S H=>S 1 = .box 1 0∧S 2 = .box 2 0∧H 1=some (sheetL s)∧H 2=some [.slice .nil [],.slice .nil []]) (by simp [sheetA,sheetL]) ?_
 rintro S H ⟨s1,s2,e1,e2⟩
 unfold setO
 cases hsh:sheetI s
 ·simp [s1,s2,e1,e2,sheetL]
  refine ⟨_,by kernel_rfl,ac96 hG s hs,fun _=>rfl,?_⟩
  rw [hsh]
  simp [s1,s2,e1,e2,sheetL,hit,hsz,aggT,hsx,fillA,ints]
 have hg:goodS s []=[]:=by
  rcases hno with h | h
  ·rw [h] at hsh;cases hsh
  ·exact h
 simp [s1,s2,e1,e2,sheetL]
 refine ⟨_,by kernel_rfl,ac96 hG s hs,fun _=>rfl,?_⟩
 rw [hsh]
 simp [s1,s2,e1,e2,sheetL]
 refine ⟨_,by kernel_rfl,ac80f hG s hsh,by simp [boxy],?_⟩
 simp [s1,s2,e1,e2,frontA,frontL,sheetL,spaces]
 refine ⟨_,by kernel_rfl,ac97f hG s hsh [] (by simp) (outI_nil hsh),by simp [boxy],?_⟩
 rw [hg]
 simp [s1,s2,e1,e2,hit,hsz,aggT,hsx,fillA,ints]
set_option maxHeartbeats 1000000 in
theorem ac40 (hG:Stable GI) (s:Sheet) (hs:Slim s):AC prog GI 40 [sheetA s] (.ret (.tup (setO s))):=by
 cases hsh:sheetI s with
 |false=>exact ac40_no hG s hs (.inl hsh)
 |true =>
 cases hg:goodS s [] with
 |nil=>exact ac40_no hG s hs (.inr hg)
 |cons x l =>
 obtain ⟨it,hit,hsz⟩:=info_size (P:=prog) (t:=31) (s:=2) (by kernel_rfl)
 have hsx:∀ a,settingA [] a = .agg [vI [],.slice .view (a.map endA)]:=fun _=>rfl
 have hl:=goodS_len hsh []
 rw [hg] at hl
 simp at hl
 have hall:∀ a∈x::l,setR s [] a=true∧a.length≤10:=fun a ha=>by
  have:=good_ok hsh (a:=a) (by rw [hg];exact ha)
  exact ⟨this.1,by omega⟩
 have a98:=ac98 hG s hsh x l (by omega) hall
 have hb:=hall _ (bestL_mem (betterE s) l x)
 have a87:=ac87 hG s hsh [] (by simp) (bestL (betterE s) x l) (by omega) (good_of hsh hb.1)
 have hn0:((l.length:Int)+1==0)=false:=by simp;omega
 have ho:setO s=[settingA [] (bestL (betterE s) x l),.int .i64 (mostI s [] (bestL (betterE s) x l)),.int .i64 0]:=by
  unfold setO
  rw [hsh,if_pos rfl,hg]
 rw [ho]
 refine AC.of_bodyZ hG hmix 5 5 func40 rfl ntmps40 (by simp) (ac:=c40) (by kernel_rfl) ?_
 refine awpF_go (fun S H=>S 1 = .box 1 0∧S 2 = .box 2 0∧H 1=some (sheetL s)∧H 2=some [.slice .nil [],.slice .nil []]) (by simp [sheetA,sheetL]) ?_
 rintro S H ⟨s1,s2,e1,e2⟩
 refine awpF_go (fun S H=>S 1 = .box 1 0∧S 2 = .box 2 0∧H 1=some (sheetL s)∧H 2=some [.slice .nil [],.slice .nil []]) ?_ ?_
 ·simp [s1,s2,e1,e2,sheetL]
  refine ⟨_,by kernel_rfl,ac96 hG s hs,fun _=>rfl,?_⟩
  rw [hsh]
  simp [s1,s2,e1,e2,sheetL]
 clear s1 s2 e1 e2 S H
 rintro S H ⟨s1,s2,e1,e2⟩
 refine awpF_go (fun S H=>S 2 = .box 2 0∧H 2=some [.slice .nil [],.slice .nil []]∧S 5 = .box 5 0∧H 5=some (frontL s)) ?_ ?_
 ·simp [s1,s2,e1,e2,sheetL]
  refine ⟨_,by kernel_rfl,ac80f hG s hsh,by simp [boxy],?_⟩
  simp [s1,s2,e1,e2,frontA,frontL,sheetL,spaces]
 clear s1 s2 e1 e2 S H
 rintro S H ⟨s2,e2,s5,e5⟩
 refine awpF_go (fun S H=>S 2 = .box 2 0∧H 2=some [.slice .nil [],.slice .nil []]∧S 5 = .box 5 0∧H 5=some (frontL s)∧S 6 = .slice .view ((x::l).map (settingA []))) ?_ ?_
 ·have a97:=ac97f hG s hsh [] (by simp) (outI_nil hsh)
  rw [hg] at a97
  simp [s2,e2,s5,e5,frontL,sheetL,spaces]
  refine ⟨_,by kernel_rfl,a97,by simp [boxy],?_⟩
  simp [s2,e2,s5,e5,frontL,sheetL,spaces]
 clear s2 e2 s5 e5 S H
 rintro S H ⟨s2,e2,s5,e5,s6⟩
 refine awpF_go (fun S H=>S 2 = .box 2 0∧H 2=some [.slice .nil [],.slice .nil []]∧S 5 = .box 5 0∧H 5=some (frontL s)∧S 6 = .slice .view ((x::l).map (settingA []))) (by simp [s2,e2,s5,e5,s6,hn0]) ?_
 clear s2 e2 s5 e5 s6 S H
 rintro S H ⟨s2,e2,s5,e5,s6⟩
 refine awpF_zero (frontL s) (fun S H=>S 2 = .box 2 0∧H 2=some [.slice .nil [],.slice .nil []]∧S 5 = .ref (frontL s)∧S 6 = .slice .view ((x::l).map (settingA []))) e5 ⟨by simp [s2,frz],by simp [upd,e2],by simp [s5,frz,frontL,sheetL,spaces,AV.dem,vI],by simp [s6,frz,scrub]⟩ ?_
 clear s2 e2 s5 e5 s6 S H
 rintro S H ⟨s2,e2,s5,s6⟩
 refine awp_cut (fun S H=>S 2 = .box 2 0∧H 2=some [.slice .nil [],.slice .nil []]∧S 5 = .ref (frontL s)∧S 7 = .box 7 0∧H 7=some [vI [],.slice .view ((bestL (betterE s) x l).map endA)]) ?_ ?_
 ·simp [s2,e2,s5,s6]
  refine ⟨_,by kernel_rfl,a98,by simp [boxy,boxy1],?_⟩
  simp [s2,e2,s5,s6,hsx]
 clear s2 e2 s5 s6 S H
 rintro S H ⟨s2,e2,s5,s7,e7⟩
 simp [s2,e2,s5,s7,e7,frontL,sheetL,spaces]
 refine ⟨_,by kernel_rfl,a87,by simp [boxy],?_⟩
 simp [s2,e2,s5,s7,e7,hit,hsz,aggT,hsx]
end Go.Proofs.Tryz
namespace Go.AL
section
variable {P:Program} {GI:World→Prop}
theorem appVL {S:Slots} {H:Boxes} {t e size cap i j:Nat} {l vs:List AV} {o:Ow} (hi:S i=grow e l) (hj:S j = .slice o vs) (hv:elemsOK size vs=true) (hl:elemsOK size l=true) (hn:l.length+vs.length < 1048576) :
  ∃ dm,(dm=none∨dm=some i)∧apure S H (.append t e size cap (.t i) (.t j))=some { v:=grow e (l++vs),dm:=dm }:=by
 have ei:ev S (.t i)=grow e l:=hi
 have ej:ev S (.t j) = .slice o vs:=hj
 cases l with
 |nil =>
  refine ⟨none,.inl rfl,?_⟩
  simp only [apure]
  rw [ei,ej,grow_nil]
  have hn':vs.length < 1048576:=by simpa using hn
  simp [hv,grow,hn']
 |cons x l =>
  refine ⟨some i,.inr rfl,?_⟩
  have hn':l.length+1+vs.length < 1048576:=by simpa using hn
  simp only [apure]
  rw [ei,ej]
  simp [grow,hv,hl,tmpOf,hn']
theorem aops_appL {K:Slots→Boxes→Prop} {Qp:AV→Prop} {S:Slots} {H:Boxes} {t e size cap d i j:Nat} {rest:List AOpr} (l vs:List AV) (o:Ow) (hi:S i=grow e l) (hj:S j = .slice o vs) (hv:elemsOK size vs=true) (hl:elemsOK size l=true) (hn:l.length+vs.length < 1048576)
  (h:∀ S',S' d=grow e (l++vs)→(∀ k,k≠d→k≠i→S' k=S k)→aops P GI rest K Qp S' H):aops P GI (⟨some d,none,.append t e size cap (.t i) (.t j)⟩::rest) K Qp S H:=by
 obtain ⟨dm,hdm,hap⟩:=appVL (t:=t) (cap:=cap) (H:=H) hi hj hv hl hn
 obtain ⟨k1,k2⟩:=eff_keep (S:=S) (d:=d) hdm (grow e (l++vs))
 rw [ops_ap]
 simp only [awanted,hap]
 exact h _ k1 k2
end
end Go.AL
namespace Go.Proofs.Tryz
open Go Go.AL Go.RowKit Go.Proofs
attribute [local simp] awp_all qs_all ops_allN dops_allN ops_nil dops_nil ops_call ops_callv ops_alloc ops_box dops_call dops_alloc kO_eq kD_eq awanted apure ev Eff.S Eff.H tmpOf upd putD AL.start AV.dem AV.cells AV.storable AV.scells splice scrub abin loadA HR.okB post ares aress ares1 AV.out AV.isData ints_len ints_get fz fz1 AV.vw AV.vw1 boxy vI int undefA assignQ thenQ blockQ seqQ panQ prol prolH allocOf
variable {GI:World→Prop}
end Go.Proofs.Tryz
namespace Go.Proofs.Tryz
open Go.AL
theorem splitS_app {c:UInt8}:∀ {p l:List UInt8},¬ c∈p→splitS c (p++c::l)=p::splitS c l
 |[],l,_=>by
  show (if c=c then []::splitS c l else _)=_
  rw [if_pos rfl]
 |b::p,l,h=>by
  have hb:b≠c:=fun e=>h (e ▸ List.mem_cons_self)
  show (if b=c then []::splitS c (p++c::l) else match splitS c (p++c::l) with | []=>[[b]] | p::ps=>(b::p)::ps)=_
  rw [if_neg hb,splitS_app (fun e=>h (List.mem_cons_of_mem _ e))]
end Go.Proofs.Tryz
namespace Go.Proofs.Tryz
open Go.AL
def at' (l:List Int) (i:Nat):Int:=l[i]?.getD 0
end Go.Proofs.Tryz
namespace Go.Proofs.Tryz
open Go.AL
end Go.Proofs.Tryz
namespace Go.Proofs.Tryz
open Go.AL
end Go.Proofs.Tryz
namespace Go.Proofs.Tryz
open Go.AL
end Go.Proofs.Tryz
namespace Go.Proofs.Tryz
open Go Go.AL Go.RowKit Go.Proofs
attribute [local simp] awp_all qs_all ops_all dops_all ops_nil dops_nil ops_call ops_callv ops_alloc ops_box dops_call dops_alloc kO_eq kD_eq awanted apure ev Eff.S Eff.H tmpOf upd putD AL.start AV.dem AV.cells AV.storable AV.scells splice scrub abin loadA HR.okB post ares aress ares1 AV.out AV.isData ints_len ints_get fz fz1 AV.vw AV.vw1 boxy vI int undefA assignQ thenQ blockQ seqQ panQ prol prolH allocOf
variable {GI:World→Prop}
end Go.Proofs.Tryz
namespace Go.AL
theorem awp_in_block {P:Program} {GI:World→Prop} {id:Nat} {c:ACode} {Q:AExit→Slots→Boxes→Prop} {S:Slots} {H:Boxes} (h:awp P GI c (blockQ id Q) S H):awp P GI (.block id c) Q S H:=h
end Go.AL
namespace Go.Proofs.Tryz
open Go Go.AL Go.RowKit Go.Proofs
attribute [local simp] awp_all qs_all ops_all dops_all ops_nil dops_nil ops_call ops_callv ops_alloc ops_box dops_call dops_alloc kO_eq kD_eq awanted apure ev Eff.S Eff.H tmpOf upd putD AL.start AV.dem AV.cells AV.storable AV.scells splice scrub abin loadA HR.okB post ares aress ares1 AV.out AV.isData ints_len ints_get fz fz1 AV.vw AV.vw1 boxy vI int undefA assignQ thenQ blockQ seqQ panQ prol prolH allocOf
variable {GI:World→Prop}
end Go.Proofs.Tryz
namespace Go.Proofs.Tryz
open Go Go.AL Go.RowKit Go.Proofs
attribute [local simp] awp_all qs_all ops_allN dops_allN ops_nil dops_nil ops_call ops_callv ops_alloc ops_box dops_call dops_alloc kO_eq kD_eq awanted apure ev Eff.S Eff.H tmpOf upd putD AL.start AV.dem AV.cells AV.storable AV.scells splice scrub abin loadA HR.okB post ares aress ares1 AV.out AV.isData ints_len ints_get fz fz1 AV.vw AV.vw1 boxy vI int undefA assignQ thenQ blockQ seqQ panQ prol prolH allocOf
variable {GI:World→Prop}
end Go.Proofs.Tryz
namespace Go.Proofs.Tryz
open Go.AL
end Go.Proofs.Tryz
namespace Go.Proofs.Tryz
open Go Go.AL Go.RowKit Go.Proofs
attribute [local simp] awp_all qs_all ops_allN dops_allN ops_nil dops_nil ops_call ops_callv ops_alloc ops_box dops_call dops_alloc kO_eq kD_eq awanted apure ev Eff.S Eff.H tmpOf upd putD AL.start AV.dem AV.cells AV.storable AV.scells splice scrub abin loadA HR.okB post ares aress ares1 AV.out AV.isData ints_len ints_get fz fz1 AV.vw AV.vw1 boxy vI int undefA assignQ thenQ blockQ seqQ panQ prol prolH allocOf
variable {GI:World→Prop}
end Go.Proofs.Tryz
namespace Go.Proofs.Tryz
open Go Go.AL Go.RowKit Go.Proofs
attribute [local simp] awp_all qs_all ops_all dops_all ops_nil dops_nil ops_call ops_callv ops_alloc ops_box dops_call dops_alloc kO_eq kD_eq awanted apure ev Eff.S Eff.H tmpOf upd putD AL.start AV.dem AV.cells AV.storable AV.scells splice scrub abin loadA HR.okB post ares aress ares1 AV.out AV.isData ints_len ints_get fz fz1 AV.vw AV.vw1 boxy vI int undefA assignQ thenQ blockQ seqQ panQ prol prolH allocOf
variable {GI:World→Prop}
end Go.Proofs.Tryz
namespace Go.AL
section
variable {P:Program} {GI:World→Prop}
end
end Go.AL
namespace Go.Proofs.Tryz
open Go Go.AL Go.RowKit Go.Proofs
attribute [local simp] awp_all qs_all ops_all dops_all ops_nil dops_nil ops_call ops_callv ops_alloc ops_box dops_call dops_alloc kO_eq kD_eq awanted apure ev Eff.S Eff.H tmpOf upd putD AL.start AV.dem AV.cells AV.storable AV.scells splice scrub abin loadA HR.okB post ares aress ares1 AV.out AV.isData ints_len ints_get fz fz1 AV.vw AV.vw1 boxy vI int undefA assignQ thenQ blockQ seqQ panQ prol prolH allocOf
variable {GI:World→Prop}
end Go.Proofs.Tryz
namespace Go.Proofs.Tryz
open Go Go.AL Go.RowKit Go.Proofs
attribute [local simp] awp_all qs_all ops_allN dops_allN ops_nil dops_nil ops_call ops_callv ops_alloc ops_box dops_call dops_alloc kO_eq kD_eq awanted apure ev Eff.S Eff.H tmpOf upd putD AL.start AV.dem AV.cells AV.storable AV.scells splice scrub abin loadA HR.okB post ares aress ares1 AV.out AV.isData ints_len ints_get fz fz1 AV.vw AV.vw1 boxy vI int undefA assignQ thenQ blockQ seqQ panQ prol prolH allocOf
variable {GI:World→Prop}
end Go.Proofs.Tryz
namespace Go.Proofs.Tryz
open Go Go.AL Go.RowKit Go.Proofs
attribute [local simp] awp_all qs_all ops_all dops_all ops_nil dops_nil ops_call ops_callv ops_alloc ops_box dops_call dops_alloc kO_eq kD_eq awanted apure ev Eff.S Eff.H tmpOf upd putD AL.start AV.dem AV.cells AV.storable AV.scells splice scrub abin loadA HR.okB post ares aress ares1 AV.out AV.isData ints_len ints_get fz fz1 AV.vw AV.vw1 boxy vI int undefA assignQ thenQ blockQ seqQ panQ prol prolH allocOf
variable {GI:World→Prop}
end Go.Proofs.Tryz
namespace Go.Proofs.Tryz
open Go Go.AL Go.RowKit Go.Proofs
attribute [local simp] awp_all qs_all ops_all dops_all ops_nil dops_nil ops_call ops_callv ops_alloc ops_box dops_call dops_alloc kO_eq kD_eq awanted apure ev Eff.S Eff.H tmpOf upd putD AL.start AV.dem AV.cells AV.storable AV.scells splice scrub abin loadA HR.okB post ares aress ares1 AV.out AV.isData ints_len ints_get fz fz1 AV.vw AV.vw1 boxy vI int undefA assignQ thenQ blockQ seqQ panQ prol prolH allocOf
variable {GI:World→Prop}
end Go.Proofs.Tryz
namespace Go.Proofs.Tryz
open Go Go.AL Go.RowKit Go.Proofs
attribute [local simp] awp_all qs_all ops_all dops_all ops_nil dops_nil ops_call ops_callv ops_alloc ops_box dops_call dops_alloc kO_eq kD_eq awanted apure ev Eff.S Eff.H tmpOf upd putD AL.start AV.dem AV.cells AV.storable AV.scells splice scrub abin loadA HR.okB post ares aress ares1 AV.out AV.isData ints_len ints_get fz fz1 AV.vw AV.vw1 boxy vI int undefA assignQ thenQ blockQ seqQ panQ prol prolH allocOf
variable {GI:World→Prop}
end Go.Proofs.Tryz
namespace Go.Proofs.Tryz
open Go Go.AL Go.RowKit Go.Proofs
attribute [local simp] awp_all qs_all ops_allN dops_allN ops_nil dops_nil ops_call ops_callv ops_alloc ops_box dops_call dops_alloc kO_eq kD_eq awanted apure ev Eff.S Eff.H tmpOf upd putD AL.start AV.dem AV.cells AV.storable AV.scells splice scrub abin loadA HR.okB post ares aress ares1 AV.out AV.isData ints_len ints_get fz fz1 AV.vw AV.vw1 boxy vI int undefA assignQ thenQ blockQ seqQ panQ prol prolH allocOf
variable {GI:World→Prop}
structure SpI (c:UInt8) (s:List UInt8) (i:Nat) (P:List (List UInt8)) (st:Nat):Prop where
 le:st≤i
 few:P.length≤st
 no:¬ c∈(s.take i).drop st
 eq:splitS c s=P++splitS c (s.drop st)
theorem SpI.zero (c:UInt8) (s:List UInt8):SpI c s 0 [] 0:=⟨Nat.le_refl _,Nat.le_refl _,by simp,rfl⟩
theorem SpI.skip {c:UInt8} {s:List UInt8} {i:Nat} {P:List (List UInt8)} {st:Nat} (h:SpI c s i P st) (hi:i < s.length) (hc:s[i]≠c):SpI c s (i+1) P st:=by
 obtain ⟨h1,h2,h3,h4⟩:=h
 refine ⟨by omega,h2,?_,h4⟩
 rw [List.take_succ_eq_append_getElem hi,List.drop_append_of_le_length (by rw [List.length_take];omega)]
 intro hm
 rcases List.mem_append.1 hm with hm | hm
 ·exact h3 hm
 ·rw [List.mem_singleton] at hm;exact hc hm.symm
theorem SpI.cut {c:UInt8} {s:List UInt8} {i:Nat} {P:List (List UInt8)} {st:Nat} (h:SpI c s i P st) (hi:i < s.length) (hc:s[i]=c):SpI c s (i+1) (P++[(s.take i).drop st]) (i+1):=by
 obtain ⟨h1,h2,h3,h4⟩:=h
 refine ⟨Nat.le_refl _,by simp;omega,by simp,?_⟩
 rw [h4,List.append_assoc]
 congr 1
 have e:s.drop st=(s.take i).drop st++c::s.drop (i+1):=by
  have e1:s=s.take i++s[i]::s.drop (i+1):=by
   rw [List.getElem_cons_drop,List.take_append_drop]
  conv=>lhs;rw [e1]
  rw [List.drop_append_of_le_length (by rw [List.length_take];omega),hc]
 rw [e,splitS_app h3]
 rfl
end Go.Proofs.Tryz
namespace Go.Proofs.Tryz
open Go Go.AL Go.RowKit Go.Proofs
attribute [local simp] awp_all qs_all ops_all dops_all ops_nil dops_nil ops_call ops_callv ops_alloc ops_box dops_call dops_alloc kO_eq kD_eq awanted apure ev Eff.S Eff.H tmpOf upd putD AL.start AV.dem AV.cells AV.storable AV.scells splice scrub abin loadA HR.okB post ares aress ares1 AV.out AV.isData ints_len ints_get fz fz1 AV.vw AV.vw1 boxy vI int undefA assignQ thenQ blockQ seqQ panQ prol prolH allocOf
variable {GI:World→Prop}
end Go.Proofs.Tryz
namespace Go.Proofs.Tryz
open Go Go.AL Go.RowKit Go.Proofs
attribute [local simp] awp_all qs_all ops_all dops_all ops_nil dops_nil ops_call ops_callv ops_alloc ops_box dops_call dops_alloc kO_eq kD_eq awanted apure ev Eff.S Eff.H tmpOf upd putD AL.start AV.dem AV.cells AV.storable AV.scells splice scrub abin loadA HR.okB post ares aress ares1 AV.out AV.isData ints_len ints_get fz fz1 AV.vw AV.vw1 boxy vI int undefA assignQ thenQ blockQ seqQ panQ prol prolH allocOf
variable {GI:World→Prop}
end Go.Proofs.Tryz
namespace Go.Proofs.Tryz
open Go Go.AL Go.RowKit Go.Proofs
attribute [local simp] awp_all qs_all ops_all dops_all ops_nil dops_nil ops_call ops_callv ops_alloc ops_box dops_call dops_alloc kO_eq kD_eq awanted apure ev Eff.S Eff.H tmpOf upd putD AL.start AV.dem AV.cells AV.storable AV.scells splice scrub abin loadA HR.okB post ares aress ares1 AV.out AV.isData ints_len ints_get fz fz1 AV.vw AV.vw1 boxy vI int undefA assignQ thenQ blockQ seqQ panQ prol prolH allocOf
variable {GI:World→Prop}
end Go.Proofs.Tryz
namespace Go.Proofs.Tryz
open Go Go.AL Go.RowKit Go.Proofs
attribute [local simp] awp_all qs_all ops_allN dops_allN ops_nil dops_nil ops_call ops_callv ops_alloc ops_box dops_call dops_alloc kO_eq kD_eq awanted apure ev Eff.S Eff.H tmpOf upd putD AL.start AV.dem AV.cells AV.storable AV.scells splice scrub abin loadA HR.okB post ares aress ares1 AV.out AV.isData ints_len ints_get fz fz1 AV.vw AV.vw1 boxy vI int undefA assignQ thenQ blockQ seqQ panQ prol prolH allocOf
variable {GI:World→Prop}
theorem int_ok1 (l:List Int):elemsOK 1 (ints l)=true:=elems_map fun a=>⟨rfl,rfl⟩
end Go.Proofs.Tryz
namespace Go.Proofs.Tryz
open Go.AL
def shortFits (s:Sheet) (n:Nat):Bool := !(goodS (lessS s (letsN s.words - n)) []).isEmpty
def overI (s:Sheet):Nat:=((List.range (letsN s.words)).find? (shortFits s)).getD (letsN s.words)
theorem over_at {s:Sheet} {n:Nat} (h:n < letsN s.words) (hp:shortFits s n=true) (hb:∀ j,j < n→shortFits s j=false):overI s=n:=by
 unfold overI
 have:(List.range (letsN s.words)).find? (shortFits s)=some n:=by
  rw [List.find?_range_eq_some]
  exact ⟨hp,List.mem_range.2 h,fun j hj=>by rw [hb j hj];rfl⟩
 rw [this];rfl
theorem over_all {s:Sheet} (hb:∀ j,j < letsN s.words→shortFits s j=false):overI s=letsN s.words:=by
 unfold overI
 have:(List.range (letsN s.words)).find? (shortFits s)=none:=by
  rw [List.find?_eq_none]
  intro j hj
  rw [hb j (List.mem_range.1 hj)];simp
 rw [this];rfl
theorem over_le (s:Sheet):overI s≤letsN s.words:=by
 unfold overI
 cases h:(List.range (letsN s.words)).find? (shortFits s) with
 |none=>exact Nat.le_refl _
 |some n =>
  have:=List.mem_range.1 (List.mem_of_find?_eq_some h)
  show n≤_
  omega
theorem over_iff {s:Sheet} (hs:sheetI s=true) {n:Nat} (h:n < letsN s.words):shortFits s n=decide (overI s≤n):=by
 have up:∀ a b,a≤b→b < letsN s.words→shortFits s a=true→shortFits s b=true:=by
  intro a b hab hb ha
  unfold shortFits at ha ⊢
  simp only [Bool.not_eq_true',List.isEmpty_eq_false_iff] at ha ⊢
  exact fits_fewer hs (by omega) (by omega) (by omega) ha
 cases hf:(List.range (letsN s.words)).find? (shortFits s) with
 |none =>
  have ho:overI s=letsN s.words:=by unfold overI;rw [hf];rfl
  rw [List.find?_eq_none] at hf
  have:=hf n (List.mem_range.2 h)
  rw [ho]
  simp only [Bool.not_eq_true] at this
  rw [this]
  symm
  rw [decide_eq_false_iff_not];omega
 |some m =>
  have ho:overI s=m:=by unfold overI;rw [hf];rfl
  rw [List.find?_range_eq_some] at hf
  obtain ⟨h1,h2,h3⟩:=hf
  rw [ho]
  by_cases hmn:m≤n
  ·rw [up m n hmn h h1];simp [hmn]
  ·have:=h3 n (by omega)
   simp only [Bool.not_eq_true'] at this
   rw [this];simp [hmn]
theorem letsN_bound:∀ {l:List Word} {b:Nat},(∀ w∈l,w.signs.length≤b)→letsN l≤b * l.length
 |[],_,_=>by simp [letsN]
 |w::l,b,h=>by
  have h1:=h w List.mem_cons_self
  have h2:=letsN_bound (l:=l) (b:=b) fun x hx=>h x (List.mem_cons_of_mem _ hx)
  rw [letsN_cons,List.length_cons,Nat.mul_add];omega
theorem letsN_take {l:List Word} {i:Nat} (h:i < l.length):letsN (l.take (i+1))=letsN (l.take i)+l[i].signs.length:=by
 rw [List.take_succ_eq_append_getElem h,letsN_app]
 simp [letsN]
theorem letsN_sheet {s:Sheet} (hs:sheetI s=true):letsN s.words≤24:=by
 have h4:=(sheetF hs).words
 have:=letsN_bound (l:=s.words) (b:=6) fun w hw=>(wordF hs hw).len6
 omega
end Go.Proofs.Tryz
namespace Go.Proofs.Tryz
open Go Go.AL Go.RowKit Go.Proofs
attribute [local simp] awp_all qs_all ops_all dops_all ops_nil dops_nil ops_call ops_callv ops_alloc ops_box dops_call dops_alloc kO_eq kD_eq awanted apure ev Eff.S Eff.H tmpOf upd putD AL.start AV.dem AV.cells AV.storable AV.scells splice scrub abin loadA HR.okB post ares aress ares1 AV.out AV.isData ints_len ints_get fz fz1 AV.vw AV.vw1 boxy vI int undefA assignQ thenQ blockQ seqQ panQ prol prolH allocOf
variable {GI:World→Prop}
end Go.Proofs.Tryz
namespace Go.Proofs.Tryz
open Go.AL
end Go.Proofs.Tryz
namespace Go.Proofs.Tryz
open Go Go.AL Go.RowKit Go.Proofs
attribute [local simp] awp_all qs_all ops_allN dops_allN ops_nil dops_nil ops_call ops_callv ops_alloc ops_box dops_call dops_alloc kO_eq kD_eq awanted apure ev Eff.S Eff.H tmpOf upd putD AL.start AV.dem AV.cells AV.storable AV.scells splice scrub abin loadA HR.okB post ares aress ares1 AV.out AV.isData ints_len ints_get fz fz1 AV.vw AV.vw1 boxy vI int undefA assignQ thenQ blockQ seqQ panQ prol prolH allocOf
variable {GI:World→Prop}
end Go.Proofs.Tryz
namespace Go.Proofs.Tryz
open Go Go.AL Go.RowKit Go.Proofs
attribute [local simp] awp_all qs_all ops_allN dops_allN ops_nil dops_nil ops_call ops_callv ops_alloc ops_box dops_call dops_alloc kO_eq kD_eq awanted apure ev Eff.S Eff.H tmpOf upd putD AL.start AV.dem AV.cells AV.storable AV.scells splice scrub abin loadA HR.okB post ares aress ares1 AV.out AV.isData ints_len ints_get fz fz1 AV.vw AV.vw1 boxy vI int undefA assignQ thenQ blockQ seqQ panQ prol prolH allocOf
variable {GI:World→Prop}
theorem setting_eq (out:List Int) (es:List End):settingA out es = .agg [vI out,.slice .view (es.map endA)]:=rfl
end Go.Proofs.Tryz
namespace Go.Proofs.Tryz
open Go Go.AL Go.RowKit Go.Proofs
attribute [local simp] awp_all qs_all ops_all dops_all ops_nil dops_nil ops_call ops_callv ops_alloc ops_box dops_call dops_alloc kO_eq kD_eq awanted apure ev Eff.S Eff.H tmpOf upd putD AL.start AV.dem AV.cells AV.storable AV.scells splice scrub abin loadA HR.okB post ares aress ares1 AV.out AV.isData ints_len ints_get fz fz1 AV.vw AV.vw1 boxy vI int undefA assignQ thenQ blockQ seqQ panQ prol prolH allocOf
variable {GI:World→Prop}
def rowsO (s:Sheet):List AV:=if sheetI s then match goodS s [] with
 |[]=>[.int .i64 0,.int .i64 5]
 |x::l=>[.int .i64 (bestL (betterE s) x l).length,.int .i64 0]
 else [.int .i64 0,.int .i64 2]
theorem ac39 (hG:Stable GI) (s:Sheet) (hs:Slim s):AC prog GI 39 [sheetA s] (.ret (.tup (rowsO s))):=by
 have a40:=ac40 hG s hs
 unfold setO at a40
 unfold rowsO
 refine AC.of_body hG hmix func39 rfl ntmps39 (by simp) (ac:=c39) (by kernel_rfl) ?_
 refine awp_cut (fun S H=>S 1 = .box 1 0∧H 1=some (sheetL s)) (by simp [sheetA,sheetL]) ?_
 rintro S H ⟨s1,e1⟩
 cases hsh:sheetI s
 ·rw [hsh] at a40
  simp [s1,e1,sheetL]
  refine ⟨_,by kernel_rfl,a40,by simp [boxy],?_⟩
  simp [s1,e1,sheetL,setting_eq]
 rw [hsh,if_pos rfl] at a40
 cases hg:goodS s [] with
 |nil =>
  rw [hg] at a40
  simp [s1,e1,sheetL]
  refine ⟨_,by kernel_rfl,a40,by simp [boxy],?_⟩
  simp [s1,e1,sheetL,setting_eq]
 |cons x l =>
  rw [hg] at a40
  simp only at a40 ⊢
  generalize bestL (betterE s) x l=b at *
  simp [s1,e1,sheetL]
  refine ⟨_,by kernel_rfl,a40,by simp [boxy],?_⟩
  simp [s1,e1,sheetL,setting_eq]
end Go.Proofs.Tryz
namespace Go.Proofs.Tryz
open Go.AL
end Go.Proofs.Tryz
