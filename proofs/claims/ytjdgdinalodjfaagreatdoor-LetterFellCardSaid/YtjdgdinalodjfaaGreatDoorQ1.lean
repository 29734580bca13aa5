/-
  LetterFell: for every sheet, two words of it and a letter of each: if the words look the same without these letters, and something is left, the program finds two words alike, no later than these; and the program answers the chapter's examples as it should.
  Conditions: none beyond the given row's.
-/
import Derived.Test.YtjdgdinalodjfaaGreatDoorP1
import Derived.Test.YtjdgdinalodjfaaGreatDoorK4
set_option linter.all false
set_option linter.unusedVariables false
set_option linter.unusedSimpArgs false
set_option linter.deprecated false
namespace Go.AL
section
variable {P : Program} {GI : World → Prop}
def kO (P : Program) (GI : World → Prop) (rest : List AOpr) (K : Slots → Boxes → Prop) (Qp : AV → Prop) (S : Slots) (dst : Option Nat) (H : Boxes) (v : AV) : Prop := aops P GI rest K Qp (putD S dst v) H
def kD (P : Program) (GI : World → Prop) (rest : List AOpr) (K : Slots → Boxes → Prop) (S : Slots) (dst : Option Nat) (H : Boxes) (v : AV) : Prop := dops P GI rest K (putD S dst v) H
def seqQ (P : Program) (GI : World → Prop) (y : ACode) (Q : AExit → Slots → Boxes → Prop) (e : AExit) (S : Slots) (H : Boxes) : Prop := thenQ (awp P GI y Q) Q e S H
def panQ (Q : AExit → Slots → Boxes → Prop) (S : Slots) (H : Boxes) (v : AV) : Prop := Q (.panic v) S H
theorem ops_nil (K Qp S H) : aops P GI [] K Qp S H = K S H := (Eq.refl _).trans (Eq.refl _)
theorem dops_nil (K S H) : dops P GI [] K S H = K S H := (Eq.refl _).trans (Eq.refl _)
theorem ops_call (f args d g rest K Qp S H) : aops P GI (⟨d, g, .call f args⟩ :: rest) K Qp S H = (match awanted S g with
    | some true => acall P GI f (args.map fun y => fz H (ev S y)) (args.any fun y => boxy (ev S y)) (kO P GI rest K Qp S d H) Qp
    | some false => aops P GI rest K Qp (putD S d undefA) H
    | none => False) := (Eq.refl _).trans (Eq.refl _)
theorem ops_callv (f args d g rest K Qp S H) : aops P GI (⟨d, g, .callv f args⟩ :: rest) K Qp S H = (match awanted S g with
    | some true => (match ev S f with
      | .func (.func k) first cap => acall P GI k ((first ++ args.map (ev S) ++ cap).map (fz H)) ((first ++ args.map (ev S) ++ cap).any boxy) (kO P GI rest K Qp S d H) Qp
      | _ => False)
    | some false => aops P GI rest K Qp (putD S d undefA) H
    | none => False) := (Eq.refl _).trans (Eq.refl _)
abbrev OE (P : Program) (GI : World → Prop) (op : AOp) : Prop := ∀ d g rest K Qp S H, aops P GI (⟨d, g, op⟩ :: rest) K Qp S H = (match awanted S g with | some true => (match apure S H op with | some e => aops P GI rest K Qp (e.S S d) (e.H H) | none => False) | some false => aops P GI rest K Qp (putD S d undefA) H | none => False)
abbrev DE (P : Program) (GI : World → Prop) (op : AOp) : Prop := ∀ d g rest K S H, dops P GI (⟨d, g, op⟩ :: rest) K S H = (match awanted S g with | some true => (match apure S H op with | some e => dops P GI rest K (e.S S d) (e.H H) | none => False) | some false => dops P GI rest K (putD S d undefA) H | none => False)
theorem ops_alloc (t zero d rest K Qp S H) : aops P GI (⟨some d, none, .alloc t zero⟩ :: rest) K Qp S H = aops P GI rest K Qp (upd (fun t => scrub d (S t)) d (.box d 0)) (upd H d (some zero)) := (Eq.refl _).trans (Eq.refl _)
theorem ops_box (t size x d rest K Qp S H) : aops P GI (⟨some d, none, .box t size x⟩ :: rest) K Qp S H = ((ev S x).cells.length = size ∧ (ev S x).storable = true ∧ aops P GI rest K Qp (upd (fun t => scrub d (S t)) d (.box d 0)) (upd H d (some ((ev S x).cells.map AV.dem)))) := (Eq.refl _).trans (Eq.refl _)
theorem dops_call (f args d g rest K S H) : dops P GI (⟨d, g, .call f args⟩ :: rest) K S H = (match awanted S g with
    | some true => (args.any fun y => boxy (ev S y)) = false ∧ acall P GI f (args.map fun y => fz H (ev S y)) (args.any fun y => boxy (ev S y)) (kD P GI rest K S d H) (fun _ => False)
    | some false => dops P GI rest K (putD S d undefA) H
    | none => False) := (Eq.refl _).trans (Eq.refl _)
theorem dops_alloc (t zero d rest K S H) : dops P GI (⟨some d, none, .alloc t zero⟩ :: rest) K S H = dops P GI rest K (upd S d (.box d 0)) H := (Eq.refl _).trans (Eq.refl _)
theorem kO_eq (rest K Qp S d H v) : kO P GI rest K Qp S d H v = aops P GI rest K Qp (putD S d v) H := (Eq.refl _).trans (Eq.refl _)
theorem kD_eq (rest K S d H v) : kD P GI rest K S d H v = dops P GI rest K (putD S d v) H := (Eq.refl _).trans (Eq.refl _)
theorem ops_all :
    (∀ x0 x1, OE P GI (.mv x0 x1)) ∧
    (∀ x0 x1 x2, OE P GI (.pick x0 x1 x2)) ∧
    (∀ x0 x1, OE P GI (.build x0 x1)) ∧
    (∀ x0 x1 x2 x3, OE P GI (.buildSlice x0 x1 x2 x3)) ∧
    (∀ x0 x1 x2 x3, OE P GI (.load x0 x1 x2 x3)) ∧
    (∀ x0 x1, OE P GI (.loadT x0 x1)) ∧
    (∀ x0 x1 x2 x3, OE P GI (.store x0 x1 x2 x3)) ∧
    (∀ x0 x1 x2, OE P GI (.bin x0 x1 x2)) ∧
    (∀ x0 x1 x2, OE P GI (.eqB x0 x1 x2)) ∧
    (∀ x0 x1 x2 x3, OE P GI (.eqs x0 x1 x2 x3)) ∧
    (∀ x0 x1 x2 x3 x4, OE P GI (.indexA x0 x1 x2 x3 x4)) ∧
    (∀ x0, OE P GI (.bstr x0)) ∧
    (∀ x0, OE P GI (.buildF x0)) ∧
    (∀ x0 x1 x2, OE P GI (.indexF x0 x1 x2)) ∧
    (∀ x0 x1 x2 x3, OE P GI (.lookup x0 x1 x2 x3)) ∧
    (∀ x0, OE P GI (.not x0)) ∧
    (∀ x0 x1, OE P GI (.conv x0 x1)) ∧
    (∀ x0 x1, OE P GI (.iface x0 x1)) ∧
    (∀ x0 x1 x2, OE P GI (.mkf x0 x1 x2)) ∧
    (∀ x0 x1 x2, OE P GI (.sliceS x0 x1 x2)) ∧
    (∀ x0 x1 x2 x3, OE P GI (.sliceL x0 x1 x2 x3)) ∧
    (∀ x0 x1, OE P GI (.sliceR x0 x1)) ∧
    (∀ x0 x1, OE P GI (.fieldAddr x0 x1)) ∧
    (∀ x0 x1 x2, OE P GI (.indexAddr x0 x1 x2)) ∧
    (∀ x0 x1, OE P GI (.indexS x0 x1)) ∧
    (∀ x0 x1, OE P GI (.extract x0 x1)) ∧
    (∀ x0, OE P GI (.lenS x0)) ∧
    (∀ x0, OE P GI (.lenL x0)) ∧
    (∀ x0 x1, OE P GI (.isNil x0 x1)) ∧
    (∀ x0, OE P GI (.empty x0)) ∧
    (∀ x0 x1 x2 x3 x4 x5, OE P GI (.append x0 x1 x2 x3 x4 x5)) ∧
    (∀ x0 x1, OE P GI (.max x0 x1)) ∧
    (∀ x0 x1, OE P GI (.min x0 x1)) ∧
    (∀ x0 x1 x2, OE P GI (.assert x0 x1 x2)) := by
  refine ⟨?_, ?_, ?_, ?_, ?_, ?_, ?_, ?_, ?_, ?_, ?_, ?_, ?_, ?_, ?_, ?_, ?_, ?_, ?_, ?_, ?_, ?_, ?_, ?_, ?_, ?_, ?_, ?_, ?_, ?_, ?_, ?_, ?_, ?_⟩ <;> intros <;> intro d <;> intros <;> rfl
theorem dops_all :
    (∀ x0 x1, DE P GI (.mv x0 x1)) ∧
    (∀ x0 x1 x2, DE P GI (.pick x0 x1 x2)) ∧
    (∀ x0 x1, DE P GI (.build x0 x1)) ∧
    (∀ x0 x1 x2 x3, DE P GI (.buildSlice x0 x1 x2 x3)) ∧
    (∀ x0 x1 x2 x3, DE P GI (.load x0 x1 x2 x3)) ∧
    (∀ x0 x1, DE P GI (.loadT x0 x1)) ∧
    (∀ x0 x1 x2 x3, DE P GI (.store x0 x1 x2 x3)) ∧
    (∀ x0 x1 x2, DE P GI (.bin x0 x1 x2)) ∧
    (∀ x0 x1 x2, DE P GI (.eqB x0 x1 x2)) ∧
    (∀ x0 x1 x2 x3, DE P GI (.eqs x0 x1 x2 x3)) ∧
    (∀ x0 x1 x2 x3 x4, DE P GI (.indexA x0 x1 x2 x3 x4)) ∧
    (∀ x0, DE P GI (.bstr x0)) ∧
    (∀ x0, DE P GI (.buildF x0)) ∧
    (∀ x0 x1 x2, DE P GI (.indexF x0 x1 x2)) ∧
    (∀ x0 x1 x2 x3, DE P GI (.lookup x0 x1 x2 x3)) ∧
    (∀ x0, DE P GI (.not x0)) ∧
    (∀ x0 x1, DE P GI (.conv x0 x1)) ∧
    (∀ x0 x1, DE P GI (.iface x0 x1)) ∧
    (∀ x0 x1 x2, DE P GI (.mkf x0 x1 x2)) ∧
    (∀ x0 x1 x2, DE P GI (.sliceS x0 x1 x2)) ∧
    (∀ x0 x1 x2 x3, DE P GI (.sliceL x0 x1 x2 x3)) ∧
    (∀ x0 x1, DE P GI (.sliceR x0 x1)) ∧
    (∀ x0 x1, DE P GI (.fieldAddr x0 x1)) ∧
    (∀ x0 x1 x2, DE P GI (.indexAddr x0 x1 x2)) ∧
    (∀ x0 x1, DE P GI (.indexS x0 x1)) ∧
    (∀ x0 x1, DE P GI (.extract x0 x1)) ∧
    (∀ x0, DE P GI (.lenS x0)) ∧
    (∀ x0, DE P GI (.lenL x0)) ∧
    (∀ x0 x1, DE P GI (.isNil x0 x1)) ∧
    (∀ x0, DE P GI (.empty x0)) ∧
    (∀ x0 x1 x2 x3 x4 x5, DE P GI (.append x0 x1 x2 x3 x4 x5)) ∧
    (∀ x0 x1, DE P GI (.max x0 x1)) ∧
    (∀ x0 x1, DE P GI (.min x0 x1)) ∧
    (∀ x0 x1 x2, DE P GI (.assert x0 x1 x2)) := by
  refine ⟨?_, ?_, ?_, ?_, ?_, ?_, ?_, ?_, ?_, ?_, ?_, ?_, ?_, ?_, ?_, ?_, ?_, ?_, ?_, ?_, ?_, ?_, ?_, ?_, ?_, ?_, ?_, ?_, ?_, ?_, ?_, ?_, ?_, ?_⟩ <;> intros <;> intro d <;> intros <;> rfl
theorem awp_all :
    (∀ Q S H, awp P GI .skip Q S H = Q .normal S H) ∧
    (∀ l Q S H, awp P GI (.ops l) Q S H = aops P GI l (Q .normal) (panQ Q S H) S H) ∧
    (∀ l Q S H, awp P GI (.dops l) Q S H = dops P GI l (Q .normal) (prol l S) (prolH l H)) ∧
    (∀ x y Q S H, awp P GI (.seq x y) Q S H = awp P GI x (seqQ P GI y Q) S H) ∧
    (∀ c x y Q S H, awp P GI (.cond c x y) Q S H = (match ev S c with
      | .bool true => awp P GI x Q S H
      | .bool false => awp P GI y Q S H
      | .anyb => awp P GI x Q S H ∧ awp P GI y Q S H
      | _ => False)) ∧
    (∀ id c Q S H, awp P GI (.block id c) Q S H = awp P GI c (blockQ id Q) S H) ∧
    (∀ id Q S H, awp P GI (.exit id) Q S H = Q (.exit id) S H) ∧
    (∀ Q S H, awp P GI .ret Q S H = Q .ret S H) ∧
    (∀ y Q S H, seqQ P GI y Q .normal S H = awp P GI y Q S H) ∧
    (∀ y Q id S H, seqQ P GI y Q (.exit id) S H = Q (.exit id) S H) ∧
    (∀ y Q S H, seqQ P GI y Q .ret S H = Q .ret S H) ∧
    (∀ y Q v S H, seqQ P GI y Q (.panic v) S H = Q (.panic v) S H) := by
  refine ⟨?_, ?_, ?_, ?_, ?_, ?_, ?_, ?_, ?_, ?_, ?_, ?_⟩ <;> intros <;> rfl
theorem qs_all :
    (∀ id Q S H, blockQ id Q .normal S H = Q .normal S H) ∧
    (∀ id j Q S H, blockQ id Q (.exit j) S H = if j = id then Q .normal S H else Q (.exit j) S H) ∧
    (∀ id Q S H, blockQ id Q .ret S H = Q .ret S H) ∧
    (∀ id Q v S H, blockQ id Q (.panic v) S H = Q (.panic v) S H) ∧
    (∀ K Q S H, thenQ K Q .normal S H = K S H) ∧
    (∀ K Q id S H, thenQ K Q (.exit id) S H = Q (.exit id) S H) ∧
    (∀ K Q S H, thenQ K Q .ret S H = Q .ret S H) ∧
    (∀ K Q v S H, thenQ K Q (.panic v) S H = Q (.panic v) S H) ∧
    (∀ K S H, assignQ K .normal S H = K S H) ∧
    (∀ K id S H, assignQ K (.exit id) S H = False) ∧
    (∀ K S H, assignQ K .ret S H = False) ∧
    (∀ K v S H, assignQ K (.panic v) S H = False) ∧
    (∀ Q S H v, panQ Q S H v = Q (.panic v) S H) ∧
    (∀ v K Qp, onOut (.ret v) K Qp = K v) ∧
    (∀ v K Qp, onOut (.panic v) K Qp = Qp v) := by
  refine ⟨?_, ?_, ?_, ?_, ?_, ?_, ?_, ?_, ?_, ?_, ?_, ?_, ?_, ?_, ?_⟩ <;> intros <;> rfl
end
section
variable {P : Program} {GI : World → Prop}
theorem acall_mono {f : Nat} {args : List AV} {b : Bool} {K K' : AV → Prop} {Qp Qp' : AV → Prop} (hK : ∀ v, K v → K' v) (hQ : ∀ v, Qp v → Qp' v) (h : acall P GI f args b K Qp) : acall P GI f args b K' Qp' := by
  obtain ⟨out, h1, h2, h3, h4⟩ := h
  refine ⟨out, h1, h2, h3, ?_⟩
  cases out with
  | ret v => exact hK _ h4
  | panic v => exact hQ _ h4
theorem astep_mono {op : AOp} {dst : Option Nat} {K K' : Slots → Boxes → Prop} {Qp Qp' : AV → Prop} (hK : ∀ S H, K S H → K' S H) (hQ : ∀ v, Qp v → Qp' v) {S : Slots} {H : Boxes} (h : astep P GI op dst K Qp S H) : astep P GI op dst K' Qp' S H := by
  by_cases hc : op.calm = true
  · rw [astep_calm hc] at h ⊢
    split at h
    · exact hK _ _ h
    · exact h
  · cases op <;> first | (exfalso; exact hc rfl) | skip
    case alloc => simp only [astep] at h ⊢; split at h <;> first | exact hK _ _ h | exact h
    case box => simp only [astep] at h ⊢; split at h <;> first | exact ⟨h.1, h.2.1, hK _ _ h.2.2⟩ | exact h
    case call => exact acall_mono (fun v => hK _ _) hQ h
    case callv => simp only [astep] at h ⊢; split at h <;> first | exact acall_mono (fun v => hK _ _) hQ h | exact h
    case panic => simp only [astep] at h ⊢; split at h <;> first | exact hQ _ h | exact h
    case other => exact h
theorem aops_mono {K K' : Slots → Boxes → Prop} {Qp Qp' : AV → Prop} (hK : ∀ S H, K S H → K' S H) (hQ : ∀ v, Qp v → Qp' v) : ∀ (l : List AOpr) (S : Slots) (H : Boxes), aops P GI l K Qp S H → aops P GI l K' Qp' S H
  | [], S, H, h => hK S H h
  | o :: rest, S, H, h => by
    simp only [aops] at h ⊢
    split at h
    · exact astep_mono (fun S H => aops_mono hK hQ rest S H) hQ h
    · exact aops_mono hK hQ rest _ _ h
    · exact h
theorem dstep_mono {op : AOp} {dst : Option Nat} {K K' : Slots → Boxes → Prop} (hK : ∀ S H, K S H → K' S H) {S : Slots} {H : Boxes} (h : dstep P GI op dst K S H) : dstep P GI op dst K' S H := by
  cases op
  case alloc => simp only [dstep] at h ⊢; split at h <;> first | exact hK _ _ h | exact h
  case call => exact ⟨h.1, astep_mono hK (fun _ h => h) h.2⟩
  case callv => exact ⟨h.1, astep_mono hK (fun _ h => h) h.2⟩
  case box => exact h.elim
  case panic => exact h.elim
  case other => exact h.elim
  all_goals
    simp only [dstep] at h ⊢
    exact astep_mono hK (fun _ h => h) h
theorem dops_mono {K K' : Slots → Boxes → Prop} (hK : ∀ S H, K S H → K' S H) : ∀ (l : List AOpr) (S : Slots) (H : Boxes), dops P GI l K S H → dops P GI l K' S H
  | [], S, H, h => hK S H h
  | o :: rest, S, H, h => by
    simp only [dops] at h ⊢
    split at h
    · exact dstep_mono (fun S H => dops_mono hK rest S H) h
    · exact dops_mono hK rest _ _ h
    · exact h
theorem thenQ_mono {K K' : Slots → Boxes → Prop} {Q Q' : AExit → Slots → Boxes → Prop} (hK : ∀ S H, K S H → K' S H) (h : ∀ e S H, Q e S H → Q' e S H) (e : AExit) (S : Slots) (H : Boxes) (hq : thenQ K Q e S H) : thenQ K' Q' e S H := by
  cases e with
  | normal => exact hK S H hq
  | exit id => exact h _ S H hq
  | ret => exact h _ S H hq
  | panic v => exact h _ S H hq
theorem awp_mono : ∀ (c : ACode) {Q Q' : AExit → Slots → Boxes → Prop} (_ : ∀ e S H, Q e S H → Q' e S H) {S : Slots} {H : Boxes}, awp P GI c Q S H → awp P GI c Q' S H
  | .skip, _, _, h, _, _, hq => h _ _ _ hq
  | .ops l, _, _, h, _, _, hq => aops_mono (fun S H => h _ S H) (fun v => h _ _ _) l _ _ hq
  | .dops l, _, _, h, _, _, hq => dops_mono (fun S H => h _ S H) l _ _ hq
  | .seq x y, _, _, h, _, _, hq => awp_mono x (thenQ_mono (fun _ _ => awp_mono y h) h) hq
  | .cond c x y, _, _, h, S, H, hq => by
    simp only [awp] at hq ⊢
    split at hq
    · exact awp_mono x h hq
    · exact awp_mono y h hq
    · exact ⟨awp_mono x h hq.1, awp_mono y h hq.2⟩
    · exact hq
  | .block id c, Q, Q', h, _, _, hq => awp_mono c (fun e S H hb => by
      cases e with
      | normal => exact h _ S H hb
      | exit j =>
        by_cases hj : j = id
        · simp only [blockQ, if_pos hj] at hb ⊢; exact h _ S H hb
        · simp only [blockQ, if_neg hj] at hb ⊢; exact h _ S H hb
      | ret => exact h _ S H hb
      | panic v => exact h _ S H hb) hq
  | .loop c, _, _, h, _, _, ⟨I, μ, h0, hi⟩ => ⟨I, μ, h0, fun S H hI => awp_mono c (thenQ_mono (fun _ _ h => h) h) (hi S H hI)⟩
  | .exit id, _, _, h, _, _, hq => h _ _ _ hq
  | .ret, _, _, h, _, _, hq => h _ _ _ hq
  | .bad, _, _, _, _, _, hq => hq
theorem awp_cut {x y : ACode} {Q : AExit → Slots → Boxes → Prop} {S : Slots} {H : Boxes} (K : Slots → Boxes → Prop) (hx : awp P GI x (assignQ K) S H) (hy : ∀ S' H', K S' H' → awp P GI y Q S' H') : awp P GI (.seq x y) Q S H := by
  refine awp_mono x (fun e S H h => ?_) hx
  cases e with
  | normal => exact hy S H h
  | exit id => exact h.elim
  | ret => exact h.elim
  | panic v => exact h.elim
theorem awp_go {c : Opd} {y z : ACode} {Q : AExit → Slots → Boxes → Prop} {S : Slots} {H : Boxes} (h : ev S c = .bool true) (hy : awp P GI y Q S H) : awp P GI (.seq (.cond c .skip z) y) Q S H := by
  simp only [awp, h]; exact hy
theorem awp_go2 {c : Opd} {y z : ACode} {Q : AExit → Slots → Boxes → Prop} {S : Slots} {H : Boxes} (h : ev S c = .bool false) (hy : awp P GI y Q S H) : awp P GI (.seq (.cond c z .skip) y) Q S H := by
  simp only [awp, h]; exact hy
theorem awp_in {id : Nat} {c y : ACode} {Q : AExit → Slots → Boxes → Prop} {S : Slots} {H : Boxes} (h : awp P GI c (blockQ id (seqQ P GI y Q)) S H) : awp P GI (.seq (.block id c) y) Q S H := h
theorem awp_sq {x y z : ACode} {Q : AExit → Slots → Boxes → Prop} {S : Slots} {H : Boxes} (h : awp P GI x (seqQ P GI y (seqQ P GI z Q)) S H) : awp P GI (.seq (.seq x y) z) Q S H := by
  refine awp_mono x (fun e S H h => ?_) h
  cases e <;> exact h
theorem awp_cut2 {x y z : ACode} {Q : AExit → Slots → Boxes → Prop} {S : Slots} {H : Boxes} (K : Slots → Boxes → Prop) (hx : awp P GI x (assignQ K) S H) (hy : ∀ S' H', K S' H' → awp P GI (.seq y z) Q S' H') : awp P GI (.seq (.seq x y) z) Q S H := by
  refine awp_mono x (fun e S H h => ?_) hx
  cases e with
  | normal =>
    refine awp_mono y (fun e S H h => ?_) (hy S H h)
    cases e <;> exact h
  | exit id => exact h.elim
  | ret => exact h.elim
  | panic v => exact h.elim
theorem awp_loop {c : ACode} {Q : AExit → Slots → Boxes → Prop} {S : Slots} {H : Boxes} (t n : Nat) (I : Nat → Slots → Boxes → Prop) (hix : ∀ i S H, I i S H → S t = .int .i64 (i : Nat)) (h0 : I 0 S H)
    (hs : ∀ i, i ≤ n → ∀ S H, I i S H → awp P GI c (thenQ (fun S' H' => i < n ∧ I (i + 1) S' H') Q) S H) : awp P GI (.loop c) Q S H := by
  refine ⟨fun S H => ∃ i, i ≤ n ∧ I i S H, fun S _ => match S t with | .int _ k => n - k.toNat | _ => 0, ⟨0, Nat.zero_le _, h0⟩, ?_⟩
  rintro S H ⟨i, hi, hI⟩
  refine awp_mono c (thenQ_mono (fun S' H' h => ?_) (fun _ _ _ h => h)) (hs i hi S H hI)
  refine ⟨⟨i + 1, h.1, h.2⟩, ?_⟩
  have e1 := hix _ _ _ hI
  have e2 := hix _ _ _ h.2
  simp only [e1, e2, Int.toNat_natCast]
  have := h.1
  omega
end
end Go.AL
namespace Go.Proofs.Tryz
open Go Go.AL Go.RowKit Go.Proofs
attribute [local simp] awp_all qs_all ops_all dops_all ops_nil dops_nil ops_call ops_callv ops_alloc ops_box dops_call dops_alloc kO_eq kD_eq awanted apure ev Eff.S Eff.H tmpOf upd putD AL.start AV.dem AV.cells AV.storable AV.scells splice scrub abin loadA HR.okB post ares aress ares1 AV.out AV.isData ints_len ints_get fz fz1 AV.vw AV.vw1 boxy vI int undefA assignQ thenQ blockQ seqQ panQ prol prolH allocOf
variable {GI : World → Prop}
def inI (n lo hi : Int) : Bool := decide (lo ≤ n) && decide (n ≤ hi)
theorem ac72 (hG : Stable GI) (n lo hi : Int) : AC prog GI 72 [.int .i64 n, .int .i64 lo, .int .i64 hi] (.ret (.bool (inI n lo hi))) := by
  refine AC.of_body hG hmix func72 rfl ntmps72 (by simp) (ac := c72) (by kernel_rfl) ?_
  by_cases h1 : lo ≤ n <;> by_cases h2 : n ≤ hi <;> simp [c72, inI, h1, h2]
theorem ac128 (hG : Stable GI) (n lo hi : Int) : AC prog GI 128 [.int .i64 n, .int .i64 lo, .int .i64 hi] (.ret (.bool (inI n lo hi))) := by
  refine AC.of_body hG hmix func128 rfl ntmps128 (by simp) (ac := c128) (by kernel_rfl) ?_
  by_cases h1 : lo ≤ n <;> by_cases h2 : n ≤ hi <;> simp [c128, inI, h1, h2]
def spanI (lo hi a most : Int) : Bool := inI lo a most && inI hi lo most
theorem ac90 (hG : Stable GI) (lo hi most : Int) : AC prog GI 90 [.agg [.int .i64 lo, .int .i64 hi], .int .i64 most] (.ret (.bool (spanI lo hi 0 most))) := by
  refine AC.of_body hG hmix func90 rfl ntmps90 (by simp) (ac := c90) (by kernel_rfl) ?_
  simp [c90]
  refine ⟨_, by kernel_rfl, ac72 hG lo 0 most, by simp [boxy], ?_⟩
  cases h1 : inI lo 0 most
  · simp [spanI, h1]
  · simp
    refine ⟨_, by kernel_rfl, ac72 hG hi lo most, by simp [boxy], ?_⟩
    simp [spanI, h1]
theorem ac140 (hG : Stable GI) (lo hi a most : Int) : AC prog GI 140 [.agg [.int .i64 lo, .int .i64 hi], .int .i64 a, .int .i64 most] (.ret (.bool (spanI lo hi a most))) := by
  refine AC.of_body hG hmix func140 rfl ntmps140 (by simp) (ac := c140) (by kernel_rfl) ?_
  simp [c140]
  refine ⟨_, by kernel_rfl, ac128 hG lo a most, by simp [boxy], ?_⟩
  cases h1 : inI lo a most
  · simp [spanI, h1]
  · simp
    refine ⟨_, by kernel_rfl, ac128 hG hi lo most, by simp [boxy], ?_⟩
    simp [spanI, h1]
theorem ac60 (hG : Stable GI) (n : Int) : AC prog GI 60 [.int .i64 n] (.ret (.bool (inI n 1 400))) := by
  refine AC.of_body hG hmix func60 rfl ntmps60 (by simp) (ac := c60) (by kernel_rfl) ?_
  simp [c60]
  refine ⟨_, by kernel_rfl, ac72 hG n 1 400, by simp [boxy], ?_⟩
  simp
def signI (s : Sheet) (n : Int) : Bool := inI n 0 (s.widths.length - 1)
theorem ac134 (hG : Stable GI) (s : Sheet) (hs : s.widths.length < 1000) (n : Int) : AC prog GI 134 [sheetA s, .int .i64 n] (.ret (.bool (signI s n))) := by
  refine AC.of_body hG hmix func134 rfl ntmps134 (by simp) (ac := c134) (by kernel_rfl) ?_
  have hw : IntKind.i64.wrap ((s.widths.length : Int) - 1) = s.widths.length - 1 := wrapI (by omega)
  simp [c134, sheetA, sheetL, hw]
  refine ⟨_, by kernel_rfl, ac72 hG n 0 (s.widths.length - 1), by simp [boxy], ?_⟩
  simp [signI]
def pairI (s : Sheet) (p : Pair) : Bool := signI s p.l && signI s p.r && spanI p.lo p.hi 0 9
theorem ac136 (hG : Stable GI) (s : Sheet) (hs : s.widths.length < 1000) (p : Pair) : AC prog GI 136 [sheetA s, pairA p] (.ret (.bool (pairI s p))) := by
  refine AC.of_body hG hmix func136 rfl ntmps136 (by simp) (ac := c136) (by kernel_rfl) ?_
  have hw : IntKind.i64.wrap ((s.widths.length : Int) - 1) = s.widths.length - 1 := wrapI (by omega)
  refine awp_cut (fun S H => S 2 = .box 2 0 ∧ S 3 = .box 3 0 ∧ H 2 = some (sheetL s) ∧ H 3 = some [.int .i64 p.l, .int .i64 p.r, .int .i64 p.lo, .int .i64 p.hi]) (by simp [sheetA, sheetL, pairA]) ?_
  rintro S H ⟨s2, s3, h2, h3⟩
  simp [s2, s3, h2, h3, sheetL, hw]
  refine ⟨_, by kernel_rfl, ac128 hG p.l 0 (s.widths.length - 1), by simp [boxy], ?_⟩
  cases h1 : inI p.l 0 (s.widths.length - 1)
  · simp [pairI, signI, h1]
  · simp [s2, s3, h2, h3, sheetL, hw]
    refine ⟨_, by kernel_rfl, ac128 hG p.r 0 (s.widths.length - 1), by simp [boxy], ?_⟩
    cases h4 : inI p.r 0 (s.widths.length - 1)
    · simp [pairI, signI, h1, h4]
    · simp [s2, s3, h2, h3, sheetL]
      refine ⟨_, by kernel_rfl, ac140 hG p.lo p.hi 0 9, by simp [boxy], ?_⟩
      simp [pairI, signI, h1, h4]
def ltP (a b : Pair) : Bool := decide (a.l < b.l) || (a.l == b.l && decide (a.r < b.r))
theorem ac137 (hG : Stable GI) (a b : Pair) : AC prog GI 137 [pairA a, pairA b] (.ret (.bool (ltP a b))) := by
  refine AC.of_body hG hmix func137 rfl ntmps137 (by simp) (ac := c137) (by kernel_rfl) ?_
  refine awp_cut (fun S H => S 2 = .box 2 0 ∧ S 3 = .box 3 0 ∧ H 2 = some [.int .i64 a.l, .int .i64 a.r, .int .i64 a.lo, .int .i64 a.hi] ∧ H 3 = some [.int .i64 b.l, .int .i64 b.r, .int .i64 b.lo, .int .i64 b.hi]) (by simp [pairA]) ?_
  rintro S H ⟨s2, s3, h2, h3⟩
  by_cases h1 : a.l < b.l
  · simp [s2, s3, h2, h3, ltP, h1]
  · cases h4 : a.l == b.l
    · simp [s2, s3, h2, h3, ltP, h1, h4]
    · by_cases h5 : a.r < b.r <;> simp [s2, s3, h2, h3, ltP, h1, h4, h5]
theorem ac138 (hG : Stable GI) (n : Int) : AC prog GI 138 [.int .i64 n] (.ret (.bool (!inI n 1 20))) := by
  refine AC.of_body hG hmix func138 rfl ntmps138 (by simp) (ac := c138) (by kernel_rfl) ?_
  simp [c138]
  refine ⟨_, by kernel_rfl, ac128 hG n 1 20, by simp [boxy], ?_⟩
  simp
theorem ac172 (hG : Stable GI) (s : Sheet) (hs : s.widths.length < 1000) (n : Int) : AC prog GI 172 [.int .i64 n, .ref (sheetL s)] (.ret (.bool (!signI s n))) := by
  refine AC.of_body hG hmix func172 rfl ntmps172 (by simp) (ac := c172) (by kernel_rfl) ?_
  have hw : IntKind.i64.wrap ((s.widths.length : Int) - 1) = s.widths.length - 1 := wrapI (by omega)
  simp [c172, sheetL, hw]
  refine ⟨_, by kernel_rfl, ac128 hG n 0 (s.widths.length - 1), by simp [boxy], ?_⟩
  simp [signI]
end Go.Proofs.Tryz
namespace Go.AL
def firstT {α : Type} (p : α → Bool) (l : List α) : Int := if l.any p then (l.findIdx p : Nat) else -1
theorem firstT_at {α : Type} {p : α → Bool} {l : List α} {i : Nat} (hi : i < l.length) (hp : p l[i] = true) (hb : ∀ j (hj : j < l.length), j < i → p l[j] = false) : firstT p l = (i : Nat) := by
  unfold firstT
  rw [if_pos (List.any_eq_true.2 ⟨l[i], List.getElem_mem hi, hp⟩), (List.findIdx_eq hi).2 ⟨hp, fun j hji => hb j (by omega) hji⟩]
theorem firstT_none {α : Type} {p : α → Bool} {l : List α} (hb : ∀ j (hj : j < l.length), p l[j] = false) : firstT p l = -1 := by
  unfold firstT
  rw [if_neg]
  intro h
  obtain ⟨x, hx, hp⟩ := List.any_eq_true.1 h
  obtain ⟨j, hj, rfl⟩ := List.getElem_of_mem hx
  rw [hb j hj] at hp; cases hp
theorem firstT_any {α : Type} {p : α → Bool} {l : List α} : decide (0 ≤ firstT p l) = l.any p := by
  unfold firstT
  cases h : l.any p <;> simp
end Go.AL
namespace Go.Proofs.Tryz
open Go Go.AL Go.RowKit Go.Proofs
attribute [local simp] awp_all qs_all ops_all dops_all ops_nil dops_nil ops_call ops_callv ops_alloc ops_box dops_call dops_alloc kO_eq kD_eq awanted apure ev Eff.S Eff.H tmpOf upd putD AL.start AV.dem AV.cells AV.storable AV.scells splice scrub abin loadA HR.okB post ares aress ares1 AV.out AV.isData ints_len ints_get fz fz1 AV.vw AV.vw1 boxy vI int undefA assignQ thenQ blockQ seqQ panQ prol prolH allocOf
variable {GI : World → Prop}
theorem ac170 (hG : Stable GI) (l : List Int) (hl : l.length < 1000000) (k : Nat) (caps : List AV) (hcaps : caps = [] ∨ ∃ c, caps = [.ref c]) (p : Int → Bool) (hk : callable prog k = true) (h : ∀ x ∈ l, AC prog GI k ([.int .i64 x] ++ caps) (.ret (.bool (p x)))) :
    AC prog GI 170 [.slice .view (l.map (.int .i64)), .func (.func k) [] caps] (.ret (.int .i64 (firstT p l))) := by
  refine AC.of_body hG hmix func170 rfl ntmps170 (by simp) (ac := c170) (by kernel_rfl) ?_
  rcases hcaps with rfl | ⟨c, rfl⟩ <;>
  (simp [c170]
   refine awp_loop 8 l.length (fun i S H => S 0 = .slice .view (l.map (.int .i64)) ∧ S 1 = _ ∧ S 7 = .int .i64 l.length ∧ S 8 = .int .i64 (i : Nat) ∧ ∀ j (hj : j < l.length), j < i → p l[j] = false) (fun i S H h => h.2.2.2.1) ⟨by simp, by simp; rfl, by simp, by simp, by simp⟩ ?_
   rintro i hi S H ⟨s0, s1, s7, s8, hb⟩
   by_cases hlt : i < l.length
   · have hw : IntKind.i64.wrap ((i : Int) + 1) = i + 1 := wrapI (by omega)
     have hx := h l[i] (List.getElem_mem hlt)
     cases hp : p l[i]
     · simp [List.getElem_map, s0, s1, s7, s8, hlt]
       refine ⟨_, hk, hx, by simp [boxy], ?_⟩
       simp [s0, s1, s7, s8, hlt, hp, hw]
       intro j hj hji
       by_cases hji' : j = i
       · subst hji'; exact hp
       · exact hb j hj (by omega)
     · simp [List.getElem_map, s0, s1, s7, s8, hlt]
       refine ⟨_, hk, hx, by simp [boxy], ?_⟩
       simp [s0, s1, s7, s8, hlt, hp, hw]
       exact firstT_at hlt hp hb
   · have hil : i = l.length := by omega
     subst hil
     simp [s0, s1, s7, s8]
     exact firstT_none fun j hj => hb j hj hj)
theorem ac139 (hG : Stable GI) (l : List Int) (hl : l.length < 1000000) (k : Nat) (caps : List AV) (hcaps : caps = [] ∨ ∃ c, caps = [.ref c]) (p : Int → Bool) (hk : callable prog k = true) (h : ∀ x ∈ l, AC prog GI k ([.int .i64 x] ++ caps) (.ret (.bool (p x)))) :
    AC prog GI 139 [.slice .view (l.map (.int .i64)), .func (.func k) [] caps] (.ret (.bool (l.any p))) := by
  have hF := ac170 hG l hl k caps hcaps p hk h
  refine AC.of_body hG hmix func139 rfl ntmps139 (by simp) (ac := c139) (by kernel_rfl) ?_
  rcases hcaps with rfl | ⟨c, rfl⟩ <;>
  (simp [c139]
   refine ⟨_, by kernel_rfl, hF, fun _ => rfl, ?_⟩
   simp
   exact firstT_any.symm)
theorem ac171 (hG : Stable GI) (l : List Word) (hl : l.length < 1000000) (k : Nat) (caps : List AV) (hcaps : caps = [] ∨ ∃ c, caps = [.ref c]) (p : Word → Bool) (hk : callable prog k = true) (h : ∀ x ∈ l, AC prog GI k ([wordA x] ++ caps) (.ret (.bool (p x)))) :
    AC prog GI 171 [.slice .view (l.map wordA), .func (.func k) [] caps] (.ret (.int .i64 (firstT p l))) := by
  refine AC.of_body hG hmix func171 rfl ntmps171 (by simp) (ac := c171) (by kernel_rfl) ?_
  rcases hcaps with rfl | ⟨c, rfl⟩ <;>
  (simp [c171]
   refine awp_loop 8 l.length (fun i S H => S 0 = .slice .view (l.map wordA) ∧ S 1 = _ ∧ S 7 = .int .i64 l.length ∧ S 8 = .int .i64 (i : Nat) ∧ ∀ j (hj : j < l.length), j < i → p l[j] = false) (fun i S H h => h.2.2.2.1) ⟨by simp, by simp; rfl, by simp, by simp, by simp⟩ ?_
   rintro i hi S H ⟨s0, s1, s7, s8, hb⟩
   by_cases hlt : i < l.length
   · have hw : IntKind.i64.wrap ((i : Int) + 1) = i + 1 := wrapI (by omega)
     have hx := h l[i] (List.getElem_mem hlt)
     cases hp : p l[i]
     · simp [List.getElem_map, wordA, s0, s1, s7, s8, hlt]
       refine ⟨_, hk, hx, by simp [boxy], ?_⟩
       simp [s0, s1, s7, s8, hlt, hp, hw]
       intro j hj hji
       by_cases hji' : j = i
       · subst hji'; exact hp
       · exact hb j hj (by omega)
     · simp [List.getElem_map, wordA, s0, s1, s7, s8, hlt]
       refine ⟨_, hk, hx, by simp [boxy], ?_⟩
       simp [s0, s1, s7, s8, hlt, hp, hw]
       exact firstT_at hlt hp hb
   · have hil : i = l.length := by omega
     subst hil
     simp [s0, s1, s7, s8]
     exact firstT_none fun j hj => hb j hj hj)
theorem ac141 (hG : Stable GI) (l : List Word) (hl : l.length < 1000000) (k : Nat) (caps : List AV) (hcaps : caps = [] ∨ ∃ c, caps = [.ref c]) (p : Word → Bool) (hk : callable prog k = true) (h : ∀ x ∈ l, AC prog GI k ([wordA x] ++ caps) (.ret (.bool (p x)))) :
    AC prog GI 141 [.slice .view (l.map wordA), .func (.func k) [] caps] (.ret (.bool (l.any p))) := by
  have hF := ac171 hG l hl k caps hcaps p hk h
  refine AC.of_body hG hmix func141 rfl ntmps141 (by simp) (ac := c141) (by kernel_rfl) ?_
  rcases hcaps with rfl | ⟨c, rfl⟩ <;>
  (simp [c141]
   refine ⟨_, by kernel_rfl, hF, fun _ => rfl, ?_⟩
   simp
   exact firstT_any.symm)
theorem ac155 (hG : Stable GI) (l : List (List Int)) (hl : l.length < 1000000) (k : Nat) (caps : List AV) (hcaps : caps = [] ∨ ∃ c, caps = [.ref c]) (p : (List Int) → Bool) (hk : callable prog k = true) (h : ∀ x ∈ l, AC prog GI k ([vI x] ++ caps) (.ret (.bool (p x)))) :
    AC prog GI 155 [.slice .view (l.map vI), .func (.func k) [] caps] (.ret (.int .i64 (firstT p l))) := by
  refine AC.of_body hG hmix func155 rfl ntmps155 (by simp) (ac := c155) (by kernel_rfl) ?_
  rcases hcaps with rfl | ⟨c, rfl⟩ <;>
  (simp [c155]
   refine awp_loop 8 l.length (fun i S H => S 0 = .slice .view (l.map vI) ∧ S 1 = _ ∧ S 7 = .int .i64 l.length ∧ S 8 = .int .i64 (i : Nat) ∧ ∀ j (hj : j < l.length), j < i → p l[j] = false) (fun i S H h => h.2.2.2.1) ⟨by simp, by simp; rfl, by simp, by simp, by simp⟩ ?_
   rintro i hi S H ⟨s0, s1, s7, s8, hb⟩
   by_cases hlt : i < l.length
   · have hw : IntKind.i64.wrap ((i : Int) + 1) = i + 1 := wrapI (by omega)
     have hx := h l[i] (List.getElem_mem hlt)
     cases hp : p l[i]
     · simp [List.getElem_map, vI, s0, s1, s7, s8, hlt]
       refine ⟨_, hk, hx, by simp [boxy], ?_⟩
       simp [s0, s1, s7, s8, hlt, hp, hw]
       intro j hj hji
       by_cases hji' : j = i
       · subst hji'; exact hp
       · exact hb j hj (by omega)
     · simp [List.getElem_map, vI, s0, s1, s7, s8, hlt]
       refine ⟨_, hk, hx, by simp [boxy], ?_⟩
       simp [s0, s1, s7, s8, hlt, hp, hw]
       exact firstT_at hlt hp hb
   · have hil : i = l.length := by omega
     subst hil
     simp [s0, s1, s7, s8]
     exact firstT_none fun j hj => hb j hj hj)
theorem ac112 (hG : Stable GI) (l : List (List Int)) (hl : l.length < 1000000) (k : Nat) (caps : List AV) (hcaps : caps = [] ∨ ∃ c, caps = [.ref c]) (p : (List Int) → Bool) (hk : callable prog k = true) (h : ∀ x ∈ l, AC prog GI k ([vI x] ++ caps) (.ret (.bool (p x)))) :
    AC prog GI 112 [.slice .view (l.map vI), .func (.func k) [] caps] (.ret (.bool (l.any p))) := by
  have hF := ac155 hG l hl k caps hcaps p hk h
  refine AC.of_body hG hmix func112 rfl ntmps112 (by simp) (ac := c112) (by kernel_rfl) ?_
  rcases hcaps with rfl | ⟨c, rfl⟩ <;>
  (simp [c112]
   refine ⟨_, by kernel_rfl, hF, fun _ => rfl, ?_⟩
   simp
   exact firstT_any.symm)
end Go.Proofs.Tryz
namespace Go.AL
def adjI {α : Type} (p : α → Bool) (lt : α → α → Bool) (l : List α) : Bool := l.all p && (List.range (l.length - 1)).all fun i => match l[i]?, l[i + 1]? with | some a, some b => lt a b | _, _ => true
theorem adjI_false {α : Type} {p : α → Bool} {lt : α → α → Bool} {l : List α} {i : Nat} (hi : i < l.length) (hp : p l[i] = false) : adjI p lt l = false := by
  unfold adjI
  rw [Bool.and_eq_false_iff]
  exact .inl (List.all_eq_false.2 ⟨_, List.getElem_mem hi, by simp [hp]⟩)
theorem adjI_false2 {α : Type} {p : α → Bool} {lt : α → α → Bool} {l : List α} {i : Nat} (hi : i + 1 < l.length) (hp : lt (l[i]'(by omega)) l[i + 1] = false) : adjI p lt l = false := by
  unfold adjI
  rw [Bool.and_eq_false_iff]
  refine .inr (List.all_eq_false.2 ⟨i, List.mem_range.2 (by omega), ?_⟩)
  simp [hi, show i < l.length by omega, hp]
theorem adjI_true {α : Type} {p : α → Bool} {lt : α → α → Bool} {l : List α} (h1 : ∀ j (hj : j < l.length), p l[j] = true) (h2 : ∀ j (hj : j + 1 < l.length), lt (l[j]'(by omega)) l[j + 1] = true) : adjI p lt l = true := by
  unfold adjI
  rw [Bool.and_eq_true]
  constructor
  · rw [List.all_eq_true]
    intro x hx
    obtain ⟨j, hj, rfl⟩ := List.getElem_of_mem hx
    exact h1 j hj
  · rw [List.all_eq_true]
    intro j hj
    rw [List.mem_range] at hj
    simp [show j < l.length by omega, show j + 1 < l.length by omega, h2 j (by omega)]
end Go.AL
namespace Go.Proofs.Tryz
open Go Go.AL Go.RowKit Go.Proofs
attribute [local simp] awp_all qs_all ops_all dops_all ops_nil dops_nil ops_call ops_callv ops_alloc ops_box dops_call dops_alloc kO_eq kD_eq awanted apure ev Eff.S Eff.H tmpOf upd putD AL.start AV.dem AV.cells AV.storable AV.scells splice scrub abin loadA HR.okB post ares aress ares1 AV.out AV.isData ints_len ints_get fz fz1 AV.vw AV.vw1 boxy vI int undefA assignQ thenQ blockQ seqQ panQ prol prolH allocOf
variable {GI : World → Prop}
def risesI (l : List Int) (lo hi : Int) : Bool := adjI (inI · lo hi) (fun a b => decide (a < b)) l
theorem ac150 (hG : Stable GI) (l : List Int) (hl : l.length < 1000000) (lo hi : Int) : AC prog GI 150 [vI l, .int .i64 lo, .int .i64 hi] (.ret (.bool (risesI l lo hi))) := by
  refine AC.of_body hG hmix func150 rfl ntmps150 (by simp) (ac := c150) (by kernel_rfl) ?_
  simp [c150]
  refine awp_loop 11 l.length (fun i S H => S 0 = vI l ∧ S 1 = .int .i64 lo ∧ S 2 = .int .i64 hi ∧ S 9 = vI l ∧ S 10 = .int .i64 l.length ∧ S 11 = .int .i64 (i : Nat) ∧ (∀ j (hj : j < l.length), j < i → inI l[j] lo hi = true) ∧ ∀ j (hj : j + 1 < l.length), j + 1 < i → decide (l[j] < l[j + 1]) = true) (fun i S H h => h.2.2.2.2.2.1) ⟨by simp, by simp, by simp, by simp, by simp, by simp, by simp, by simp⟩ ?_
  rintro i hi' S H ⟨s0, s1, s2, s9, s10, s11, hb, hc⟩
  by_cases hlt : i < l.length
  · have hw : IntKind.i64.wrap ((i : Int) + 1) = i + 1 := wrapI (by omega)
    simp [s0, s1, s2, s9, s10, s11, hlt]
    refine ⟨_, by kernel_rfl, ac128 hG l[i] lo hi, fun _ => rfl, ?_⟩
    cases hp : inI l[i] lo hi
    · simp [s0, s1, s2, s9, s10, s11, hlt, hw]
      exact adjI_false hlt hp
    · cases i with
      | zero =>
        simp [s0, s1, s2, s9, s10, s11, hlt]
        exact ⟨wrapI (by omega), fun j hj hj0 => by subst hj0; exact hp⟩
      | succ k =>
        have hk : ((k + 1 : Nat) : Int) - 1 = (k : Nat) := by omega
        have hwk : IntKind.i64.wrap (k : Int) = k := wrapI (by omega)
        have hw2 : IntKind.i64.wrap ((k : Int) + 1 + 1) = k + 1 + 1 := wrapI (by omega)
        have hkl : k < l.length := by omega
        have h0 : (0 : Int) < (k : Int) + 1 := by omega
        by_cases hle : l[k + 1] ≤ l[k]
        · simp [s0, s1, s2, s9, s10, s11, hlt, hwk, hkl, hle, h0]
          exact adjI_false2 (lt := fun a b => decide (a < b)) hlt (by simpa using hle)
        · simp [s0, s1, s2, s9, s10, s11, hlt, hwk, hkl, hle, h0, hw2]
          refine ⟨fun j hj hjk => ?_, fun j hj hjk => ?_⟩
          · by_cases e : j = k + 1
            · subst e; exact hp
            · exact hb j hj (by omega)
          · by_cases e : j = k
            · subst e; omega
            · simpa using hc j hj (by omega)
  · have hil : i = l.length := by omega
    subst hil
    simp [s0, s1, s2, s9, s10, s11]
    exact adjI_true (fun j hj => hb j hj hj) (fun j hj => hc j hj hj)
def wordI (s : Sheet) (w : Word) : Bool := inI w.signs.length 1 6 && !(w.signs.any fun n => !signI s n) && risesI w.cuts 1 (w.signs.length - 1)
theorem ac143 (hG : Stable GI) (s : Sheet) (hs : s.widths.length < 1000) (w : Word) (h1 : w.signs.length < 1000) (h2 : w.cuts.length < 1000) : AC prog GI 143 [sheetA s, wordA w] (.ret (.bool (wordI s w))) := by
  have h139 := ac139 hG w.signs (by omega) 172 [.ref (sheetL s)] (.inr ⟨_, rfl⟩) (fun n => !signI s n) (by kernel_rfl) (fun n _ => ac172 hG s hs n)
  have hw : IntKind.i64.wrap ((w.signs.length : Int) - 1) = w.signs.length - 1 := wrapI (by omega)
  refine AC.of_body hG hmix func143 rfl ntmps143 (by simp) (ac := c143) (by kernel_rfl) ?_
  refine awp_cut (fun S H => S 2 = .box 2 0 ∧ S 3 = .box 3 0 ∧ H 2 = some (sheetL s) ∧ H 3 = some [vI w.signs, vI w.cuts, .bool w.free]) (by simp [sheetA, sheetL, wordA]) ?_
  rintro S H ⟨s2, s3, e2, e3⟩
  simp [s2, s3, e2, e3]
  refine ⟨_, by kernel_rfl, ac128 hG w.signs.length 1 6, fun _ => rfl, ?_⟩
  cases h3 : inI w.signs.length 1 6
  · simp [wordI, h3]
  · simp [s2, s3, e2, e3, sheetL]
    refine ⟨_, by kernel_rfl, h139, fun _ => rfl, ?_⟩
    cases h4 : w.signs.any fun n => !signI s n
    · simp [s2, s3, e2, e3, hw]
      refine ⟨_, by kernel_rfl, ac150 hG w.cuts (by omega) 1 (w.signs.length - 1), fun _ => rfl, ?_⟩
      simp [wordI, h3, h4]
    · simp [wordI, h3, h4]
theorem ac142 (hG : Stable GI) (s : Sheet) (hs : s.widths.length < 1000) (w : Word) (h1 : w.signs.length < 1000) (h2 : w.cuts.length < 1000) : AC prog GI 142 [wordA w, .ref (sheetL s)] (.ret (.bool (!wordI s w))) := by
  refine AC.of_body hG hmix func142 rfl ntmps142 (by simp) (ac := c142) (by kernel_rfl) ?_
  simp [c142, wordA, sheetL]
  refine ⟨_, by kernel_rfl, ac143 hG s hs w h1 h2, fun _ => rfl, ?_⟩
  simp
end Go.Proofs.Tryz
namespace Go.Proofs.Tryz
open Go Go.AL Go.RowKit Go.Proofs
attribute [local simp] awp_all qs_all ops_all dops_all ops_nil dops_nil ops_call ops_callv ops_alloc ops_box dops_call dops_alloc kO_eq kD_eq awanted apure ev Eff.S Eff.H tmpOf upd putD AL.start AV.dem AV.cells AV.storable AV.scells splice scrub abin loadA HR.okB post ares aress ares1 AV.out AV.isData ints_len ints_get fz fz1 AV.vw AV.vw1 boxy vI int undefA assignQ thenQ blockQ seqQ panQ prol prolH allocOf
variable {GI : World → Prop}
structure Slim (s : Sheet) : Prop where
  widths : s.widths.length < 1000
  pairs : s.pairs.length < 1000
  words : s.words.length < 1000
  signs : ∀ w ∈ s.words, w.signs.length < 1000
  cuts : ∀ w ∈ s.words, w.cuts.length < 1000
def endI (s : Sheet) : Bool := !(s.widths.any fun n => !inI n 1 20) && spanI s.olo s.ohi 0 9 && spanI s.glo s.ghi 0 20 && inI s.hyphen 1 20 && !(s.words.any fun w => !wordI s w) && inI s.wide 1 400 && inI s.rows 1 3
def sheetI (s : Sheet) : Bool := inI s.widths.length 1 6 && decide (s.pairs.length ≤ 6) && inI s.words.length 1 4 && adjI (pairI s) ltP s.pairs && endI s
theorem ac96 (hG : Stable GI) (s : Sheet) (hs : Slim s) : AC prog GI 96 [sheetA s] (.ret (.bool (sheetI s))) := by
  have h139 := ac139 hG s.widths (by have := hs.widths; omega) 138 [] (.inl rfl) (fun n => !inI n 1 20) (by kernel_rfl) (fun n _ => ac138 hG n)
  have h141 := ac141 hG s.words (by have := hs.words; omega) 142 [.ref (sheetL s)] (.inr ⟨_, rfl⟩) (fun w => !wordI s w) (by kernel_rfl) (fun w hw => ac142 hG s hs.widths w (hs.signs w hw) (hs.cuts w hw))
  refine AC.of_body hG hmix func96 rfl ntmps96 (by simp) (ac := c96) (by kernel_rfl) ?_
  refine awp_cut (fun S H => S 1 = .box 1 0 ∧ H 1 = some (sheetL s)) (by simp [sheetA, sheetL]) ?_
  rintro S H ⟨s1, e1⟩
  simp [s1, e1, sheetL]
  refine ⟨_, by kernel_rfl, ac128 hG s.widths.length 1 6, fun _ => rfl, ?_⟩
  cases h1 : inI s.widths.length 1 6
  · simp [sheetI, h1]
  by_cases h2 : (6 : Int) < s.pairs.length
  · simp [s1, e1, sheetL, h2]
    have : ¬ s.pairs.length ≤ 6 := by omega
    simp [sheetI, this]
  simp [s1, e1, sheetL, h2]
  refine ⟨_, by kernel_rfl, ac128 hG s.words.length 1 4, fun _ => rfl, ?_⟩
  cases h3 : inI s.words.length 1 4
  · simp [sheetI, h3]
  simp [s1, e1, sheetL]
  have h2' : s.pairs.length ≤ 6 := by omega
  refine awp_loop 27 s.pairs.length (fun i S H => S 1 = .box 1 0 ∧ H 1 = some (sheetL s) ∧ S 25 = .slice .view (s.pairs.map pairA) ∧ S 26 = .int .i64 s.pairs.length ∧ S 27 = .int .i64 (i : Nat) ∧ (∀ j (hj : j < s.pairs.length), j < i → pairI s s.pairs[j] = true) ∧ ∀ j (hj : j + 1 < s.pairs.length), j + 1 < i → ltP s.pairs[j] s.pairs[j + 1] = true) (fun i S H h => h.2.2.2.2.1) ⟨by simp [s1], by simp [e1, sheetL], by simp, by simp, by simp, by simp, by simp⟩ ?_
  clear s1 e1 S H
  rintro i hi S H ⟨s1, e1, s25, s26, s27, hb, hc⟩
  by_cases hlt : i < s.pairs.length
  case neg =>
    have hil : i = s.pairs.length := by omega
    subst hil
    have hadj : adjI (pairI s) ltP s.pairs = true := adjI_true (fun j hj => hb j hj hj) (fun j hj => hc j hj hj)
    simp [s1, e1, s25, s26, s27, sheetL]
    refine ⟨_, by kernel_rfl, h139, fun _ => rfl, ?_⟩
    cases h4 : s.widths.any fun n => !inI n 1 20
    case true => simp [sheetI, endI, h4]
    simp [s1, e1, sheetL]
    refine ⟨_, by kernel_rfl, ac140 hG s.olo s.ohi 0 9, fun _ => rfl, ?_⟩
    cases h5 : spanI s.olo s.ohi 0 9
    · simp [sheetI, endI, h5]
    simp [s1, e1, sheetL]
    refine ⟨_, by kernel_rfl, ac140 hG s.glo s.ghi 0 20, fun _ => rfl, ?_⟩
    cases h6 : spanI s.glo s.ghi 0 20
    · simp [sheetI, endI, h6]
    simp [s1, e1, sheetL]
    refine ⟨_, by kernel_rfl, ac128 hG s.hyphen 1 20, fun _ => rfl, ?_⟩
    cases h7 : inI s.hyphen 1 20
    · simp [sheetI, endI, h7]
    simp [s1, e1, sheetL]
    refine ⟨_, by kernel_rfl, h141, fun _ => rfl, ?_⟩
    cases h8 : s.words.any fun w => !wordI s w
    case true => simp [sheetI, endI, h8]
    simp [s1, e1, sheetL]
    refine ⟨_, by kernel_rfl, ac128 hG s.wide 1 400, fun _ => rfl, ?_⟩
    cases h9 : inI s.wide 1 400
    · simp [sheetI, endI, h9]
    simp [s1, e1, sheetL]
    refine ⟨_, by kernel_rfl, ac128 hG s.rows 1 3, fun _ => rfl, ?_⟩
    simp [sheetI, endI, h1, h2', h3, hadj, h4, h5, h6, h7, h8, h9]
  case pos =>
    have hw : IntKind.i64.wrap ((i : Int) + 1) = i + 1 := wrapI (by omega)
    refine awp_cut (fun S H => S 28 = .bool true ∧ S 1 = .box 1 0 ∧ H 1 = some (sheetL s) ∧ S 25 = .slice .view (s.pairs.map pairA) ∧ S 26 = .int .i64 s.pairs.length ∧ S 27 = .int .i64 (i : Nat)) (by simp [s1, e1, s25, s26, s27, hlt]) ?_
    clear s1 e1 s25 s26 s27 S H
    rintro S H ⟨s28, s1, e1, s25, s26, s27⟩
    refine awp_go s28 (awp_in ?_)
    refine awp_cut (fun S H => S 4 = .box 4 0 ∧ H 4 = some (pairA s.pairs[i]).cells ∧ S 3 = .int .i64 (i : Nat) ∧ S 1 = .box 1 0 ∧ H 1 = some (sheetL s) ∧ S 25 = .slice .view (s.pairs.map pairA) ∧ S 26 = .int .i64 s.pairs.length ∧ S 27 = .int .i64 (i : Nat)) (by simp [s1, e1, s25, s26, s27, hlt, pairA]) ?_
    clear s1 e1 s25 s26 s27 s28 S H
    rintro S H ⟨s4, e4, s3, s1, e1, s25, s26, s27⟩
    simp [s1, e1, s3, s4, e4, sheetL, pairA]
    refine ⟨_, by kernel_rfl, ac136 hG s hs.widths s.pairs[i], fun _ => rfl, ?_⟩
    cases hp : pairI s s.pairs[i]
    · simp
      simp [sheetI, adjI_false hlt hp]
    cases i with
    | zero =>
      simp [s1, s3, s4, s25, s26, s27, hlt]
      exact ⟨e1, wrapI (by omega), fun j hj hj0 => by subst hj0; exact hp⟩
    | succ k =>
      have hwk : IntKind.i64.wrap (k : Int) = k := wrapI (by omega)
      have hw2 : IntKind.i64.wrap ((k : Int) + 1 + 1) = k + 1 + 1 := wrapI (by omega)
      have hkl : k < s.pairs.length := by omega
      have h0 : (0 : Int) < (k : Int) + 1 := by omega
      simp [s1, e1, s3, s4, e4, hlt, hwk, hkl, h0, sheetL, pairA]
      refine ⟨_, by kernel_rfl, ac137 hG s.pairs[k] s.pairs[k + 1], fun _ => rfl, ?_⟩
      cases hq : ltP s.pairs[k] s.pairs[k + 1]
      · simp
        simp [sheetI, adjI_false2 (p := pairI s) hlt hq]
      · simp [s1, e1, s3, s4, s25, s26, s27, hlt, hw2]
        refine ⟨rfl, fun j hj hjk => ?_, fun j hj hjk => ?_⟩
        · by_cases e : j = k + 1
          · subst e; exact hp
          · exact hb j hj (by omega)
        · by_cases e : j = k
          · subst e; exact hq
          · exact hc j hj (by omega)
end Go.Proofs.Tryz
namespace Go.AL
theorem all_at {α : Type} {p : α → Bool} {l : List α} (h : ∀ j (hj : j < l.length), p l[j] = true) : l.all p = true := by
  rw [List.all_eq_true]
  intro x hx
  obtain ⟨j, hj, rfl⟩ := List.getElem_of_mem hx
  exact h j hj
theorem all_not {α : Type} {p : α → Bool} {l : List α} {i : Nat} (hi : i < l.length) (hp : p l[i] = false) : l.all p = false := List.all_eq_false.2 ⟨_, List.getElem_mem hi, by simp [hp]⟩
theorem not_any_not {α : Type} (p : α → Bool) (l : List α) : (!(l.any fun x => !p x)) = l.all p := by
  induction l with
  | nil => rfl
  | cons a l ih => simp [List.any_cons, List.all_cons, ← ih]
theorem step_all {α : Type} {p : α → Bool} {l : List α} {i : Nat} (hi : i < l.length) (hb : ∀ j (hj : j < l.length), j < i → p l[j] = true) (hp : p l[i] = true) : ∀ j (hj : j < l.length), j < i + 1 → p l[j] = true := by
  intro j hj hji
  by_cases e : j = i
  · subst e; exact hp
  · exact hb j hj (by omega)
theorem step_adj {α : Type} {lt : α → α → Bool} {l : List α} {k : Nat} (hi : k + 1 < l.length) (hb : ∀ j (hj : j + 1 < l.length), j + 1 < k + 1 → lt (l[j]'(by omega)) l[j + 1] = true) (hp : lt (l[k]'(by omega)) l[k + 1] = true) : ∀ j (hj : j + 1 < l.length), j + 1 < k + 1 + 1 → lt (l[j]'(by omega)) l[j + 1] = true := by
  intro j hj hji
  by_cases e : j = k
  · subst e; exact hp
  · exact hb j hj (by omega)
end Go.AL
namespace Go.Proofs.Tryz
open Go Go.AL Go.RowKit Go.Proofs
attribute [local simp] awp_all qs_all ops_all dops_all ops_nil dops_nil ops_call ops_callv ops_alloc ops_box dops_call dops_alloc kO_eq kD_eq awanted apure ev Eff.S Eff.H tmpOf upd putD AL.start AV.dem AV.cells AV.storable AV.scells splice scrub abin loadA HR.okB post ares aress ares1 AV.out AV.isData ints_len ints_get fz fz1 AV.vw AV.vw1 boxy vI int undefA assignQ thenQ blockQ seqQ panQ prol prolH allocOf
variable {GI : World → Prop}
theorem wordI_eq (s : Sheet) (w : Word) : wordI s w = (w.signs.all (signI s) && (risesI w.cuts 1 (w.signs.length - 1) && inI w.signs.length 1 6)) := by
  unfold wordI
  rw [not_any_not]
  cases inI w.signs.length 1 6 <;> cases w.signs.all (signI s) <;> cases risesI w.cuts 1 (w.signs.length - 1) <;> rfl
set_option maxHeartbeats 1000000 in
theorem ac88 (hG : Stable GI) (s : Sheet) (hs : s.widths.length < 1000) (w : Word) (h1 : w.signs.length < 1000) (h2 : w.cuts.length < 1000) : AC prog GI 88 [sheetA s, wordA w] (.ret (.bool (wordI s w))) := by
  rw [wordI_eq]
  refine AC.of_body hG hmix func88 rfl ntmps88 (by simp) (ac := c88) (by kernel_rfl) ?_
  refine awp_cut (fun S H => S 2 = .box 2 0 ∧ S 3 = .box 3 0 ∧ H 2 = some (sheetL s) ∧ H 3 = some [vI w.signs, vI w.cuts, .bool w.free]) (by simp [sheetA, sheetL, wordA]) ?_
  rintro S H ⟨s2, s3, e2, e3⟩
  simp [s2, s3, e2, e3]
  refine awp_loop 5 w.signs.length (fun i S H => S 2 = .box 2 0 ∧ S 3 = .box 3 0 ∧ H 2 = some (sheetL s) ∧ H 3 = some [vI w.signs, vI w.cuts, .bool w.free] ∧ S 5 = .int .i64 (i : Nat) ∧ (∀ j (hj : j < w.signs.length), j < i → signI s w.signs[j] = true)) (fun i S H h => h.2.2.2.2.1) ⟨by simp [s2], by simp [s3], e2, e3, by simp, by simp⟩ ?_
  clear s2 s3 e2 e3 S H
  rintro i hi S H ⟨s2, s3, e2, e3, s5, hb⟩
  by_cases hlt : i < w.signs.length
  case pos =>
    have hw : IntKind.i64.wrap ((i : Int) + 1) = i + 1 := wrapI (by omega)
    simp [s2, s3, e2, e3, s5, hlt, sheetL]
    refine ⟨_, by kernel_rfl, ac134 hG s hs w.signs[i], fun _ => rfl, ?_⟩
    cases hp : signI s w.signs[i]
    · simp [all_not hlt hp]
    · simp [s2, s3, e2, e3, s5, hlt, hw]
      exact ⟨rfl, step_all hlt hb hp⟩
  have hil : i = w.signs.length := by omega
  subst hil
  have hall : w.signs.all (signI s) = true := all_at fun j hj => hb j hj hj
  simp [s2, s3, e2, e3, s5, hall]
  refine awp_loop 6 w.cuts.length (fun i S H => S 3 = .box 3 0 ∧ H 3 = some [vI w.signs, vI w.cuts, .bool w.free] ∧ S 6 = .int .i64 (i : Nat) ∧ (∀ j (hj : j < w.cuts.length), j < i → inI w.cuts[j] 1 (w.signs.length - 1) = true) ∧ ∀ j (hj : j + 1 < w.cuts.length), j + 1 < i → decide (w.cuts[j] < w.cuts[j + 1]) = true) (fun i S H h => h.2.2.1) ⟨by simp [s3], e3, by simp, by simp, by simp⟩ ?_
  clear s2 s3 e2 e3 s5 hb S H
  rintro i hi S H ⟨s3, e3, s6, hb, hc⟩
  by_cases hlt : i < w.cuts.length
  case neg =>
    have hil : i = w.cuts.length := by omega
    subst hil
    have hr : risesI w.cuts 1 (w.signs.length - 1) = true := adjI_true (fun j hj => hb j hj hj) (fun j hj => hc j hj hj)
    simp [s3, e3, s6, hr]
    refine ⟨_, by kernel_rfl, ac72 hG w.signs.length 1 6, fun _ => rfl, ?_⟩
    simp
  case pos =>
    have hw : IntKind.i64.wrap ((i : Int) + 1) = i + 1 := wrapI (by omega)
    have hwl : IntKind.i64.wrap ((w.signs.length : Int) - 1) = w.signs.length - 1 := wrapI (by omega)
    simp [s3, e3, s6, hlt, hwl]
    refine ⟨_, by kernel_rfl, ac72 hG w.cuts[i] 1 (w.signs.length - 1), fun _ => rfl, ?_⟩
    cases hp : inI w.cuts[i] 1 (w.signs.length - 1)
    · have hr : risesI w.cuts 1 (w.signs.length - 1) = false := adjI_false hlt hp
      simp [hr]
    cases i with
    | zero =>
      simp [s3, e3, s6, hlt]
      exact ⟨wrapI (by omega), fun j hj hj0 => by subst hj0; exact hp⟩
    | succ k =>
      have hwk : IntKind.i64.wrap (k : Int) = k := wrapI (by omega)
      have hw2 : IntKind.i64.wrap ((k : Int) + 1 + 1) = k + 1 + 1 := wrapI (by omega)
      have hkl : k < w.cuts.length := by omega
      have h0 : (0 : Int) < (k : Int) + 1 := by omega
      have h00 : (0 : Int) ≤ (k : Int) + 1 := by omega
      by_cases hle : w.cuts[k + 1] ≤ w.cuts[k]
      · have hr : risesI w.cuts 1 (w.signs.length - 1) = false := adjI_false2 (lt := fun a b => decide (a < b)) hlt (by simpa using hle)
        simp [s3, e3, s6, hlt, hwk, hkl, hle, h0, h00, hr]
      · simp [s3, e3, s6, hlt, hwk, hkl, hle, h0, h00, hw2]
        exact ⟨step_all (p := fun n => inI n 1 (w.signs.length - 1)) hlt hb hp, fun j hj hjk => by simpa using step_adj (lt := fun a b => decide (a < b)) hlt hc (by simpa using hle) j hj (by omega)⟩
def pairsI (s : Sheet) : Bool := adjI (pairI s) ltP s.pairs && decide (s.pairs.length ≤ 6)
theorem ltP_not (a b : Pair) : ltP a b = !(decide (b.l < a.l) || (a.l == b.l && decide (b.r ≤ a.r))) := by
  unfold ltP
  by_cases h1 : a.l < b.l
  · have h2 : ¬ b.l < a.l := by omega
    have h3 : (a.l == b.l) = false := by simp; omega
    simp [h1, h2, h3]
  · by_cases h2 : b.l < a.l
    · have h3 : (a.l == b.l) = false := by simp; omega
      simp [h1, h2, h3]
    · have h3 : (a.l == b.l) = true := by simp; omega
      by_cases h4 : b.r ≤ a.r
      · have h5 : ¬ a.r < b.r := by omega
        simp [h1, h2, h3, h4, h5]
      · have h5 : a.r < b.r := by omega
        simp [h1, h2, h3, h4, h5]
set_option maxHeartbeats 1000000 in
theorem ac89 (hG : Stable GI) (s : Sheet) (hs : s.widths.length < 1000) (h1 : s.pairs.length < 1000) : AC prog GI 89 [sheetA s] (.ret (.bool (pairsI s))) := by
  refine AC.of_body hG hmix func89 rfl ntmps89 (by simp) (ac := c89) (by kernel_rfl) ?_
  simp [c89, sheetA, sheetL]
  refine awp_loop 3 s.pairs.length (fun i S H => S 1 = .box 1 0 ∧ H 1 = some (sheetL s) ∧ S 3 = .int .i64 (i : Nat) ∧ (∀ j (hj : j < s.pairs.length), j < i → pairI s s.pairs[j] = true) ∧ ∀ j (hj : j + 1 < s.pairs.length), j + 1 < i → ltP s.pairs[j] s.pairs[j + 1] = true) (fun i S H h => h.2.2.1) ⟨by simp, by simp [sheetL], by simp, by simp, by simp⟩ ?_
  rintro i hi S H ⟨s1, e1, s3, hb, hc⟩
  by_cases hlt : i < s.pairs.length
  case neg =>
    have hil : i = s.pairs.length := by omega
    subst hil
    have hr : adjI (pairI s) ltP s.pairs = true := adjI_true (fun j hj => hb j hj hj) (fun j hj => hc j hj hj)
    simp [s1, e1, s3, sheetL, pairsI, hr]
    by_cases h6 : s.pairs.length ≤ 6
    · have h6' : (s.pairs.length : Int) ≤ 6 := by omega
      simp [h6, h6']
    · have h6' : ¬ (s.pairs.length : Int) ≤ 6 := by omega
      simp [h6, h6']
  case pos =>
    have hw : IntKind.i64.wrap ((i : Int) + 1) = i + 1 := wrapI (by omega)
    refine awp_cut2 (fun S H => S 9 = .bool true ∧ S 1 = .box 1 0 ∧ H 1 = some (sheetL s) ∧ S 3 = .int .i64 (i : Nat)) (by simp [s1, e1, s3, hlt, sheetL]) ?_
    clear s1 e1 s3 S H
    rintro S H ⟨s9, s1, e1, s3⟩
    refine awp_go s9 (awp_in ?_)
    refine awp_cut (fun S H => S 4 = .box 4 0 ∧ H 4 = some (pairA s.pairs[i]).cells ∧ S 1 = .box 1 0 ∧ H 1 = some (sheetL s) ∧ S 3 = .int .i64 (i : Nat)) (by simp [s1, e1, s3, hlt, sheetL, pairA]) ?_
    clear s1 e1 s3 s9 S H
    rintro S H ⟨s4, e4, s1, e1, s3⟩
    refine awp_cut2 (fun S H => S 34 = .bool (!pairI s s.pairs[i]) ∧ S 4 = .box 4 0 ∧ H 4 = some (pairA s.pairs[i]).cells ∧ S 1 = .box 1 0 ∧ H 1 = some (sheetL s) ∧ S 3 = .int .i64 (i : Nat)) ?_ ?_
    · simp [s1, e1, s3, s4, e4, sheetL, pairA]
      refine ⟨_, by kernel_rfl, ac134 hG s hs s.pairs[i].l, fun _ => rfl, ?_⟩
      cases h1 : signI s s.pairs[i].l
      · simp [s1, e1, s3, s4, e4, sheetL, pairA, pairI, h1]
      simp [s1, e1, s3, s4, e4, sheetL, pairA]
      refine ⟨_, by kernel_rfl, ac134 hG s hs s.pairs[i].r, fun _ => rfl, ?_⟩
      cases h2 : signI s s.pairs[i].r
      · simp [s1, e1, s3, s4, e4, sheetL, pairA, pairI, h1, h2]
      simp [s1, e1, s3, s4, e4, sheetL, pairA]
      refine ⟨_, by kernel_rfl, ac90 hG s.pairs[i].lo s.pairs[i].hi 9, fun _ => rfl, ?_⟩
      simp [s1, e1, s3, s4, e4, sheetL, pairA, pairI, h1, h2]
    clear s1 e1 s3 s4 e4 S H
    rintro S H ⟨s34, s4, e4, s1, e1, s3⟩
    cases hp : pairI s s.pairs[i]
    · rw [hp] at s34
      have hr : pairsI s = false := by unfold pairsI; rw [adjI_false hlt hp]; rfl
      simp [s34, hr]
    rw [hp] at s34
    refine awp_go2 s34 ?_
    cases i with
    | zero =>
      simp [s1, e1, s3, s4, e4, sheetL, hlt]
      exact ⟨wrapI (by omega), fun j hj hj0 => by subst hj0; exact hp⟩
    | succ k =>
      have hwk : IntKind.i64.wrap (k : Int) = k := wrapI (by omega)
      have hw2 : IntKind.i64.wrap ((k : Int) + 1 + 1) = k + 1 + 1 := wrapI (by omega)
      have hkl : k < s.pairs.length := by omega
      have h0 : (0 : Int) < (k : Int) + 1 := by omega
      cases hq : ltP s.pairs[k] s.pairs[k + 1]
      · have hr : pairsI s = false := by unfold pairsI; rw [adjI_false2 hlt hq]; rfl
        rw [ltP_not] at hq
        by_cases h1 : s.pairs[k + 1].l < s.pairs[k].l
        · simp [s1, e1, s3, s4, e4, sheetL, pairA, hwk, hkl, h0, h1, hr]
        · cases h2 : s.pairs[k].l == s.pairs[k + 1].l
          · simp [h1, h2] at hq
          · by_cases h3 : s.pairs[k + 1].r ≤ s.pairs[k].r
            · simp [s1, e1, s3, s4, e4, sheetL, pairA, hwk, hkl, h0, h1, h2, h3, hr]
            · simp [h1, h2, h3] at hq
      · have hq' := hq
        rw [ltP_not] at hq
        have h1 : ¬ s.pairs[k + 1].l < s.pairs[k].l := fun h => by simp [h] at hq
        cases h2 : s.pairs[k].l == s.pairs[k + 1].l
        · simp [s1, e1, s3, s4, e4, sheetL, pairA, hwk, hkl, h0, h1, h2, hw2, hlt]
          exact ⟨step_all hlt hb hp, fun j hj hjk => step_adj hlt hc hq' j hj (by omega)⟩
        · have h3 : ¬ s.pairs[k + 1].r ≤ s.pairs[k].r := fun h => by simp [h1, h2, h] at hq
          simp [s1, e1, s3, s4, e4, sheetL, pairA, hwk, hkl, h0, h1, h2, h3, hw2, hlt]
          exact ⟨step_all hlt hb hp, fun j hj hjk => step_adj hlt hc hq' j hj (by omega)⟩
theorem sheetI_eq (s : Sheet) : sheetI s = (s.widths.all (inI · 1 20) && (s.words.all (wordI s) && (inI s.widths.length 1 6 && pairsI s && spanI s.olo s.ohi 0 9 && spanI s.glo s.ghi 0 20 && inI s.hyphen 1 20 && inI s.words.length 1 4 && inI s.wide 1 400 && inI s.rows 1 3))) := by
  unfold sheetI endI pairsI
  rw [not_any_not, not_any_not]
  cases inI s.widths.length 1 6 <;> cases decide (s.pairs.length ≤ 6) <;> cases inI s.words.length 1 4 <;> cases adjI (pairI s) ltP s.pairs <;> cases s.widths.all (inI · 1 20) <;> cases s.words.all (wordI s) <;> cases spanI s.olo s.ohi 0 9 <;> simp
set_option maxHeartbeats 1000000 in
theorem ac33 (hG : Stable GI) (s : Sheet) (hs : Slim s) : AC prog GI 33 [sheetA s] (.ret (.bool (sheetI s))) := by
  rw [sheetI_eq]
  have q1 := hs.widths
  have q2 := hs.pairs
  have q3 := hs.words
  refine AC.of_body hG hmix func33 rfl ntmps33 (by simp) (ac := c33) (by kernel_rfl) ?_
  simp [c33, sheetA, sheetL]
  refine awp_loop 3 s.widths.length (fun i S H => S 1 = .box 1 0 ∧ H 1 = some (sheetL s) ∧ S 3 = .int .i64 (i : Nat) ∧ (∀ j (hj : j < s.widths.length), j < i → inI s.widths[j] 1 20 = true)) (fun i S H h => h.2.2.1) ⟨by simp, by simp [sheetL], by simp, by simp⟩ ?_
  rintro i hi S H ⟨s1, e1, s3, hb⟩
  by_cases hlt : i < s.widths.length
  case pos =>
    have hw : IntKind.i64.wrap ((i : Int) + 1) = i + 1 := wrapI (by omega)
    simp [s1, e1, s3, hlt, sheetL]
    refine ⟨_, by kernel_rfl, ac72 hG s.widths[i] 1 20, fun _ => rfl, ?_⟩
    cases hp : inI s.widths[i] 1 20
    · simp [all_not (p := fun n => inI n 1 20) hlt hp]
    · simp [s1, e1, s3, hlt, hw]
      exact ⟨rfl, step_all (p := fun n => inI n 1 20) hlt hb hp⟩
  have hil : i = s.widths.length := by omega
  subst hil
  have hall : s.widths.all (inI · 1 20) = true := all_at fun j hj => hb j hj hj
  simp [s1, e1, s3, sheetL, hall]
  refine awp_loop 4 s.words.length (fun i S H => S 1 = .box 1 0 ∧ H 1 = some (sheetL s) ∧ S 4 = .int .i64 (i : Nat) ∧ (∀ j (hj : j < s.words.length), j < i → wordI s s.words[j] = true)) (fun i S H h => h.2.2.1) ⟨by simp [s1], by simp [e1, sheetL], by simp, by simp⟩ ?_
  clear s1 e1 s3 hb S H
  rintro i hi S H ⟨s1, e1, s4, hb⟩
  by_cases hlt : i < s.words.length
  case pos =>
    have hw : IntKind.i64.wrap ((i : Int) + 1) = i + 1 := wrapI (by omega)
    simp [s1, e1, s4, hlt, sheetL, wordA]
    refine ⟨_, by kernel_rfl, ac88 hG s q1 s.words[i] (hs.signs _ (List.getElem_mem hlt)) (hs.cuts _ (List.getElem_mem hlt)), fun _ => rfl, ?_⟩
    cases hp : wordI s s.words[i]
    · simp [all_not hlt hp]
    · simp [s1, e1, s4, hlt, hw]
      exact ⟨rfl, step_all hlt hb hp⟩
  have hil : i = s.words.length := by omega
  subst hil
  have hall2 : s.words.all (wordI s) = true := all_at fun j hj => hb j hj hj
  simp [s1, e1, s4, sheetL, hall2]
  refine ⟨_, by kernel_rfl, ac72 hG s.widths.length 1 6, fun _ => rfl, ?_⟩
  cases h1 : inI s.widths.length 1 6
  · simp
  simp [s1, e1, s4, sheetL]
  refine ⟨_, by kernel_rfl, ac89 hG s q1 q2, fun _ => rfl, ?_⟩
  cases h2 : pairsI s
  · simp
  simp [s1, e1, s4, sheetL]
  refine ⟨_, by kernel_rfl, ac90 hG s.olo s.ohi 9, fun _ => rfl, ?_⟩
  cases h3 : spanI s.olo s.ohi 0 9
  · simp
  simp [s1, e1, s4, sheetL]
  refine ⟨_, by kernel_rfl, ac90 hG s.glo s.ghi 20, fun _ => rfl, ?_⟩
  cases h4 : spanI s.glo s.ghi 0 20
  · simp
  simp [s1, e1, s4, sheetL]
  refine ⟨_, by kernel_rfl, ac72 hG s.hyphen 1 20, fun _ => rfl, ?_⟩
  cases h5 : inI s.hyphen 1 20
  · simp
  simp [s1, e1, s4, sheetL]
  refine ⟨_, by kernel_rfl, ac72 hG s.words.length 1 4, fun _ => rfl, ?_⟩
  cases h6 : inI s.words.length 1 4
  · simp
  simp [s1, e1, s4, sheetL]
  refine ⟨_, by kernel_rfl, ac60 hG s.wide, fun _ => rfl, ?_⟩
  cases h7 : inI s.wide 1 400
  · simp
  simp [s1, e1, s4, sheetL]
  refine ⟨_, by kernel_rfl, ac72 hG s.rows 1 3, fun _ => rfl, ?_⟩
  simp
end Go.Proofs.Tryz
namespace Go.AL
section
variable {P : Program} {GI : World → Prop}
theorem awp_loopF {c : ACode} {Q : AExit → Slots → Boxes → Prop} {S : Slots} {H : Boxes} (t a n : Nat) (I : Nat → Slots → Boxes → Prop) (ha : a ≤ n) (hix : ∀ i S H, I i S H → S t = .int .i64 (i : Nat)) (h0 : I a S H)
    (hs : ∀ i, a ≤ i → i ≤ n → ∀ S H, I i S H → awp P GI c (thenQ (fun S' H' => i < n ∧ I (i + 1) S' H') Q) S H) : awp P GI (.loop c) Q S H := by
  refine ⟨fun S H => ∃ i, a ≤ i ∧ i ≤ n ∧ I i S H, fun S _ => match S t with | .int _ k => n - k.toNat | _ => 0, ⟨a, Nat.le_refl _, ha, h0⟩, ?_⟩
  rintro S H ⟨i, h1, hi, hI⟩
  refine awp_mono c (thenQ_mono (fun S' H' h => ?_) (fun _ _ _ h => h)) (hs i h1 hi S H hI)
  refine ⟨⟨i + 1, by omega, h.1, h.2⟩, ?_⟩
  have e1 := hix _ _ _ hI
  have e2 := hix _ _ _ h.2
  simp only [e1, e2, Int.toNat_natCast]
  have := h.1
  omega
theorem awp_loopM {c : ACode} {Q : AExit → Slots → Boxes → Prop} {S : Slots} {H : Boxes} (t n : Nat) (I : Nat → Slots → Boxes → Prop) (hix : ∀ i S H, I i S H → S t = .int .i64 ((i : Nat) - 1)) (h0 : I 0 S H)
    (hs : ∀ i, i ≤ n → ∀ S H, I i S H → awp P GI c (thenQ (fun S' H' => i < n ∧ I (i + 1) S' H') Q) S H) : awp P GI (.loop c) Q S H := by
  refine ⟨fun S H => ∃ i, i ≤ n ∧ I i S H, fun S _ => match S t with | .int _ k => n - (k + 1).toNat | _ => 0, ⟨0, Nat.zero_le _, h0⟩, ?_⟩
  rintro S H ⟨i, hi, hI⟩
  refine awp_mono c (thenQ_mono (fun S' H' h => ?_) (fun _ _ _ h => h)) (hs i hi S H hI)
  refine ⟨⟨i + 1, h.1, h.2⟩, ?_⟩
  have e1 := hix _ _ _ hI
  have e2 := hix _ _ _ h.2
  simp only [e1, e2]
  have := h.1
  omega
end
def First (n : Nat) (p : Nat → Nat → Bool) (q : Nat × Nat) : Prop := q.1 < q.2 ∧ q.2 < n ∧ p q.1 q.2 = true ∧ ∀ i k, i < k → k < n → (i < q.1 ∨ i = q.1 ∧ k < q.2) → p i k = false
open Classical in
noncomputable def firstP (n : Nat) (p : Nat → Nat → Bool) : Option (Nat × Nat) := if h : ∃ q, First n p q then some (Classical.choose h) else none
theorem First.eq {n : Nat} {p : Nat → Nat → Bool} {q r : Nat × Nat} (h : First n p q) (h' : First n p r) : q = r := by
  obtain ⟨a, b⟩ := q
  obtain ⟨c, d⟩ := r
  obtain ⟨h1, h2, h3, h4⟩ := h
  obtain ⟨g1, g2, g3, g4⟩ := h'
  simp only at h1 h2 h3 h4 g1 g2 g3 g4
  have e1 : ¬ (a < c ∨ a = c ∧ b < d) := fun hh => by rw [g4 a b h1 h2 hh] at h3; cases h3
  have e2 : ¬ (c < a ∨ c = a ∧ d < b) := fun hh => by rw [h4 c d g1 g2 hh] at g3; cases g3
  have : a = c := by omega
  subst this
  have : b = d := by omega
  subst this
  rfl
theorem firstP_some {n : Nat} {p : Nat → Nat → Bool} {q : Nat × Nat} (h : First n p q) : firstP n p = some q := by
  unfold firstP
  rw [dif_pos ⟨q, h⟩]
  exact congrArg some ((Classical.choose_spec (⟨q, h⟩ : ∃ q, First n p q)).eq h)
theorem firstP_none {n : Nat} {p : Nat → Nat → Bool} (h : ∀ i k, i < k → k < n → p i k = false) : firstP n p = none := by
  unfold firstP
  rw [dif_neg]
  rintro ⟨q, h1, h2, h3, _⟩
  rw [h _ _ h1 h2] at h3; cases h3
theorem firstP_congr {n : Nat} {p p' : Nat → Nat → Bool} (h : ∀ i k, i < k → k < n → p i k = p' i k) : firstP n p = firstP n p' := by
  have e : ∀ q, First n p q ↔ First n p' q := fun q => by
    unfold First
    constructor <;> rintro ⟨h1, h2, h3, h4⟩ <;> refine ⟨h1, h2, ?_, fun i k hi hk hh => ?_⟩
    · rw [← h _ _ h1 h2]; exact h3
    · rw [← h _ _ hi hk]; exact h4 i k hi hk hh
    · rw [h _ _ h1 h2]; exact h3
    · rw [h _ _ hi hk]; exact h4 i k hi hk hh
  by_cases hq : ∃ q, First n p q
  · obtain ⟨q, hq⟩ := hq
    rw [firstP_some hq, firstP_some ((e q).1 hq)]
  · have hq' : ¬ ∃ q, First n p' q := fun ⟨q, h'⟩ => hq ⟨q, (e q).2 h'⟩
    unfold firstP
    rw [dif_neg hq, dif_neg hq']
end Go.AL
namespace Go.Proofs.Tryz
open Go Go.AL Go.RowKit Go.Proofs
attribute [local simp] awp_all qs_all ops_all dops_all ops_nil dops_nil ops_call ops_callv ops_alloc ops_box dops_call dops_alloc kO_eq kD_eq awanted apure ev Eff.S Eff.H tmpOf upd putD AL.start AV.dem AV.cells AV.storable AV.scells splice scrub abin loadA HR.okB post ares aress ares1 AV.out AV.isData ints_len ints_get fz fz1 AV.vw AV.vw1 boxy vI int undefA assignQ thenQ blockQ seqQ panQ prol prolH allocOf
variable {GI : World → Prop}
def wordS (w : Word) : Bool := decide (w.signs.length ≤ 8) && decide (w.cuts.length ≤ 8)
def shortI (s : Sheet) : Bool := (s.words.take 6).all wordS && (decide (s.widths.length ≤ 8) && decide (s.pairs.length ≤ 8) && decide (s.words.length ≤ 6))
theorem shortI_slim {s : Sheet} (h : shortI s = true) : Slim s := by
  unfold shortI at h
  simp only [Bool.and_eq_true, decide_eq_true_eq] at h
  obtain ⟨h1, ⟨h2, h3⟩, h4⟩ := h
  rw [List.take_of_length_le h4, List.all_eq_true] at h1
  have h5 : ∀ w ∈ s.words, w.signs.length ≤ 8 ∧ w.cuts.length ≤ 8 := fun w hw => by simpa [wordS] using h1 w hw
  exact ⟨by omega, by omega, by omega, fun w hw => by have := (h5 w hw).1; omega, fun w hw => by have := (h5 w hw).2; omega⟩
set_option maxHeartbeats 1000000 in
theorem ac29 (hG : Stable GI) (s : Sheet) : AC prog GI 29 [sheetA s] (.ret (.bool (shortI s))) := by
  refine AC.of_body hG hmix func29 rfl ntmps29 (by simp) (ac := c29) (by kernel_rfl) ?_
  simp [c29, sheetA, sheetL]
  refine awp_loop 3 (min s.words.length 6) (fun i S H => S 1 = .box 1 0 ∧ H 1 = some (sheetL s) ∧ S 3 = .int .i64 (i : Nat) ∧ (∀ j (hj : j < (s.words.take 6).length), j < i → wordS (s.words.take 6)[j] = true)) (fun i S H h => h.2.2.1) ⟨by simp, by simp [sheetL], by simp, by simp⟩ ?_
  rintro i hi S H ⟨s1, e1, s3, hb⟩
  by_cases hlt : i < s.words.length
  case neg =>
    have hil : i = s.words.length := by omega
    subst hil
    have hl6 : s.words.length ≤ 6 := by omega
    have hall : (s.words.take 6).all wordS = true := all_at fun j hj => hb j hj (by rw [List.length_take] at hj; omega)
    have hl6' : (s.words.length : Int) ≤ 6 := by omega
    by_cases h1 : s.widths.length ≤ 8 <;> by_cases h2 : s.pairs.length ≤ 8 <;> simp [s1, e1, s3, sheetL, shortI, hall, h1, h2, hl6, hl6', show ((s.widths.length : Int) ≤ 8) ↔ s.widths.length ≤ 8 by omega, show ((s.pairs.length : Int) ≤ 8) ↔ s.pairs.length ≤ 8 by omega]
  by_cases h6 : i < 6
  case neg =>
    have hi6 : ¬ (i : Int) < 6 := by omega
    have hall : (s.words.take 6).all wordS = true := all_at fun j hj => hb j hj (by rw [List.length_take] at hj; omega)
    by_cases h1 : s.widths.length ≤ 8 <;> by_cases h2 : s.pairs.length ≤ 8 <;> simp [s1, e1, s3, hlt, hi6, sheetL, shortI, hall, h1, h2, show ((s.widths.length : Int) ≤ 8) ↔ s.widths.length ≤ 8 by omega, show ((s.pairs.length : Int) ≤ 8) ↔ s.pairs.length ≤ 8 by omega, show ((s.words.length : Int) ≤ 6) ↔ s.words.length ≤ 6 by omega]
  have hw : IntKind.i64.wrap ((i : Int) + 1) = i + 1 := wrapI (by omega)
  have hi6 : (i : Int) < 6 := by omega
  have hit : i < (s.words.take 6).length := by rw [List.length_take]; omega
  have hget : (s.words.take 6)[i] = s.words[i] := List.getElem_take
  by_cases h1 : s.words[i].signs.length ≤ 8
  case neg =>
    have hf : wordS (s.words.take 6)[i] = false := by rw [hget]; simp [wordS, h1]
    have h1' : (8 : Int) < s.words[i].signs.length := by omega
    simp [s1, e1, s3, hlt, hi6, sheetL, wordA, vI, h1']
    simp [shortI, all_not hit hf]
  have h1' : ¬ (8 : Int) < s.words[i].signs.length := by omega
  by_cases h2 : s.words[i].cuts.length ≤ 8
  case neg =>
    have h2' : (8 : Int) < s.words[i].cuts.length := by omega
    have hf : wordS (s.words.take 6)[i] = false := by rw [hget]; simp [wordS, h2]
    simp [s1, e1, s3, hlt, hi6, sheetL, wordA, vI, h1', h2']
    simp [shortI, all_not hit hf]
  have h2' : ¬ (8 : Int) < s.words[i].cuts.length := by omega
  have ht : wordS (s.words.take 6)[i] = true := by rw [hget]; simp [wordS, h1, h2]
  simp [s1, e1, s3, hlt, hi6, sheetL, wordA, vI, h1', h2', hw]
  exact ⟨by omega, fun j hj hji => by
    have := step_all hit hb ht j (by rw [List.length_take]; omega) hji
    rwa [List.getElem_take] at this⟩
theorem ac114 (hG : Stable GI) (a b : List Int) (ha : a.length < 1000000) : AC prog GI 114 [vI a, vI b] (.ret (.bool (a == b))) := by
  refine AC.of_body hG hmix func114 rfl ntmps114 (by simp) (ac := c114) (by kernel_rfl) ?_
  by_cases hl : a.length = b.length
  case neg =>
    have hne : (a == b) = false := by
      rw [beq_eq_false_iff_ne]
      exact fun h => hl (congrArg List.length h)
    have hln : ((a.length : Int) != (b.length : Int)) = true := by simp; omega
    simp [c114, hln, hne]
  simp [c114, hl]
  refine awp_loop 13 b.length (fun i S H => S 0 = vI a ∧ S 1 = vI b ∧ S 12 = .int .i64 b.length ∧ S 13 = .int .i64 (i : Nat) ∧ ∀ j (hj : j < a.length), j < i → a[j] = b[j]'(by omega)) (fun i S H h => h.2.2.2.1) ⟨by simp, by simp, by simp [hl], by simp, by simp⟩ ?_
  rintro i hi S H ⟨s0, s1, s12, s13, hb⟩
  by_cases hlt : i < b.length
  · have hlt' : i < a.length := by omega
    have hw : IntKind.i64.wrap ((i : Int) + 1) = i + 1 := wrapI (by omega)
    by_cases he : a[i] = b[i]
    · have hbe : (a[i] != b[i]) = false := by simp [he]
      simp [s0, s1, s12, s13, hlt, hlt', hbe, hw]
      intro j hj hji
      by_cases e : j = i
      · subst e; exact he
      · exact hb j hj (by omega)
    · have hne : (a == b) = false := by
        rw [beq_eq_false_iff_ne]
        rintro rfl
        exact he rfl
      have hbe : (a[i] != b[i]) = true := by simp [he]
      simp [s0, s1, s12, s13, hlt, hlt', hbe, hne]
  · have hil : i = b.length := by omega
    subst hil
    have hab : a = b := List.ext_getElem hl fun j h1 h2 => hb j h1 (by omega)
    simp [s0, s1, s12, s13, hab]
theorem ac52 (hG : Stable GI) (a b : List Int) (ha : a.length < 1000000) : AC prog GI 52 [vI a, vI b] (.ret (.bool (a == b))) := by
  refine AC.of_body hG hmix func52 rfl ntmps52 (by simp) (ac := c52) (by kernel_rfl) ?_
  by_cases hl : a.length = b.length
  case neg =>
    have hne : (a == b) = false := by
      rw [beq_eq_false_iff_ne]
      exact fun h => hl (congrArg List.length h)
    have hln : ((a.length : Int) != (b.length : Int)) = true := by simp; omega
    simp [c52, hln, hne]
  simp [c52, hl]
  refine awp_loop 5 b.length (fun i S H => S 0 = vI a ∧ S 1 = vI b ∧ S 5 = .int .i64 (i : Nat) ∧ ∀ j (hj : j < a.length), j < i → a[j] = b[j]'(by omega)) (fun i S H h => h.2.2.1) ⟨by simp, by simp, by simp, by simp⟩ ?_
  rintro i hi S H ⟨s0, s1, s5, hb⟩
  by_cases hlt : i < b.length
  · have hlt' : i < a.length := by omega
    have hw : IntKind.i64.wrap ((i : Int) + 1) = i + 1 := wrapI (by omega)
    by_cases he : a[i] = b[i]
    · have hbe : (a[i] != b[i]) = false := by simp [he]
      simp [s0, s1, s5, hlt, hlt', hbe, hw]
      intro j hj hji
      by_cases e : j = i
      · subst e; exact he
      · exact hb j hj (by omega)
    · have hne : (a == b) = false := by
        rw [beq_eq_false_iff_ne]
        rintro rfl
        exact he rfl
      have hbe : (a[i] != b[i]) = true := by simp [he]
      simp [s0, s1, s5, hlt, hlt', hbe, hne]
  · have hil : i = b.length := by omega
    subst hil
    have hab : a = b := List.ext_getElem hl fun j h1 h2 => hb j h1 (by omega)
    simp [s0, s1, s5, hab]
theorem ac113 (hG : Stable GI) (a b : List Int) (ha : a.length < 1000000) : AC prog GI 113 [vI b, .ref [vI a]] (.ret (.bool (a == b))) := by
  refine AC.of_body hG hmix func113 rfl ntmps113 (by simp) (ac := c113) (by kernel_rfl) ?_
  simp [c113]
  refine ⟨_, by kernel_rfl, ac114 hG a b ha, fun _ => rfl, ?_⟩
  simp
end Go.Proofs.Tryz
namespace Go.AL
theorem AC.as_view {P : Program} {GI : World → Prop} {f : Nat} {args : List AV} {o : Ow} {es : List AV} (h : AC P GI f args (.ret (.slice o es))) : AC P GI f args (.ret (.slice .view es)) := by
  intro w old cargs h1 h2 h3
  refine (h w old cargs h1 h2 h3).mono ?_
  rintro e w' ⟨hb, hi, h0, c, rfl, hv, _⟩
  refine ⟨hb, hi, h0, c, rfl, ?_, trivial⟩
  cases hv with
  | data _ _ h => exact .data _ _ (Go.Proofs.Tryz.RD.anyFlag h)
theorem fallen_nil (i : Int) (l : List Int) : fallen (l.take 0) i = [] := by unfold fallen; split <;> simp
theorem fallen_same {l : List Int} {j : Nat} (hj : j < l.length) : fallen (l.take (j + 1)) (j : Nat) = fallen (l.take j) (j : Nat) := by
  unfold fallen
  have h1 : (l.take (j + 1)).length = j + 1 := by rw [List.length_take]; omega
  have h2 : (l.take j).length = j := by rw [List.length_take]; omega
  rw [h1, h2, if_pos (by omega), if_neg (by omega), List.eraseIdx_eq_take_drop_succ]
  simp [List.take_take, Nat.min_eq_left (Nat.le_succ j)]
theorem fallen_other {l : List Int} {j : Nat} {i : Int} (hj : j < l.length) (hne : (j : Int) ≠ i) : fallen (l.take (j + 1)) i = fallen (l.take j) i ++ [l[j]] := by
  unfold fallen
  have h1 : (l.take (j + 1)).length = j + 1 := by rw [List.length_take]; omega
  have h2 : (l.take j).length = j := by rw [List.length_take]; omega
  rw [h1, h2, List.take_succ_eq_append_getElem hj]
  by_cases hi : 0 ≤ i ∧ i < (j : Nat)
  · rw [if_pos (by omega), if_pos hi, List.eraseIdx_append_of_lt_length (by rw [h2]; omega)]
  · rw [if_neg (by omega), if_neg hi]
theorem fallen_le (l : List Int) (i : Int) : (fallen l i).length ≤ l.length := by
  unfold fallen
  split
  · exact List.length_eraseIdx_le _ _
  · exact Nat.le_refl _
theorem ints_ok (l : List Int) : elemsOK 1 (ints l) = true := by simp [elemsOK, ints, AV.storable, AV.cells]
def grown (l : List Int) : AV := .slice (if l.isEmpty then .nil else .own 3) (ints l)
def mistR (a b : List Int) : Bool := (List.range (a.length + 1)).any fun i => (List.range (b.length + 1)).any fun k => !(fallen a ((i : Int) - 1)).isEmpty && fallen a ((i : Int) - 1) == fallen b ((k : Int) - 1)
theorem mistR_true {a b : List Int} {i k : Nat} (hi : i ≤ a.length) (hk : k ≤ b.length) (h0 : fallen a ((i : Int) - 1) ≠ []) (h : fallen a ((i : Int) - 1) = fallen b ((k : Int) - 1)) : mistR a b = true := by
  unfold mistR
  rw [List.any_eq_true]
  refine ⟨i, List.mem_range.2 (by omega), ?_⟩
  rw [List.any_eq_true]
  refine ⟨k, List.mem_range.2 (by omega), ?_⟩
  rw [← h]
  simp [h0]
theorem mistR_false {a b : List Int} (h : ∀ i k, i ≤ a.length → k ≤ b.length → (!(fallen a ((i : Int) - 1)).isEmpty && fallen a ((i : Int) - 1) == fallen b ((k : Int) - 1)) = false) : mistR a b = false := by
  unfold mistR
  rw [List.any_eq_false]
  intro i hi
  rw [List.mem_range] at hi
  rw [Bool.not_eq_true, List.any_eq_false]
  intro k hk
  rw [List.mem_range] at hk
  rw [h i k (by omega) (by omega)]
  simp
theorem mistR_eq {a b : List Int} (ha : a ≠ []) (hb : b ≠ []) : mist a b = mistR a b := by
  rw [Bool.eq_iff_iff, mist_iff ha hb]
  constructor
  · rintro ⟨i, k, h1, h2, h3, h4, h5, h6⟩
    have e1 : ((i + 1).toNat : Int) - 1 = i := by omega
    have e2 : ((k + 1).toNat : Int) - 1 = k := by omega
    refine mistR_true (i := (i + 1).toNat) (k := (k + 1).toNat) (by omega) (by omega) ?_ ?_
    · rw [e1]; exact h5
    · rw [e1, e2]; exact h6
  · intro h
    unfold mistR at h
    obtain ⟨i, hi, h⟩ := List.any_eq_true.1 h
    obtain ⟨k, hk, h⟩ := List.any_eq_true.1 h
    rw [List.mem_range] at hi hk
    simp only [Bool.and_eq_true, Bool.not_eq_true', beq_iff_eq] at h
    exact ⟨(i : Int) - 1, (k : Int) - 1, by omega, by omega, by omega, by omega, fun e => by rw [e] at h; simp at h, h.2⟩
end Go.AL
namespace Go.Proofs.Tryz
open Go Go.AL Go.RowKit Go.Proofs
attribute [local simp] awp_all qs_all ops_all dops_all ops_nil dops_nil ops_call ops_callv ops_alloc ops_box dops_call dops_alloc kO_eq kD_eq awanted apure ev Eff.S Eff.H tmpOf upd putD AL.start AV.dem AV.cells AV.storable AV.scells splice scrub abin loadA HR.okB post ares aress ares1 AV.out AV.isData ints_len ints_get fz fz1 AV.vw AV.vw1 boxy vI int undefA assignQ thenQ blockQ seqQ panQ prol prolH allocOf
variable {GI : World → Prop}
theorem ac63 (hG : Stable GI) (w : Word) (h1 : w.signs.length < 1000) (i : Int) : AC prog GI 63 [wordA w, .int .i64 i] (.ret (vI (fallen w.signs i))) := by
  refine AC.as_view (o := if fallen w.signs i = [] then .nil else .view) ?_
  refine AC.of_body hG hmix func63 rfl ntmps63 (by simp) (ac := c63) (by kernel_rfl) ?_
  simp [c63, wordA]
  refine awp_loop 6 w.signs.length (fun j S H => S 2 = .box 2 0 ∧ H 2 = some [vI w.signs, vI w.cuts, .bool w.free] ∧ S 1 = .int .i64 i ∧ S 6 = .int .i64 (j : Nat) ∧ S 5 = grown (fallen (w.signs.take j) i)) (fun i S H h => h.2.2.2.1) ⟨by simp, by simp, by simp, by simp, by rw [fallen_nil]; simp [grown, ints]⟩ ?_
  rintro j hj S H ⟨s2, e2, s1, s6, s5⟩
  by_cases hlt : j < w.signs.length
  · have hw : IntKind.i64.wrap ((j : Int) + 1) = j + 1 := wrapI (by omega)
    by_cases hne : (j : Int) = i
    · subst hne
      simp [s1, s2, e2, s5, s6, hlt, hw, fallen_same hlt]
    · have hbe : ((j : Int) != i) = true := by simp [hne]
      have hl2 : (fallen (w.signs.take j) i).length < 1000 := by have := fallen_le (w.signs.take j) i; rw [List.length_take] at this; omega
      have hok := ints_ok (fallen (w.signs.take j) i)
      have hfo := fallen_other hlt hne
      generalize fallen (w.signs.take j) i = l at *
      have hok1 : elemsOK 1 [AV.int .i64 w.signs[j]] = true := rfl
      cases l with
      | nil =>
        have s5' : S 5 = .slice .nil [] := s5
        simp [s1, s2, e2, s5', s6, hlt, hbe, hw, hok1, hfo, grown, ints]
      | cons x l =>
        have s5' : S 5 = .slice (.own 3) (ints (x :: l)) := s5
        have hsz : l.length + 1 + 1 < 1048576 := by rw [List.length_cons] at hl2; omega
        have hin : ints ((x :: l) ++ [w.signs[j]]) = ints (x :: l) ++ [.int .i64 w.signs[j]] := by simp [ints]
        simp [s1, s2, e2, s5', s6, hlt, hbe, hw, hok1, hok, hsz, hfo, grown]
        simp [ints]
  · have hjl : j = w.signs.length := by omega
    subst hjl
    rw [List.take_length] at s5
    by_cases h0 : fallen w.signs i = []
    · rw [h0] at s5
      have s5' : S 5 = .slice .nil [] := s5
      simp [s1, s2, e2, s5', s6, ints, h0]
    · simp [s1, s2, e2, s5, s6, grown, h0]
end Go.Proofs.Tryz
namespace Go.Proofs.Tryz
open Go Go.AL Go.RowKit Go.Proofs
attribute [local simp] awp_all qs_all ops_all dops_all ops_nil dops_nil ops_call ops_callv ops_alloc ops_box dops_call dops_alloc kO_eq kD_eq awanted apure ev Eff.S Eff.H tmpOf upd putD AL.start AV.dem AV.cells AV.storable AV.scells splice scrub abin loadA HR.okB post ares aress ares1 AV.out AV.isData ints_len ints_get fz fz1 AV.vw AV.vw1 boxy vI int undefA assignQ thenQ blockQ seqQ panQ prol prolH allocOf
variable {GI : World → Prop}
theorem ac115 (hG : Stable GI) (a b : Word) (ha : a.signs.length < 1000) (hb : b.signs.length < 1000) : AC prog GI 115 [wordA a, wordA b] (.ret (.bool (mistR a.signs b.signs))) := by
  refine AC.of_body hG hmix func115 rfl ntmps115 (by simp) (ac := c115) (by kernel_rfl) ?_
  simp [c115, wordA]
  refine awp_loopM 5 (a.signs.length + 1) (fun i S H => S 2 = .box 2 0 ∧ H 2 = some [vI a.signs, vI a.cuts, .bool a.free] ∧ S 3 = .box 3 0 ∧ H 3 = some [vI b.signs, vI b.cuts, .bool b.free] ∧ S 5 = .int .i64 ((i : Nat) - 1) ∧ ∀ i' k', i' < i → k' ≤ b.signs.length → (!(fallen a.signs ((i' : Int) - 1)).isEmpty && fallen a.signs ((i' : Int) - 1) == fallen b.signs ((k' : Int) - 1)) = false) (fun i S H h => h.2.2.2.2.1) ⟨by simp, by simp, by simp, by simp, by simp, by simp⟩ ?_
  rintro i hi S H ⟨s2, e2, s3, e3, s5, hf⟩
  by_cases hlt : i < a.signs.length + 1
  case neg =>
    have hlt' : ¬ (i : Int) - 1 < a.signs.length := by omega
    have hr : mistR a.signs b.signs = false := mistR_false fun i' k' h1 h2 => hf i' k' (by omega) h2
    simp [s2, e2, s3, e3, s5, hlt', hr]
  have hlt' : (i : Int) - 1 < a.signs.length := by omega
  simp [s2, e2, s3, e3, s5, hlt']
  refine awp_loopM 6 (b.signs.length + 1) (fun k S H => S 2 = .box 2 0 ∧ H 2 = some [vI a.signs, vI a.cuts, .bool a.free] ∧ S 3 = .box 3 0 ∧ H 3 = some [vI b.signs, vI b.cuts, .bool b.free] ∧ S 5 = .int .i64 ((i : Nat) - 1) ∧ S 6 = .int .i64 ((k : Nat) - 1) ∧ ∀ k', k' < k → (!(fallen a.signs ((i : Int) - 1)).isEmpty && fallen a.signs ((i : Int) - 1) == fallen b.signs ((k' : Int) - 1)) = false) (fun i S H h => h.2.2.2.2.2.1) ⟨by simp [s2], by simp [e2], by simp [s3], by simp [e3], by simp [s5], by simp, by simp⟩ ?_
  clear s2 e2 s3 e3 s5 S H
  rintro k hk S H ⟨s2, e2, s3, e3, s5, s6, hg⟩
  have hwi : IntKind.i64.wrap (i : Int) = i := wrapI (by omega)
  have hwk : IntKind.i64.wrap (k : Int) = k := wrapI (by omega)
  by_cases hkt : k < b.signs.length + 1
  case neg =>
    have hkt' : ¬ (k : Int) - 1 < b.signs.length := by omega
    simp [s2, e2, s3, e3, s5, s6, hkt', hwi]
    refine ⟨hlt, fun i' k' h1 h2 => ?_⟩
    by_cases e : i' = i
    · subst e; simpa using hg k' (by omega)
    · simpa using hf i' k' (by omega) h2
  have hkt' : (k : Int) - 1 < b.signs.length := by omega
  simp [s2, e2, s3, e3, s5, s6, hkt']
  refine ⟨_, by kernel_rfl, ac63 hG a ha ((i : Int) - 1), by simp [boxy], ?_⟩
  have hl1 := fallen_le a.signs ((i : Int) - 1)
  by_cases h0 : fallen a.signs ((i : Int) - 1) = []
  · simp [s2, e2, s3, e3, s5, s6, h0, hwk]
    omega
  · have h0' : 0 < (fallen a.signs ((i : Int) - 1)).length := List.length_pos_iff.2 h0
    simp [s2, e2, s3, e3, s5, s6, h0']
    refine ⟨_, by kernel_rfl, ac63 hG b hb ((k : Int) - 1), by simp [boxy], ?_⟩
    simp [s2, e2, s3, e3, s5, s6, h0']
    refine ⟨_, by kernel_rfl, ac52 hG (fallen a.signs ((i : Int) - 1)) (fallen b.signs ((k : Int) - 1)) (by omega), fun _ => rfl, ?_⟩
    cases hs : fallen a.signs ((i : Int) - 1) == fallen b.signs ((k : Int) - 1)
    · simp [s2, e2, s3, e3, s5, s6, hwk]
      refine ⟨by omega, fun k' hk' => ?_⟩
      by_cases e : k' = k
      · subst e; intro _; simpa using hs
      · simpa using hg k' (by omega)
    · have hr : mistR a.signs b.signs = true := mistR_true (i := i) (k := k) (by omega) (by omega) h0 (by simpa using hs)
      simp [hr]
end Go.Proofs.Tryz
namespace Go.Proofs.Tryz
open Go Go.AL Go.RowKit Go.Proofs
attribute [local simp] awp_all qs_all ops_all dops_all ops_nil dops_nil ops_call ops_callv ops_alloc ops_box dops_call dops_alloc kO_eq kD_eq awanted apure ev Eff.S Eff.H tmpOf upd putD AL.start AV.dem AV.cells AV.storable AV.scells splice scrub abin loadA HR.okB post ares aress ares1 AV.out AV.isData ints_len ints_get fz fz1 AV.vw AV.vw1 boxy vI int undefA assignQ thenQ blockQ seqQ panQ prol prolH allocOf
variable {GI : World → Prop}
def sgn (s : Sheet) (i : Nat) : List Int := match s.words[i]? with | some w => w.signs | none => []
theorem sgn_eq {s : Sheet} {i : Nat} (h : i < s.words.length) : sgn s i = s.words[i].signs := by unfold sgn; rw [List.getElem?_eq_getElem h]
noncomputable def alikeR (s : Sheet) : Option (Nat × Nat) := firstP s.words.length fun i k => mistR (sgn s i) (sgn s k)
def pairR : Option (Nat × Nat) → List AV
  | some (i, k) => [.int .i64 (i : Nat), .int .i64 (k : Nat), .bool true]
  | none => [.int .i64 0, .int .i64 0, .bool false]
def pairP : Option (Nat × Nat) → List AV
  | some (i, k) => [.int .i64 (i : Nat), .int .i64 (k : Nat), .int .i64 0]
  | none => [.int .i64 0, .int .i64 0, .int .i64 5]
theorem ac62 (hG : Stable GI) (s : Sheet) (hs : Slim s) : AC prog GI 62 [sheetA s] (.ret (.tup (pairR (alikeR s)))) := by
  have q3 := hs.words
  refine AC.of_body hG hmix func62 rfl ntmps62 (by simp) (ac := c62) (by kernel_rfl) ?_
  simp [c62, sheetA, sheetL]
  refine awp_loop 5 s.words.length (fun i S H => S 1 = .box 1 0 ∧ H 1 = some (sheetL s) ∧ S 5 = .int .i64 (i : Nat) ∧ ∀ i' k', i' < i → i' < k' → k' < s.words.length → mistR (sgn s i') (sgn s k') = false) (fun i S H h => h.2.2.1) ⟨by simp, by simp [sheetL], by simp, by simp⟩ ?_
  rintro i hi S H ⟨s1, e1, s5, hf⟩
  by_cases hlt : i < s.words.length
  case neg =>
    have hr : alikeR s = none := firstP_none fun i' k' h1 h2 => hf i' k' (by omega) h1 h2
    simp [s1, e1, s5, sheetL, hlt, hr, pairR]
  have hwi : IntKind.i64.wrap ((i : Int) + 1) = i + 1 := wrapI (by omega)
  simp [s1, e1, s5, sheetL, hlt, hwi]
  refine awp_loopF 6 (i + 1) s.words.length (fun k S H => S 1 = .box 1 0 ∧ H 1 = some (sheetL s) ∧ S 5 = .int .i64 (i : Nat) ∧ S 6 = .int .i64 (k : Nat) ∧ ∀ k', i < k' → k' < k → mistR (sgn s i) (sgn s k') = false) (by omega) (fun i S H h => h.2.2.2.1) ⟨by simp [s1], by simp [e1, sheetL], by simp [s5], by simp, fun k' h1 h2 => by omega⟩ ?_
  clear s1 e1 s5 S H
  rintro k hk0 hk S H ⟨s1, e1, s5, s6, hg⟩
  have hwk : IntKind.i64.wrap ((k : Int) + 1) = k + 1 := wrapI (by omega)
  by_cases hkt : k < s.words.length
  case neg =>
    simp [s1, e1, s5, s6, sheetL, hkt, hwi]
    intro i' k' h1 h2 h3
    by_cases e : i' = i
    · subst e; exact hg k' h2 (by omega)
    · exact hf i' k' (by omega) h2 h3
  simp [s1, e1, s5, s6, sheetL, hkt, hlt, wordA]
  refine ⟨_, by kernel_rfl, ac115 hG s.words[i] s.words[k] (hs.signs _ (List.getElem_mem hlt)) (hs.signs _ (List.getElem_mem hkt)), by simp [boxy], ?_⟩
  cases hm : mistR s.words[i].signs s.words[k].signs
  · simp [s1, e1, s5, s6, sheetL, hkt, hwk]
    intro k' h1 h2
    by_cases e : k' = k
    · subst e; rw [sgn_eq hlt, sgn_eq hkt]; exact hm
    · exact hg k' h1 (by omega)
  · have hr : alikeR s = some (i, k) := firstP_some ⟨by simp only; omega, hkt, by show mistR (sgn s i) (sgn s k) = true; rw [sgn_eq hlt, sgn_eq hkt]; exact hm, fun i' k' h1 h2 h3 => by
      rcases h3 with h3 | ⟨h3, h4⟩
      · exact hf i' k' h3 h1 h2
      · have h3 : i' = i := h3
        subst h3
        exact hg k' h1 h4⟩
    simp [s1, e1, s5, s6, hr, pairR]
noncomputable def alikeP (s : Sheet) : Option (Nat × Nat) := firstP s.words.length fun i k => mist (sgn s i) (sgn s k)
def alikeA (s : Sheet) (o : Option (Nat × Nat)) : List AV := if sheetI s then pairP o else [.int .i64 0, .int .i64 0, .int .i64 2]
set_option maxHeartbeats 1000000 in
theorem ac61 (hG : Stable GI) (s : Sheet) (hs : Slim s) : AC prog GI 61 [sheetA s] (.ret (.tup (alikeA s (alikeP s)))) := by
  have q3 := hs.words
  refine AC.of_body hG hmix func61 rfl ntmps61 (by simp) (ac := c61) (by kernel_rfl) ?_
  simp [c61, sheetA, sheetL]
  refine ⟨_, by kernel_rfl, ac96 hG s hs, fun _ => rfl, ?_⟩
  cases hsh : sheetI s
  · simp [alikeA, hsh]
  simp [sheetL]
  refine awp_loop 15 s.words.length (fun i S H => S 1 = .box 1 0 ∧ H 1 = some (sheetL s) ∧ S 14 = .int .i64 s.words.length ∧ S 15 = .int .i64 (i : Nat) ∧ ∀ i' k', i' < i → i' < k' → k' < s.words.length → mist (sgn s i') (sgn s k') = false) (fun i S H h => h.2.2.2.1) ⟨by simp, by simp [sheetL], by simp, by simp, by simp⟩ ?_
  rintro i hi S H ⟨s1, e1, s14, s15, hf⟩
  by_cases hlt : i < s.words.length
  case neg =>
    have hr : alikeP s = none := firstP_none fun i' k' h1 h2 => hf i' k' (by omega) h1 h2
    simp [s1, e1, s14, s15, hlt, hr, alikeA, hsh, pairP]
  have hwi : IntKind.i64.wrap ((i : Int) + 1) = i + 1 := wrapI (by omega)
  simp [s1, e1, s14, s15, sheetL, hlt, hwi]
  refine awp_loopF 6 (i + 1) s.words.length (fun k S H => S 1 = .box 1 0 ∧ H 1 = some (sheetL s) ∧ S 5 = .int .i64 (i : Nat) ∧ S 14 = .int .i64 s.words.length ∧ S 15 = .int .i64 (i : Nat) ∧ S 6 = .int .i64 (k : Nat) ∧ ∀ k', i < k' → k' < k → mist (sgn s i) (sgn s k') = false) (by omega) (fun i S H h => h.2.2.2.2.2.1) ⟨by simp [s1], by simp [e1, sheetL], by simp, by simp [s14], by simp [s15], by simp, fun k' h1 h2 => by omega⟩ ?_
  clear s1 e1 s14 s15 S H
  rintro k hk0 hk S H ⟨s1, e1, s5, s14, s15, s6, hg⟩
  have hwk : IntKind.i64.wrap ((k : Int) + 1) = k + 1 := wrapI (by omega)
  by_cases hkt : k < s.words.length
  case neg =>
    simp [s1, e1, s5, s14, s15, s6, sheetL, hkt, hwi]
    intro i' k' h1 h2 h3
    by_cases e : i' = i
    · subst e; exact hg k' h2 (by omega)
    · exact hf i' k' (by omega) h2 h3
  have hsi := hs.signs _ (List.getElem_mem hlt)
  have hsk := hs.signs _ (List.getElem_mem hkt)
  simp [s1, e1, s5, s14, s15, s6, sheetL, hkt, hlt, wordA]
  refine ⟨_, by kernel_rfl, ac111 hG (wd := s.words[i]) (by omega), by simp [boxy], ?_⟩
  have hll : ((leftL s.words[i].signs)).length < 1001 := by unfold leftL; split <;> simp <;> omega
  simp [s1, e1, s5, s14, s15, s6]
  refine awp_loop 34 (leftL s.words[i].signs).length (fun m S H => S 1 = .box 1 0 ∧ H 1 = some (sheetL s) ∧ S 5 = .int .i64 (i : Nat) ∧ S 14 = .int .i64 s.words.length ∧ S 15 = .int .i64 (i : Nat) ∧ S 6 = .int .i64 (k : Nat) ∧ S 32 = .slice .view ((leftL s.words[i].signs).map vI) ∧ S 33 = .int .i64 (leftL s.words[i].signs).length ∧ S 34 = .int .i64 (m : Nat) ∧ ∀ j (hj : j < (leftL s.words[i].signs).length), j < m → ((leftL s.words[k].signs).any fun y => (leftL s.words[i].signs)[j] == y) = false) (fun i S H h => h.2.2.2.2.2.2.2.2.1) ⟨by simp [s1], by simp [e1, sheetL], by simp [s5], by simp [s14], by simp [s15], by simp [s6], by simp, by simp, by simp, by simp⟩ ?_
  clear s1 e1 s5 s14 s15 s6 S H
  rintro m hm S H ⟨s1, e1, s5, s14, s15, s6, s32, s33, s34, hh⟩
  have hwm : IntKind.i64.wrap ((m : Int) + 1) = m + 1 := wrapI (by omega)
  by_cases hmt : m < (leftL s.words[i].signs).length
  case neg =>
    have hno : mist (sgn s i) (sgn s k) = false := by
      rw [sgn_eq hlt, sgn_eq hkt]
      unfold mist
      rw [List.any_eq_false]
      intro x hx
      obtain ⟨j, hj, rfl⟩ := List.getElem_of_mem hx
      rw [hh j hj (by omega)]
      simp
    simp [s1, e1, s5, s14, s15, s6, s32, s33, s34, hmt, hkt, hwk]
    refine ⟨rfl, fun k' h1 h2 => ?_⟩
    by_cases e : k' = k
    · subst e; exact hno
    · exact hg k' h1 (by omega)
  have hxl : (leftL s.words[i].signs)[m].length < 1000000 := by
    have hx := List.getElem_mem hmt
    generalize (leftL s.words[i].signs)[m] = x at hx
    unfold leftL at hx
    split at hx
    · rw [List.mem_singleton] at hx; subst hx; omega
    · rcases List.mem_cons.1 hx with hx | hx
      · subst hx; omega
      · obtain ⟨j, _, rfl⟩ := List.mem_map.1 hx
        have := List.length_eraseIdx_le s.words[i].signs j
        omega
  have hkl : ((leftL s.words[k].signs)).length < 1001 := by unfold leftL; split <;> simp <;> omega
  have h112 := ac112 hG (leftL s.words[k].signs) (by omega) 113 [.ref [vI (leftL s.words[i].signs)[m]]] (.inr ⟨_, rfl⟩) (fun y => (leftL s.words[i].signs)[m] == y) (by kernel_rfl) (fun y _ => ac113 hG _ y hxl)
  simp [s1, e1, s5, s14, s15, s6, s32, s33, s34, hmt, hkt, sheetL, wordA]
  refine ⟨_, by kernel_rfl, ac111 hG (wd := s.words[k]) (by omega), by simp [boxy], ?_⟩
  simp [s1, e1, s5, s14, s15, s6, s32, s33, s34]
  refine ⟨_, by kernel_rfl, h112, fun _ => rfl, ?_⟩
  cases ha : (leftL s.words[k].signs).any fun y => (leftL s.words[i].signs)[m] == y
  · simp [s1, e1, s5, s14, s15, s6, s32, s33, s34, hmt, hwm]
    refine ⟨rfl, fun j hj hjm => ?_⟩
    have := step_all (p := fun x => !(leftL s.words[k].signs).any fun y => x == y) hmt (fun j hj hjm => by simpa using hh j hj hjm) (by simpa using ha) j hj hjm
    simpa using this
  · have hr : alikeP s = some (i, k) := firstP_some ⟨by simp only; omega, hkt, by
      show mist (sgn s i) (sgn s k) = true
      rw [sgn_eq hlt, sgn_eq hkt]
      unfold mist
      exact List.any_eq_true.2 ⟨_, List.getElem_mem hmt, ha⟩, fun i' k' h1 h2 h3 => by
      rcases h3 with h3 | ⟨h3, h4⟩
      · exact hf i' k' h3 h1 h2
      · have h3 : i' = i := h3
        subst h3
        exact hg k' h1 h4⟩
    simp [s1, e1, s5, s14, s15, s6, s32, s33, s34, hr, alikeA, hsh, pairP]
end Go.Proofs.Tryz
namespace Go.Proofs.Tryz
open Go Go.AL Go.RowKit Go.Proofs
attribute [local simp] awp_all qs_all ops_all dops_all ops_nil dops_nil ops_call ops_callv ops_alloc ops_box dops_call dops_alloc kO_eq kD_eq awanted apure ev Eff.S Eff.H tmpOf upd putD AL.start AV.dem AV.cells AV.storable AV.scells splice scrub abin loadA HR.okB post ares aress ares1 AV.out AV.isData ints_len ints_get fz fz1 AV.vw AV.vw1 boxy vI int undefA assignQ thenQ blockQ seqQ panQ prol prolH allocOf
variable {GI : World → Prop}
theorem sheetI_word {s : Sheet} (h : sheetI s = true) {w : Word} (hw : w ∈ s.words) : wordI s w = true := by
  rw [sheetI_eq] at h
  simp only [Bool.and_eq_true] at h
  exact List.all_eq_true.1 h.2.1 w hw
theorem sheetI_signs {s : Sheet} (h : sheetI s = true) {w : Word} (hw : w ∈ s.words) : w.signs ≠ [] := by
  have h1 := sheetI_word h hw
  rintro e
  simp [wordI, e, inI] at h1
theorem sgn_ne {s : Sheet} (h : sheetI s = true) {i : Nat} (hi : i < s.words.length) : sgn s i ≠ [] := by
  rw [sgn_eq hi]; exact sheetI_signs h (List.getElem_mem hi)
theorem alike_eq {s : Sheet} (h : sheetI s = true) : alikeP s = alikeR s :=
  firstP_congr fun i k h1 h2 => mistR_eq (sgn_ne h (by omega)) (sgn_ne h h2)
def ML (GI : World → Prop) : Prop := ∀ w, GI w → ∃ m, w.cell? ⟨1, 0, none⟩ = some (.int .i64 m)
theorem ac15 (hG : Stable GI) (hML : ML GI) (s : Sheet) : AC prog GI 15 [sheetA s] (.ret (.bool true)) := by
  have hk := ac24 hG hML
  refine AC.of_body hG hmix func15 rfl ntmps15 (by simp) (ac := c15) (by kernel_rfl) ?_
  simp [c15, sheetA, sheetL]
  refine ⟨_, by kernel_rfl, ac29 hG s, fun _ => rfl, ?_⟩
  cases hs : shortI s
  · simp
    refine ⟨_, by kernel_rfl, hk, fun _ => rfl, ?_⟩
    simp
  have hsl := shortI_slim hs
  simp [sheetL]
  refine ⟨_, by kernel_rfl, ac61 hG s hsl, by simp [boxy], ?_⟩
  cases hsh : sheetI s
  · simp [sheetL, alikeA, hsh]
    refine ⟨_, by kernel_rfl, ac33 hG s hsl, by simp [boxy], ?_⟩
    simp [hsh]
    refine ⟨_, by kernel_rfl, hk, by simp [boxy], ?_⟩
    simp
  rw [alike_eq hsh]
  cases ha : alikeR s with
  | none =>
    simp [sheetL, alikeA, hsh, pairP]
    refine ⟨_, by kernel_rfl, ac33 hG s hsl, by simp [boxy], ?_⟩
    simp [hsh, sheetL]
    refine ⟨_, by kernel_rfl, ac62 hG s hsl, by simp [boxy], ?_⟩
    simp [ha, pairR]
    refine ⟨_, by kernel_rfl, hk, by simp [boxy], ?_⟩
    simp
  | some q =>
    obtain ⟨i, k⟩ := q
    simp [sheetL, alikeA, hsh, pairP]
    refine ⟨_, by kernel_rfl, ac33 hG s hsl, by simp [boxy], ?_⟩
    simp [hsh, sheetL]
    refine ⟨_, by kernel_rfl, ac62 hG s hsl, by simp [boxy], ?_⟩
    simp [ha, pairR]
    refine ⟨_, by kernel_rfl, hk, by simp [boxy], ?_⟩
    simp
end Go.Proofs.Tryz
namespace Go.AL
theorem firstP_spec {n : Nat} {p : Nat → Nat → Bool} {q : Nat × Nat} (h : firstP n p = some q) : First n p q := by
  unfold firstP at h
  split at h
  · rename_i hq
    cases h
    exact Classical.choose_spec hq
  · cases h
theorem firstP_least {n : Nat} {p : Nat → Nat → Bool} {i k : Nat} (h1 : i < k) (h2 : k < n) (h : p i k = true) : ∃ q, firstP n p = some q ∧ (q.1 < i ∨ q.1 = i ∧ q.2 ≤ k) := by
  cases hq : firstP n p with
  | none =>
    exfalso
    unfold firstP at hq
    split at hq
    · cases hq
    · rename_i hn
      have key : ∀ m i k, i * (n + 1) + k < m → i < k → k < n → p i k = true → ∃ q, First n p q := by
        intro m
        induction m with
        | zero => intro i k hm; omega
        | succ m ih =>
          intro i k hm h1 h2 h
          by_cases hb : ∃ i' k', i' < k' ∧ k' < n ∧ (i' < i ∨ i' = i ∧ k' < k) ∧ p i' k' = true
          · obtain ⟨i', k', a1, a2, a3, a4⟩ := hb
            refine ih i' k' ?_ a1 a2 a4
            rcases a3 with a3 | ⟨rfl, a3⟩
            · have : i' * (n + 1) + (n + 1) ≤ i * (n + 1) := by
                rw [← Nat.succ_mul]; exact Nat.mul_le_mul_right _ a3
              omega
            · omega
          · refine ⟨(i, k), h1, h2, h, fun i' k' a1 a2 a3 => ?_⟩
            cases hp : p i' k' with
            | false => rfl
            | true => exact absurd ⟨i', k', a1, a2, a3, hp⟩ hb
      exact hn (key _ i k (Nat.lt_succ_self _) h1 h2 h)
  | some q =>
    refine ⟨q, rfl, ?_⟩
    obtain ⟨a1, a2, a3, a4⟩ := firstP_spec hq
    by_cases hl : i < q.1 ∨ i = q.1 ∧ k < q.2
    · rw [a4 i k h1 h2 hl] at h; cases h
    · omega
theorem fallen_len (l : List Int) (i : Int) : (fallen l i).length = l.length ∨ (fallen l i).length + 1 = l.length := by
  unfold fallen
  split
  · rename_i h
    right
    rw [List.length_eraseIdx, if_pos (by omega)]; omega
  · exact .inl rfl
theorem mistR_len {a b : List Int} (h : mistR a b = true) : a.length ≤ b.length + 1 ∧ b.length ≤ a.length + 1 := by
  unfold mistR at h
  obtain ⟨i, _, h⟩ := List.any_eq_true.1 h
  obtain ⟨k, _, h⟩ := List.any_eq_true.1 h
  simp only [Bool.and_eq_true, beq_iff_eq] at h
  have e := congrArg List.length h.2
  have h1 := fallen_len a ((i : Int) - 1)
  have h2 := fallen_len b ((k : Int) - 1)
  omega
theorem fallen_any (l : List Int) (i : Int) : ∃ n : Nat, n ≤ l.length ∧ fallen l i = fallen l ((n : Int) - 1) := by
  by_cases h : 0 ≤ i ∧ i < l.length
  · exact ⟨(i + 1).toNat, by omega, congrArg _ (by omega)⟩
  · refine ⟨0, by omega, ?_⟩
    unfold fallen
    rw [if_neg h, if_neg (by omega)]
theorem mistR_fallen {a b : List Int} {i k : Int} (h0 : fallen a i ≠ []) (h : fallen a i = fallen b k) : mistR a b = true := by
  obtain ⟨n, hn, e1⟩ := fallen_any a i
  obtain ⟨m, hm, e2⟩ := fallen_any b k
  rw [e1] at h0 h
  rw [e2] at h
  exact mistR_true hn hm h0 h
end Go.AL
namespace Go.Proofs.Tryz
open Go Go.AL Go.RowKit Go.Proofs
attribute [local simp] awp_all qs_all ops_all dops_all ops_nil dops_nil ops_call ops_callv ops_alloc ops_box dops_call dops_alloc kO_eq kD_eq awanted apure ev Eff.S Eff.H tmpOf upd putD AL.start AV.dem AV.cells AV.storable AV.scells splice scrub abin loadA HR.okB post ares aress ares1 AV.out AV.isData ints_len ints_get fz fz1 AV.vw AV.vw1 boxy vI int undefA assignQ thenQ blockQ seqQ panQ prol prolH allocOf
variable {GI : World → Prop}
set_option maxRecDepth 20000 in
set_option maxHeartbeats 2000000 in
theorem ac16 (hG : Stable GI) (hML : ML GI) (s : Sheet) (one other a b : Int) : AC prog GI 16 [sheetA s, .int .i64 one, .int .i64 other, .int .i64 a, .int .i64 b] (.ret (.bool true)) := by
  have hk := ac24 hG hML
  refine AC.of_body hG hmix func16 rfl ntmps16 (by simp) (ac := c16) (by kernel_rfl) ?_
  refine awp_cut (fun S H => S 5 = .box 5 0 ∧ H 5 = some (sheetL s) ∧ S 1 = .int .i64 one ∧ S 2 = .int .i64 other ∧ S 3 = .int .i64 a ∧ S 4 = .int .i64 b) (by simp [sheetA, sheetL]) ?_
  rintro S H ⟨s5, e5, s1, s2, s3, s4⟩
  have skip : ∀ S H, awp prog GI (.seq (.ops [⟨some 41, none, .call 24 []⟩, ⟨some 10, none, .mv true (.t 41)⟩]) .ret) (post prog 141 [.tmp 10] (.ret (.bool true))) S H := by
    intro S H
    simp
    refine ⟨_, by kernel_rfl, hk, fun _ => rfl, ?_⟩
    simp
  refine awp_cut2 (fun S H => S 40 = .bool (!(shortI s && sheetI s && decide (0 ≤ one) && decide (one < other) && decide (other < s.words.length))) ∧ S 5 = .box 5 0 ∧ H 5 = some (sheetL s) ∧ S 1 = .int .i64 one ∧ S 2 = .int .i64 other ∧ S 3 = .int .i64 a ∧ S 4 = .int .i64 b) ?_ ?_
  · simp [s5, e5, s1, s2, s3, s4, sheetL]
    refine ⟨_, by kernel_rfl, ac29 hG s, fun _ => rfl, ?_⟩
    cases hs : shortI s
    · simp [s5, e5, s1, s2, s3, s4, sheetL]
    simp [s5, e5, s1, s2, s3, s4, sheetL]
    refine ⟨_, by kernel_rfl, ac33 hG s (shortI_slim hs), fun _ => rfl, ?_⟩
    cases hsh : sheetI s
    · simp [s5, e5, s1, s2, s3, s4, sheetL]
    by_cases h1 : one < 0
    · simp [s5, e5, s1, s2, s3, s4, sheetL, h1]
    by_cases h2 : other ≤ one
    · simp [s5, e5, s1, s2, s3, s4, sheetL, h1, h2]
    by_cases h3 : (s.words.length : Int) ≤ other
    · simp [s5, e5, s1, s2, s3, s4, sheetL, h1, h2, h3]
    · simp [s5, e5, s1, s2, s3, s4, sheetL, h1, h2, h3]
      omega
  clear s5 e5 s1 s2 s3 s4 S H
  rintro S H ⟨s40, s5, e5, s1, s2, s3, s4⟩
  by_cases hc : (shortI s && sheetI s && decide (0 ≤ one) && decide (one < other) && decide (other < s.words.length)) = true
  case neg =>
    have hc' : (shortI s && sheetI s && decide (0 ≤ one) && decide (one < other) && decide (other < s.words.length)) = false := by simpa using hc
    rw [hc'] at s40
    simp [s40]
    refine ⟨_, by kernel_rfl, hk, fun _ => rfl, ?_⟩
    simp
  rw [hc] at s40
  simp only [Bool.and_eq_true, decide_eq_true_eq] at hc
  obtain ⟨⟨⟨⟨hs, hsh⟩, h1⟩, h2⟩, h3⟩ := hc
  have hsl := shortI_slim hs
  obtain ⟨i, rfl⟩ : ∃ i : Nat, one = i := ⟨one.toNat, by omega⟩
  obtain ⟨k, rfl⟩ : ∃ k : Nat, other = k := ⟨other.toNat, by omega⟩
  have hik : i < k := by omega
  have hkl : k < s.words.length := by omega
  have hil : i < s.words.length := by omega
  refine awp_go2 s40 ?_
  cases hal : alikeR s with
  | none =>
    have hm : ∀ a b : Int, fallen s.words[i].signs a = [] ∨ fallen s.words[i].signs a ≠ fallen s.words[k].signs b := by
      intro a b
      by_cases h0 : fallen s.words[i].signs a = []
      · exact .inl h0
      · refine .inr fun h => ?_
        obtain ⟨q, hq, _⟩ := firstP_least (p := fun i k => mistR (sgn s i) (sgn s k)) hik hkl (by rw [sgn_eq hil, sgn_eq hkl]; exact mistR_fallen h0 h)
        unfold alikeR at hal
        rw [hal] at hq; cases hq
    simp [s5, e5, s1, s2, s3, s4, sheetL]
    refine ⟨_, by kernel_rfl, ac61 hG s hsl, by simp [boxy], ?_⟩
    rw [alike_eq hsh, hal]
    simp [s5, e5, s1, s2, s3, s4, sheetL, alikeA, hsh, pairP, hil, hkl, wordA]
    refine ⟨_, by kernel_rfl, ac63 hG s.words[i] (hsl.signs _ (List.getElem_mem hil)) a, by simp [boxy], ?_⟩
    simp [s5, e5, s1, s2, s3, s4, sheetL, hil, hkl, wordA]
    refine ⟨_, by kernel_rfl, ac63 hG s.words[k] (hsl.signs _ (List.getElem_mem hkl)) b, by simp [boxy], ?_⟩
    simp [s5, e5, s1, s2, s3, s4, sheetL]
    have hl1 := fallen_le s.words[i].signs a
    have hs1 := hsl.signs _ (List.getElem_mem hil)
    by_cases h0 : fallen s.words[i].signs a = []
    · simp [h0]
      refine ⟨_, by kernel_rfl, hk, fun _ => rfl, ?_⟩
      simp
    · have h0' : (((fallen s.words[i].signs a).length : Int) == 0) = false := by simp [h0]
      have hne : (fallen s.words[i].signs a == fallen s.words[k].signs b) = false := by
        rw [beq_eq_false_iff_ne]
        exact (hm a b).resolve_left h0
      simp [h0, h0', s5]
      refine ⟨_, by kernel_rfl, ac52 hG (fallen s.words[i].signs a) (fallen s.words[k].signs b) (by omega), fun _ => rfl, ?_⟩
      simp [hne]
      refine ⟨_, by kernel_rfl, hk, fun _ => rfl, ?_⟩
      simp
  | some q =>
    obtain ⟨x, y⟩ := q
    obtain ⟨f1, f2, f3, f4⟩ := firstP_spec hal
    have f1 : x < y := f1
    have f2 : y < s.words.length := f2
    have hxl : x < s.words.length := by omega
    have f3 : mistR s.words[x].signs s.words[y].signs = true := by
      have : mistR (sgn s x) (sgn s y) = true := f3
      rwa [sgn_eq hxl, sgn_eq f2] at this
    obtain ⟨d1, d2⟩ := mistR_len f3
    have g1 := hsl.signs _ (List.getElem_mem hxl)
    have g2 := hsl.signs _ (List.getElem_mem f2)
    have hwd : IntKind.i64.wrap ((s.words[x].signs.length : Int) - s.words[y].signs.length) = s.words[x].signs.length - s.words[y].signs.length := wrapI (by omega)
    have c1 : ¬ (x : Int) < 0 := by omega
    have c2 : ¬ (y : Int) ≤ x := by omega
    have c3 : ¬ (s.words.length : Int) ≤ y := by omega
    have c4 : ¬ ((s.words[x].signs.length : Int) - s.words[y].signs.length < -1) := by omega
    have c5 : ¬ (1 < (s.words[x].signs.length : Int) - s.words[y].signs.length) := by omega
    simp [s5, e5, s1, s2, s3, s4, sheetL]
    refine ⟨_, by kernel_rfl, ac61 hG s hsl, by simp [boxy], ?_⟩
    rw [alike_eq hsh, hal]
    simp [s5, e5, s1, s2, s3, s4, sheetL, alikeA, hsh, pairP, hil, hkl, hxl, f1, f2, wordA, hwd, c1, c2, c3, c4, c5]
    refine ⟨_, by kernel_rfl, ac63 hG s.words[i] (hsl.signs _ (List.getElem_mem hil)) a, by simp [boxy], ?_⟩
    simp [s5, e5, s1, s2, s3, s4, sheetL, hil, hkl, wordA]
    refine ⟨_, by kernel_rfl, ac63 hG s.words[k] (hsl.signs _ (List.getElem_mem hkl)) b, by simp [boxy], ?_⟩
    have hl1 := fallen_le s.words[i].signs a
    have hs1 := hsl.signs _ (List.getElem_mem hil)
    by_cases h0 : fallen s.words[i].signs a = []
    · simp [h0]
      refine ⟨_, by kernel_rfl, hk, fun _ => rfl, ?_⟩
      simp
    · have h0' : (((fallen s.words[i].signs a).length : Int) == 0) = false := by simp [h0]
      simp [h0, h0', s5]
      refine ⟨_, by kernel_rfl, ac52 hG (fallen s.words[i].signs a) (fallen s.words[k].signs b) (by omega), fun _ => rfl, ?_⟩
      cases heq : fallen s.words[i].signs a == fallen s.words[k].signs b
      · simp
        refine ⟨_, by kernel_rfl, hk, fun _ => rfl, ?_⟩
        simp
      · have hmt := mistR_fallen h0 (by simpa using heq)
        obtain ⟨q, hq, hle⟩ := firstP_least (p := fun i k => mistR (sgn s i) (sgn s k)) hik hkl (by rw [sgn_eq hil, sgn_eq hkl]; exact hmt)
        have hq' : (x, y) = q := by
          unfold alikeR at hal
          rw [hal] at hq; exact Option.some.inj hq
        subst hq'
        have hle : x < i ∨ x = i ∧ y ≤ k := hle
        by_cases hxi : x < i
        · have hxi' : (x : Int) < i := by omega
          simp [s1, s2, hxi, hxi']
          refine ⟨_, by kernel_rfl, hk, fun _ => rfl, ?_⟩
          simp
        · have hxe : x = i := by omega
          have hyk : y ≤ k := by omega
          subst hxe
          simp [s1, s2, hyk]
          refine ⟨_, by kernel_rfl, hk, fun _ => rfl, ?_⟩
          simp
end Go.Proofs.Tryz
namespace Go.Proofs.YtjdgdinalodjfaaGreatDoor
open Go Go.AL Go.ChangeShapes Go.WideShapes Go.ChangeAt Go.RowKit Go.Proofs.Tryz
set_option maxRecDepth 100000
namespace Fell
abbrev row : OpenClaim := Rows.letterFellRow
abbrev spec : ChangeSpec := Rows.letterFellSpec
theorem call (W : World) (base : Nat) (args : Array Value) {H : Type} {enc : TypeId × Value → H} (ds : List (DataW H)) (p : List MemPlace) (hG : GI W) (hval : ∀ (j : Nat) t v, Tryz.f16.params[j]? = some t → args[j]? = some v → Value.okWide Tryz.prog W .any base t v)
    (hA : DataW.TrodAll enc Tryz.prog W 0 (fun _ => true) true Tryz.f16.params.toList args.toList ds p) : Calls Tryz.prog 16 args W fun e W' => e = .returned (.bool true) ∧ Below W.heap.size W W' := by
  rw [Tryz.params16] at hA hval
  obtain ⟨v0, vs0, d0, ds0, p0, q0, e0, rfl, rfl, h0, hr1⟩ := trodAll_cons hA
  obtain ⟨v1, vs1, d1, ds1, p1, q1, e1, rfl, rfl, h1, hr2⟩ := trodAll_cons hr1
  obtain ⟨v2, vs2, d2, ds2, p2, q2, e2, rfl, rfl, h2, hr3⟩ := trodAll_cons hr2
  obtain ⟨v3, vs3, d3, ds3, p3, q3, e3, rfl, rfl, h3, hr4⟩ := trodAll_cons hr3
  obtain ⟨v4, vs4, d4, ds4, p4, q4, e4, rfl, rfl, h4, hr5⟩ := trodAll_cons hr4
  obtain ⟨rfl, rfl, rfl⟩ := trodAll_nil hr5
  obtain rfl : args = #[v0, v1, v2, v3, v4] := by
    apply Array.toList_inj.1; rw [e0, e1, e2, e3, e4]
  obtain ⟨x0, g0, a0⟩ := open_sheet (hval 0 28 v0 rfl rfl) h0
  obtain ⟨x1, g1, a1⟩ := open_int (hval 1 3 v1 rfl rfl) h1
  obtain ⟨x2, g2, a2⟩ := open_int (hval 2 3 v2 rfl rfl) h2
  obtain ⟨x3, g3, a3⟩ := open_int (hval 3 3 v3 rfl rfl) h3
  obtain ⟨x4, g4, a4⟩ := open_int (hval 4 3 v4 rfl rfl) h4
  refine calls_of (ac16 gi_stable (fun _ h => h) x0 x1 x2 x3 x4) hG rfl fun i h h' => ?_
  match i, h with
  | 0, _ => exact .data _ _ a0
  | 1, _ => exact .data _ _ a1
  | 2, _ => exact .data _ _ a2
  | 3, _ => exact .data _ _ a3
  | 4, _ => exact .data _ _ a4
theorem w1 (os : Os) : ((World.laidAll Tryz.prog os row.laid).forCall (fun _ _ => 0) ⟨#[], #[.agg #[.slice none 0 0, .slice none 0 0, .int .i64 0, .int .i64 0, .int .i64 0, .int .i64 0, .int .i64 0, .slice none 0 0, .int .i64 0, .int .i64 0], .int .i64 0, .int .i64 0, .int .i64 0, .int .i64 0], []⟩).Shaped Tryz.checked.prog :=
  World.shaped_of_ZipB (by kernel_rfl) (by kernel_rfl)
theorem lifted (os : Os) (started : os.Started) (H : Type) (enc : TypeId × Value → H) :
    ReturnsInHanded {} Tryz.checked os 16 .any (fun w args => (spec.pre enc Tryz.prog Tryz.f16 row.domain false w args ∧ laidMetH Tryz.prog row.laid w) ∧ sizedMet enc Tryz.prog Tryz.f16 (OpenSpec.ofChange spec) false w args)
      (spec.post enc Tryz.prog Tryz.f16 false true false false) := by
  refine lifted_of 16 Tryz.f16 Tryz.func16 (by kernel_rfl) (by kernel_rfl) spec rfl ?_ ?_ os started _ 12 (w1 os) (by kernel_rfl) (by kernel_rfl) (by kernel_rfl) ?_ (fun W base args ds p => call W base args ds p)
  · intro ds hl
    rw [show Tryz.f16.params.size = 5 by kernel_rfl] at hl
    match ds, hl with
    | [d0, d1, d2, d3, d4], _ => rfl
  · rw [Tryz.params16]
    intro t ht
    have : t = 28 ∨ t = 3 := by simpa using ht
    rcases this with rfl | rfl
    all_goals exact ⟨by kernel_rfl, of_decide_eq_true (by kernel_rfl)⟩
  · rw [MakeChecks.laidMetH_plain _ _ _ (by kernel_rfl)]; exact laidMet_laidAll _ (by kernel_rfl) (by kernel_rfl)
theorem f_named : Tryz.prog.funcNamed "mahlstick/mahlsticklaw01.LetterFell" = some 16 := by kernel_rfl
theorem f_inPlace : (row.inPlace == Tryz.prog.inPlace 16) = true := by kernel_rfl
theorem f_unfollowed : (row.unfollowed == Tryz.prog.unfollowed 16) = true := by kernel_rfl
theorem f_recurses : (row.recurses == Tryz.prog.recurses 16) = true := by kernel_rfl
theorem f_vars : (row.named == Tryz.prog.varsNamed 16) = true := by kernel_rfl
theorem joined : joinedFacts Tryz.prog 16 Tryz.f16 spec row = true :=
  joined_of ⟨rfl, rfl, rfl, rfl, rfl, rfl⟩ (by kernel_rfl) (by kernel_rfl) (by kernel_rfl) f_inPlace f_unfollowed f_recurses f_vars (by kernel_rfl) (by kernel_rfl) (by kernel_rfl) (by kernel_rfl)
theorem instanceOf : Tryz.f16.isInstance Tryz.prog row.origin row.targs := of_decide_eq_true (by kernel_rfl)
theorem wrapperOf : Tryz.f16.isWrapper Tryz.prog row.wrapper row.mainSum := by
  unfold Func.isWrapper
  rw [if_neg (by decide +kernel)]
  exact ⟨rfl, rfl⟩
theorem holds : Rows.LetterFellSaid :=
  OpenClaim.holds_of_wide 16 Tryz.f16 rfl rfl rfl rfl rfl rfl rfl ⟨rfl, rfl, rfl, rfl, rfl⟩ rfl rfl rfl rfl rfl f_named Tryz.func16 joined instanceOf wrapperOf (fun os started H enc _ => lifted os started H enc)
theorem f_wf : row.wfByText (OpenSpec.ofChange spec) = true := by kernel_rfl
theorem f_goes : false = row.goesBy Tryz.prog := by kernel_rfl
theorem f_stand : ([28, 3].all fun u => !Tryz.prog.wantsStandIn u) = true := by kernel_rfl
theorem f_main : Tryz.prog.mainIs = some (true, "c6c35c26350f8f1001e286baba07dbfbfaca16fe3311917b4f7043a2b45b2948".toList) := by rw [p_mainIs, p_sum]
theorem card : Rows.LetterFellCardSaid :=
  Claim7.holds_tied_plain_at .later [] [.data, .data, .data, .data, .pinned] true (true, "c6c35c26350f8f1001e286baba07dbfbfaca16fe3311917b4f7043a2b45b2948") true holds (fun _ h => by cases h) f_wf (fun _ h => by cases h) letterFell_row_tie rfl ⟨rfl, rfl⟩ f_main rfl
    (fun f fn hf hfn => by
      obtain rfl : f = 16 := Option.some.inj (f_named.symm.trans hf) |>.symm
      obtain rfl : fn = Tryz.f16 := (Option.some.inj (Tryz.func16.symm.trans hfn)).symm
      refine ⟨p_looks, fun j t ht => ?_⟩
      rw [Tryz.params16] at ht
      have hm : t ∈ [28, 3] := by
        simpa using Array.mem_of_getElem? ht
      exact (show Tryz.prog.wantsStandIn t = false by simpa using List.all_eq_true.1 f_stand t hm))
    f_goes
end Fell
#print axioms Fell.card
end Go.Proofs.YtjdgdinalodjfaaGreatDoor
