/-
  The statement's function LetterLess returns true and leaves its arguments as they are, for every sheet and list of words; no condition. The texts before this one hold the layer of abstract values, the code of the functions that are reached, and their contracts.
-/
import Derived.Test.YtjdgdinalodjfaaGreatDoorP1
import Derived.Test.YtjdgdinalodjfaaGreatDoorQ1
set_option linter.all false
set_option linter.unusedVariables false
set_option linter.unusedSimpArgs false
set_option linter.deprecated false
namespace Go.Proofs.Tryz
open Go.AL
theorem flat_len {α β : Type} {f : α → List β} {b : Nat} (hf : ∀ x, (f x).length ≤ b) : ∀ l : List α, (l.flatMap f).length ≤ b * l.length
 | [] => by simp
 | a :: l => by
  have := flat_len hf l
  have := hf a
  rw [List.flatMap_cons, List.length_append, List.length_cons, Nat.mul_add]
  omega
theorem ext_len {s : Sheet} (h : s.words.length ≤ 4) (l : List Int) : (extO s l).length ≤ 4 := by
 unfold extO
 split
 ·unfold extL; simp; omega
 ·simp
theorem lev_card {s : Sheet} (h : s.words.length ≤ 4) : ∀ m, (levL s m).length ≤ 4 ^ m
 | 0 => by simp [levL]
 | m + 1 => by
  have ih := lev_card h m
  have := flat_len (ext_len h) (levL s m)
  show ((levL s m).flatMap (extO s)).length ≤ _
  rw [Nat.pow_succ]
  omega
theorem queue_len {s : Sheet} (h : s.words.length ≤ 4) : (queueL s).length ≤ 2000 := by
 have : ∀ n, n ≤ 5 → ((List.range n).flatMap (levL s)).length ≤ 256 * n := by
  intro n hn
  induction n with
  | zero => simp
  | succ n ih =>
   have ih := ih (by omega)
   have h1 := lev_card h n
   have h2 : 4 ^ n ≤ 4 ^ 4 := Nat.pow_le_pow_right (by omega) (by omega)
   rw [List.range_succ, List.flatMap_append, List.length_append, List.flatMap_singleton]
   omega
 have := this (s.words.length + 1) (by omega)
 unfold queueL
 omega
def dropI (s : Sheet) : Option (List Int) := (queueL s).find? fun l => outI s l && !(goodS s l).isEmpty
theorem find_at' {α : Type} {p : α → Bool} : ∀ {l : List α} {i : Nat} (h : i < l.length), p l[i] = true → (∀ j (hj : j < l.length), j < i → p l[j] = false) → l.find? p = some l[i]
 | [], _, h, _, _ => by simp at h
 | a :: l, 0, _, h, _ => by rw [List.find?_cons]; simp only [List.getElem_cons_zero] at h; rw [h]; rfl
 | a :: l, i + 1, hi, h, hb => by
  have h0 := hb 0 (by simp) (by omega)
  simp only [List.getElem_cons_zero] at h0
  rw [List.find?_cons, h0]
  simp only [List.getElem_cons_succ] at h ⊢
  exact find_at' (by simpa using hi) h fun j hj hji => by
   have := hb (j + 1) (by simpa using hj) (by omega)
   simpa using this
theorem find_no' {α : Type} {p : α → Bool} {l : List α} (h : ∀ j (hj : j < l.length), p l[j] = false) : l.find? p = none := by
 rw [List.find?_eq_none]
 intro x hx
 obtain ⟨i, hi, rfl⟩ := List.getElem_of_mem hx
 rw [h i hi]; simp
theorem outI_mem {s : Sheet} {l : List Int} (h : outI s l = true) : (∀ x ∈ l, 0 ≤ x ∧ x < s.words.length) ∧ l.length < s.words.length := by
 unfold outI at h
 simp only [Bool.and_eq_true, decide_eq_true_eq] at h
 refine ⟨fun x hx => ?_, h.1.2⟩
 have h1 := (adjI_iff.1 (show adjI _ _ l = true from h.1.1)).1 x hx
 unfold inI at h1
 simp only [Bool.and_eq_true, decide_eq_true_eq] at h1
 omega
theorem fromL_le {l : List Int} {n : Nat} (h : ∀ x ∈ l, 0 ≤ x ∧ x < n) : fromL l ≤ n := by
 unfold fromL
 split
 ·rename_i x hx
  have := h x (List.mem_of_getLast? hx)
  omega
 ·omega
end Go.Proofs.Tryz
namespace Go.Proofs.Tryz
open Go Go.AL Go.RowKit Go.Proofs
attribute [local simp] awp_all qs_all ops_allN dops_allN ops_nil dops_nil ops_call ops_callv ops_alloc ops_box dops_call dops_alloc kO_eq kD_eq awanted apure ev Eff.S Eff.H tmpOf upd putD AL.start AV.dem AV.cells AV.storable AV.scells splice scrub abin loadA HR.okB post ares aress ares1 AV.out AV.isData ints_len ints_get fz fz1 AV.vw AV.vw1 boxy vI int undefA assignQ thenQ blockQ seqQ panQ prol prolH allocOf
variable {GI : World → Prop}
theorem fromL_last {l : List Int} (h : 0 < l.length) (h0 : ∀ x ∈ l, 0 ≤ x) : l[l.length - 1]'(by omega) + 1 = (fromL l : Nat) := by
 unfold fromL
 rw [List.getLast?_eq_getElem?, List.getElem?_eq_getElem (show l.length - 1 < l.length by omega)]
 have := h0 _ (List.getElem_mem (show l.length - 1 < l.length by omega))
 simp only; omega
theorem range'_snoc (a k : Nat) (h : a ≤ k) : List.range' a (k + 1 - a) = List.range' a (k - a) ++ [k] := by
 rw [show k + 1 - a = (k - a) + 1 by omega, List.range'_concat]
 simp; omega
theorem vIs_ok1 (l : List (List Int)) : elemsOK 1 (l.map vI) = true := elems_map fun a => ⟨rfl, rfl⟩
end Go.Proofs.Tryz
namespace Go.Proofs.Tryz
open Go Go.AL Go.RowKit Go.Proofs
attribute [local simp] awp_all qs_all ops_allN dops_allN ops_nil dops_nil ops_call ops_callv ops_alloc ops_box dops_call dops_alloc kO_eq kD_eq awanted apure ev Eff.S Eff.H tmpOf upd putD AL.start AV.dem AV.cells AV.storable AV.scells splice scrub abin loadA HR.okB post ares aress ares1 AV.out AV.isData ints_len ints_get fz fz1 AV.vw AV.vw1 boxy vI int undefA assignQ thenQ blockQ seqQ panQ prol prolH allocOf
variable {GI : World → Prop}
theorem seen_len {s : Sheet} (h : s.words.length ≤ 4) (i : Nat) : (seenQ s i).length ≤ 2000 := by
 obtain ⟨r, hr⟩ := seen_prefix s i
 have := queue_len h
 rw [hr, List.length_append] at this
 omega
def dropO (s : Sheet) : List AV := if sheetI s then match dropI s with
 | some l => [vI l, .int .i64 0]
 | none => [vI [], .int .i64 5]
 else [vI [], .int .i64 2]
theorem queue_short {s : Sheet} {l : List Int} (h : l ∈ queueL s) : l.length ≤ s.words.length := by
 unfold queueL at h
 obtain ⟨m, hm, hl⟩ := List.mem_flatMap.1 h
 rw [lev_len hl]
 have := List.mem_range.1 hm; omega
set_option maxHeartbeats 4000000 in
theorem ac50 (hG : Stable GI) (s : Sheet) (hs : Slim s) : AC prog GI 50 [sheetA s] (.ret (.tup (dropO s))) := by
 unfold dropO
 cases hsh : sheetI s with
 | false =>
  have a96 := ac96 hG s hs
  rw [hsh] at a96
  refine AC.of_body hG hmix func50 rfl ntmps50 (by simp) (ac := c50) (by kernel_rfl) ?_
  refine awp_cut (fun S H => S 1 = .box 1 0 ∧ H 1 = some (sheetL s)) (by simp [ops_ap, dops_ap, sheetA, sheetL]) ?_
  rintro S H ⟨s1, e1⟩
  simp [ops_ap, dops_ap, s1, e1, sheetL]
  refine ⟨_, by kernel_rfl, a96, fun _ => rfl, ?_⟩
  simp [ops_ap, dops_ap, ints]
 | true =>
 have hw4 := (sheetF hsh).words
 have a96 := ac96 hG s hs
 rw [hsh] at a96
 rw [if_pos rfl]
 unfold dropI
 generalize hO : (queueL s).find? (fun l => outI s l && !(goodS s l).isEmpty) = o
 have hql := queue_len hw4.2
 refine AC.of_body hG hmix func50 rfl ntmps50 (by simp) (ac := c50) (by kernel_rfl) ?_
 refine awp_cut (fun S H => S 1 = .box 1 0 ∧ H 1 = some (sheetL s)) (by simp [ops_ap, dops_ap, sheetA, sheetL]) ?_
 rintro S H ⟨s1, e1⟩
 refine awp_cut (fun S H => S 1 = .box 1 0 ∧ H 1 = some (sheetL s)) ?_ ?_
 ·simp [ops_ap, dops_ap, s1, e1, sheetL]
  refine ⟨_, by kernel_rfl, a96, fun _ => rfl, ?_⟩
  simp [ops_ap, dops_ap, s1, e1, sheetL]
 clear s1 e1 S H
 rintro S H ⟨s1, e1⟩
 refine awp_cut (fun S H => S 1 = .box 1 0 ∧ H 1 = some (sheetL s) ∧ S 4 = .box 4 0 ∧ H 4 = some (frontL s)) ?_ ?_
 ·simp [ops_ap, dops_ap, s1, e1, sheetL]
  refine ⟨_, by kernel_rfl, ac80f hG s hsh, by simp [boxy], ?_⟩
  simp [ops_ap, dops_ap, s1, e1, frontA, frontL, sheetL, spaces]
 clear s1 e1 S H
 rintro S H ⟨s1, e1, s4, e4⟩
 refine awp_cut (fun S H => S 1 = .box 1 0 ∧ H 1 = some (sheetL s) ∧ S 4 = .box 4 0 ∧ H 4 = some (frontL s) ∧ S 5 = grow 22 ((seenQ s 0).map vI)) ?_ ?_
 ·have hok : elemsOK 1 [AV.slice .nil []] = true := rfl
  have hok' : elemsOK 1 [AV.slice .view []] = true := rfl
  simp [ops_ap, dops_ap, s1, e1, s4, e4, hok, hok', seenQ, grow, ints]
 clear s1 e1 s4 e4 S H
 rintro S H ⟨s1, e1, s4, e4, s5⟩
 simp [ops_ap, dops_ap, s1, e1, s4, e4, s5]
 refine awp_loop 6 (queueL s).length (fun i S H => S 1 = .box 1 0 ∧ H 1 = some (sheetL s) ∧ S 4 = .box 4 0 ∧ H 4 = some (frontL s) ∧ S 6 = .int .i64 (i : Nat) ∧ S 5 = grow 22 ((seenQ s i).map vI) ∧ ∀ j (hj : j < (queueL s).length), j < i → (outI s (queueL s)[j] && !(goodS s (queueL s)[j]).isEmpty) = false) (fun i S H h => h.2.2.2.2.1) ⟨by simp [ops_ap, dops_ap, s1], by simp [ops_ap, dops_ap, e1], by simp [ops_ap, dops_ap, s4], by simp [ops_ap, dops_ap, e4], by simp [ops_ap, dops_ap], by simp [ops_ap, dops_ap, s5, grow], fun j _ h => absurd h (Nat.not_lt_zero _)⟩ ?_
 clear s1 e1 s4 e4 s5 S H
 rintro i hi S H ⟨s1, e1, s4, e4, s6, s5, hb⟩
 have hsl := seen_len hw4.2 i
 have s5' : S 5 = .slice (.own 22) ((seenQ s i).map vI) := by rw [s5]; simp [grow, seenQ]
 by_cases hlt : i < (seenQ s i).length
 case neg =>
  have hall := seen_all hi (by omega)
  have hn := find_no' (l := queueL s) (p := fun l => outI s l && !(goodS s l).isEmpty) fun j hj => hb j hj (by omega)
  rw [hO] at hn
  subst hn
  have hlt' : ¬ (i : Int) < (seenQ s i).length := by omega
  simp [ops_ap, dops_ap, s1, e1, s4, e4, s6, s5', hlt, ints]
 obtain ⟨hiq, hget⟩ := seen_get hlt
 have hsu := seen_succ hiq
 have hw : IntKind.i64.wrap ((i : Int) + 1) = i + 1 := wrapI (by omega)
 have hqs := queue_short (List.getElem_mem hiq)
 have hgv : (seenQ s i)[i]? = some (queueL s)[i] := by rw [List.getElem?_eq_getElem hlt, hget]
 have hfind := fun h => find_at' (l := queueL s) (p := fun l => outI s l && !(goodS s l).isEmpty) hiq h hb
 rw [hO] at hfind
 have hbn : (outI s (queueL s)[i] && !(goodS s (queueL s)[i]).isEmpty) = false → ∀ j (hj : j < (queueL s).length), j < i + 1 → (outI s (queueL s)[j] && !(goodS s (queueL s)[j]).isEmpty) = false := fun h j hj hji => by
  by_cases e : j = i
  ·subst e; exact h
  ·exact hb j hj (by omega)
 generalize hl : (queueL s)[i] = l at hsu hqs hgv hfind hbn
 generalize hSQ : seenQ s i = Q at s5 s5' hlt hsl hgv hsu
 have hlt' : (i : Int) < Q.length := by omega
 have a106 := ac106 hG s hs l (by omega)
 refine awp_cut (fun S H => S 1 = .box 1 0 ∧ H 1 = some (sheetL s) ∧ S 4 = .box 4 0 ∧ H 4 = some (frontL s) ∧ S 6 = .int .i64 (i : Nat) ∧ S 5 = .slice (.own 22) (Q.map vI)) (by simp [ops_ap, dops_ap, s1, e1, s4, e4, s6, s5', hlt]) ?_
 clear s1 e1 s4 e4 s6 s5 s5' S H
 rintro S H ⟨s1, e1, s4, e4, s6, s5⟩
 refine awp_in ?_
 obtain ⟨hgl, hgv⟩ := List.getElem?_eq_some_iff.1 hgv
 refine awp_cut (fun S H => S 1 = .box 1 0 ∧ H 1 = some (sheetL s) ∧ S 4 = .box 4 0 ∧ H 4 = some (frontL s) ∧ S 6 = .int .i64 (i : Nat) ∧ S 5 = .slice (.own 22) (Q.map vI) ∧ S 7 = vI l) ?_ ?_
 ·simp [ops_ap, dops_ap, s1, e1, s4, e4, s6, s5, hlt, hgv]
 clear s1 e1 s4 e4 s6 s5 S H
 rintro S H ⟨s1, e1, s4, e4, s6, s5, s7⟩
 cases hout : outI s l
 ·rw [hout] at a106
  have hx : extO s l = [] := by unfold extO; rw [hout]; rfl
  rw [hx, List.append_nil] at hsu
  have hbn := hbn (by rw [hout]; rfl)
  simp [ops_ap, dops_ap, s1, e1, s4, e4, s6, s5, s7, sheetL]
  refine ⟨_, by kernel_rfl, a106, fun _ => rfl, ?_⟩
  simp [ops_ap, dops_ap, s1, e1, s4, e4, s6, s5, s7, sheetL, hw, hiq]
  refine ⟨?_, fun j hj hji => by simpa using hbn j hj hji⟩
  rw [hsu]
  simp [grow]
  intro h
  rw [h] at hlt
  simp at hlt
 have hx : extO s l = extL s.words.length l := by unfold extO; rw [hout]; rfl
 rw [hx] at hsu
 rw [hout] at a106
 obtain ⟨hlm, hll⟩ := outI_mem hout
 have a107 := ac107f hG s hsh l (by omega) hout
 have hfl := fromL_le hlm
 refine awp_cut (fun S H => S 1 = .box 1 0 ∧ H 1 = some (sheetL s) ∧ S 4 = .box 4 0 ∧ H 4 = some (frontL s) ∧ S 6 = .int .i64 (i : Nat) ∧ S 5 = .slice (.own 22) (Q.map vI) ∧ S 7 = vI l) ?_ ?_
 ·simp [ops_ap, dops_ap, s1, e1, s4, e4, s6, s5, s7, sheetL]
  refine ⟨_, by kernel_rfl, a106, fun _ => rfl, ?_⟩
  simp [ops_ap, dops_ap, s1, e1, s4, e4, s6, s5, s7, sheetL]
 clear s1 e1 s4 e4 s6 s5 s7 S H
 rintro S H ⟨s1, e1, s4, e4, s6, s5, s7⟩
 cases hg : goodS s l with
 | cons x g =>
  rw [hg] at a107
  have hfind := hfind (by rw [hout, hg]; rfl)
  subst hfind
  simp [ops_ap, dops_ap, s1, e1, s4, e4, s6, s5, s7, frontL, sheetL, spaces]
  refine ⟨_, by kernel_rfl, a107, fun _ => rfl, ?_⟩
  simp [ops_ap, dops_ap, s1, e1, s4, e4, s6, s5, s7]
 | nil =>
 rw [hg] at a107
 have hbn := hbn (by rw [hout, hg]; rfl)
 refine awp_cut (fun S H => S 1 = .box 1 0 ∧ H 1 = some (sheetL s) ∧ S 4 = .box 4 0 ∧ H 4 = some (frontL s) ∧ S 6 = .int .i64 (i : Nat) ∧ S 5 = .slice (.own 22) (Q.map vI) ∧ S 7 = vI l) ?_ ?_
 ·simp [ops_ap, dops_ap, s1, e1, s4, e4, s6, s5, s7, frontL, sheetL, spaces]
  refine ⟨_, by kernel_rfl, a107, fun _ => rfl, ?_⟩
  simp [ops_ap, dops_ap, s1, e1, s4, e4, s6, s5, s7, frontL, sheetL, spaces]
 clear s1 e1 s4 e4 s6 s5 s7 S H
 rintro S H ⟨s1, e1, s4, e4, s6, s5, s7⟩
 refine awp_cut (fun S H => S 1 = .box 1 0 ∧ H 1 = some (sheetL s) ∧ S 4 = .box 4 0 ∧ H 4 = some (frontL s) ∧ S 6 = .int .i64 (i : Nat) ∧ S 5 = .slice (.own 22) (Q.map vI) ∧ S 7 = vI l ∧ S 8 = .int .i64 0) (by simp [ops_ap, dops_ap, s1, e1, s4, e4, s6, s5, s7]) ?_
 clear s1 e1 s4 e4 s6 s5 s7 S H
 rintro S H ⟨s1, e1, s4, e4, s6, s5, s7, s8⟩
 refine awp_cut (fun S H => S 1 = .box 1 0 ∧ H 1 = some (sheetL s) ∧ S 4 = .box 4 0 ∧ H 4 = some (frontL s) ∧ S 6 = .int .i64 (i : Nat) ∧ S 5 = .slice (.own 22) (Q.map vI) ∧ S 7 = vI l ∧ S 8 = .int .i64 (fromL l : Nat)) ?_ ?_
 ·by_cases h0 : l = []
  ·subst h0
   simp [ops_ap, dops_ap, s1, e1, s4, e4, s6, s5, s7, s8, fromL]
  ·have hp := List.length_pos_iff.2 h0
   have hla := fromL_last hp (fun x h => (hlm x h).1)
   have hwm : IntKind.i64.wrap ((l.length : Int) - 1) = (l.length - 1 : Nat) := by rw [wrapI (by omega)]; omega
   have hlz : l.length - 1 < l.length := by omega
   have hwf : IntKind.i64.wrap (fromL l : Int) = (fromL l : Nat) := wrapI (by omega)
   simp [ops_ap, dops_ap, s1, e1, s4, e4, s6, s5, s7, s8, hp, hwm, hlz, hla, hwf]
 clear s1 e1 s4 e4 s6 s5 s7 s8 S H
 rintro S H ⟨s1, e1, s4, e4, s6, s5, s7, s8⟩
 have hQn : Q ≠ [] := by intro h; rw [h] at hlt; simp at hlt
 simp [ops_ap, dops_ap, s1, e1, s4, e4, s6, s5, s7, s8]
 refine awp_loopF 9 (fromL l) s.words.length (fun k S H => S 1 = .box 1 0 ∧ H 1 = some (sheetL s) ∧ S 4 = .box 4 0 ∧ H 4 = some (frontL s) ∧ S 6 = .int .i64 (i : Nat) ∧ S 7 = vI l ∧ S 9 = .int .i64 (k : Nat) ∧ S 5 = grow 22 ((Q ++ (List.range' (fromL l) (k - fromL l)).map fun i : Nat => l ++ [(i : Int)]).map vI)) hfl (fun k S H h => h.2.2.2.2.2.2.1) ⟨by simp [ops_ap, dops_ap, s1], by simp [ops_ap, dops_ap, e1], by simp [ops_ap, dops_ap, s4], by simp [ops_ap, dops_ap, e4], by simp [ops_ap, dops_ap, s6], by simp [ops_ap, dops_ap, s7], by simp [ops_ap, dops_ap], by simp [ops_ap, dops_ap, s5, grow, hQn]⟩ ?_
 clear s1 e1 s4 e4 s6 s5 s7 s8 S H
 rintro k hkf hk S H ⟨s1, e1, s4, e4, s6, s7, s9, s5⟩
 by_cases hkl : k < s.words.length
 case neg =>
  have hkl' : k = s.words.length := by omega
  subst hkl'
  have e : Q ++ (List.range' (fromL l) (s.words.length - fromL l)).map (fun i : Nat => l ++ [(i : Int)]) = seenQ s (i + 1) := hsu.symm
  rw [e] at s5
  have hQ2 : seenQ s (i + 1) ≠ [] := by simp [seenQ]
  simp [ops_ap, dops_ap, s1, e1, s4, e4, s6, s7, s9, s5, sheetL, hw, hiq, grow, hQ2]
  exact fun j hj hji => by simpa using hbn j hj hji
 have hkw : IntKind.i64.wrap ((k : Int) + 1) = k + 1 := wrapI (by omega)
 have a108 := ac108 hG (ints l) (ints_ok1 l) (by simp [ints]; omega)
 have hrs := range'_snoc (fromL l) k hkf
 have hPl : (Q ++ (List.range' (fromL l) (k - fromL l)).map fun i : Nat => l ++ [(i : Int)]).length ≤ 2100 := by simp; omega
 have hrs2 : Q ++ (List.range' (fromL l) (k + 1 - fromL l)).map (fun i : Nat => l ++ [(i : Int)]) = (Q ++ (List.range' (fromL l) (k - fromL l)).map fun i : Nat => l ++ [(i : Int)]) ++ [l ++ [(k : Int)]] := by rw [hrs, List.map_append, List.append_assoc]; rfl
 rw [hrs2]
 clear hrs hrs2
 generalize Q ++ (List.range' (fromL l) (k - fromL l)).map (fun i : Nat => l ++ [(i : Int)]) = P at s5 hPl ⊢
 have hok1 : elemsOK 1 [AV.int .i64 (k : Nat)] = true := rfl
 have hok2 : elemsOK 1 [vI (l ++ [(k : Int)])] = true := rfl
 have hokl : elemsOK 1 (ints l) = true := ints_ok1 l
 simp [s1, e1, s4, e4, s6, s7, s9, s5, hkl, sheetL]
 refine ⟨_, by kernel_rfl, a108, by simp [boxy], ?_⟩
 simp [s1, e1, s4, e4, s6, s7, s9, s5, hkl, hok1]
 refine aops_app (ints l) (AV.int .i64 (k : Nat)) (.own 3) (by simp [grow]) (by simp) hok1 hokl (by simp [ints]; omega) ?_
 intro S' sd hk'
 have hok3 : elemsOK 1 [AV.slice .view (ints l ++ [AV.int .i64 (k : Nat)])] = true := rfl
 simp [sd, hk', s1, e1, s4, e4, s6, s7, s9, s5, grow, hok3]
 refine aops_app (P.map vI) (vI (l ++ [(k : Int)])) (.own 22) (by simp [hk', s5, grow]) (by simp [ints]) hok2 (vIs_ok1 P) (by simp; omega) ?_
 intro S'' sd' hk''
 simp [sd', hk'', hk', s1, e1, s4, e4, s6, s7, s9, hkl, hkw, sheetL, grow]
end Go.Proofs.Tryz
namespace Go.Proofs.Tryz
open Go Go.AL Go.RowKit Go.Proofs
attribute [local simp] awp_all qs_all ops_allN dops_allN ops_nil dops_nil ops_call ops_callv ops_alloc ops_box dops_call dops_alloc kO_eq kD_eq awanted apure ev Eff.S Eff.H tmpOf upd putD AL.start AV.dem AV.cells AV.storable AV.scells splice scrub abin loadA HR.okB post ares aress ares1 AV.out AV.isData ints_len ints_get fz fz1 AV.vw AV.vw1 boxy vI int undefA assignQ thenQ blockQ seqQ panQ prol prolH allocOf
variable {GI : World → Prop}
def sheetW (s : Sheet) (x : AV) : List AV := [vI s.widths, .slice .view (s.pairs.map pairA), .int .i64 s.olo, .int .i64 s.ohi, .int .i64 s.glo, .int .i64 s.ghi, .int .i64 s.hyphen, x, .int .i64 s.wide, .int .i64 s.rows]
theorem word_ok3 (l : List Word) : elemsOK 3 (l.map wordA) = true := elems_map fun a => ⟨rfl, rfl⟩
set_option maxHeartbeats 1000000 in
theorem ac54 (hG : Stable GI) (s : Sheet) (hs : Slim s) (out : List Int) (ho : out.length < 1000000) : AC prog GI 54 [sheetA s, vI out] (.ret (sheetA (withoutS s out))) := by
 obtain ⟨it, hit, hsz⟩ := info_size (P := prog) (t := 28) (s := 10) (by kernel_rfl)
 have q3 := hs.words
 refine AC.of_body hG hmix func54 rfl ntmps54 (by simp) (ac := c54) (by kernel_rfl) ?_
 refine awp_cut (fun S H => S 1 = vI out ∧ S 2 = .box 2 0 ∧ H 2 = some (sheetL s) ∧ S 4 = .box 4 0 ∧ H 4 = some [.slice .nil [], .slice .nil [], .int .i64 0, .int .i64 0, .int .i64 0, .int .i64 0, .int .i64 0, .slice .nil [], .int .i64 0, .int .i64 0]) (by simp [ops_ap, dops_ap, sheetA, sheetL]) ?_
 rintro S H ⟨s1, s2, e2, s4, e4⟩
 refine awp_cut (fun S H => S 1 = vI out ∧ S 2 = .box 2 0 ∧ H 2 = some (sheetL s) ∧ S 4 = .box 4 0 ∧ H 4 = some [.slice .nil [], .slice .nil [], .int .i64 0, .int .i64 0, .int .i64 0, .int .i64 0, .int .i64 0, .slice .nil [], .int .i64 0, .int .i64 0] ∧ S 5 = .slice .view (s.words.map wordA)) (by simp [ops_ap, dops_ap, s1, s2, e2, s4, e4, sheetL]) ?_
 clear s1 s2 e2 s4 e4 S H
 rintro S H ⟨s1, s2, e2, s4, e4, s5⟩
 refine awp_cut (fun S H => S 1 = vI out ∧ S 2 = .box 2 0 ∧ H 2 = some (sheetW s (grow 77 ((leftW s out 0).map wordA))) ∧ S 4 = .box 4 0 ∧ H 4 = some [.slice .nil [], .slice .nil [], .int .i64 0, .int .i64 0, .int .i64 0, .int .i64 0, .int .i64 0, .slice .nil [], .int .i64 0, .int .i64 0] ∧ S 5 = .slice .view (s.words.map wordA)) (by simp [ops_ap, dops_ap, s1, s2, e2, s4, e4, s5, sheetL, sheetW, grow, leftW, leftI]) ?_
 clear s1 s2 e2 s4 e4 s5 S H
 rintro S H ⟨s1, s2, e2, s4, e4, s5⟩
 refine awp_cut (fun S H => S 2 = .box 2 0 ∧ H 2 = some (sheetW s (grow 77 ((leftW s out s.words.length).map wordA))) ∧ S 4 = .box 4 0 ∧ H 4 = some [.slice .nil [], .slice .nil [], .int .i64 0, .int .i64 0, .int .i64 0, .int .i64 0, .int .i64 0, .slice .nil [], .int .i64 0, .int .i64 0]) ?_ ?_
 ·simp [ops_ap, dops_ap, s1, s2, e2, s4, e4, s5]
  refine awp_loop 6 s.words.length (fun i S H => S 1 = vI out ∧ S 2 = .box 2 0 ∧ H 2 = some (sheetW s (grow 77 ((leftW s out i).map wordA))) ∧ S 4 = .box 4 0 ∧ H 4 = some [.slice .nil [], .slice .nil [], .int .i64 0, .int .i64 0, .int .i64 0, .int .i64 0, .int .i64 0, .slice .nil [], .int .i64 0, .int .i64 0] ∧ S 5 = .slice .view (s.words.map wordA) ∧ S 6 = .int .i64 (i : Nat)) (fun i S H h => h.2.2.2.2.2.2) ⟨by simp [ops_ap, dops_ap, s1], by simp [ops_ap, dops_ap, s2], by simp [ops_ap, dops_ap, e2], by simp [ops_ap, dops_ap, s4], by simp [ops_ap, dops_ap, e4], by simp [ops_ap, dops_ap, s5], by simp [ops_ap, dops_ap]⟩ ?_
  clear s1 s2 e2 s4 e4 s5 S H
  rintro i hi S H ⟨s1, s2, e2, s4, e4, s5, s6⟩
  by_cases hlt : i < s.words.length
  case neg =>
   have hil : i = s.words.length := by omega
   subst hil
   simp [ops_ap, dops_ap, s1, s2, e2, s4, e4, s5, s6]
  have hw : IntKind.i64.wrap ((i : Int) + 1) = i + 1 := wrapI (by omega)
  have a91 := ac91 hG out i (by omega)
  have hls := leftW_succ (out := out) hlt
  have hll : (leftW s out i).length ≤ 1000 := by
   unfold leftW leftI
   have := List.length_filter_le (fun k : Nat => !out.contains (k : Int)) (List.range i)
   simp at this ⊢; omega
  generalize leftW s out i = B at e2 hls hll
  simp [s1, s2, e2, s4, e4, s5, s6, hlt]
  refine ⟨_, by kernel_rfl, a91, fun _ => rfl, ?_⟩
  cases hct : out.contains (i : Int)
  ·rw [hct] at hls
   simp at hls
   have hok1 : elemsOK 3 [wordA s.words[i]] = true := rfl
   have hok2 : elemsOK 3 [AV.agg [vI s.words[i].signs, vI s.words[i].cuts, AV.bool s.words[i].free]] = true := rfl
   simp [s1, s2, e2, s4, e4, s5, s6, hlt, sheetW, wordA]
   refine dops_app (B.map wordA) (wordA s.words[i]) (.own 77) (by simp [grow]) (by simp [wordA]) hok1 (word_ok3 _) (by rw [List.length_map]; omega) ?_
   intro S' sd hk'
   simp [sd, hk', s1, s2, e2, s4, e4, s5, s6, hlt, hw, hls, sheetW, grow]
  ·rw [hct] at hls
   simp at hls
   simp [s1, s2, e2, s4, e4, s5, s6, hlt, hw, hls]
 clear s1 s2 e2 s4 e4 s5 S H
 rintro S H ⟨s2, e2, s4, e4⟩
 have hws : (withoutS s out).words = leftW s out s.words.length := rfl
 simp [ops_ap, dops_ap, s2, e2, s4, e4, sheetW, hit, hsz, aggT, sheetA, sheetL, withoutS, grow]
 generalize leftW s out s.words.length = B
 by_cases h0 : B = []
 ·subst h0; rfl
 ·rw [if_neg h0]
theorem befI_drop {a b : List Int} {i : Nat} (hb : ∀ j (h1 : j < a.length) (h2 : j < b.length), j < i → a[j] = b[j]) (ha' : i ≤ a.length) (hb' : i ≤ b.length) : befI a b = befI (a.drop i) (b.drop i) := by
 have e : a.take i = b.take i := by
  apply List.ext_getElem
  ·simp; omega
  ·intro j h1 h2
   simp at h1 h2
   simp
   exact hb j (by omega) (by omega) (by omega)
 conv => lhs; rw [← List.take_append_drop i a, ← List.take_append_drop i b, e]
 exact befI_app _ _ _
theorem ac55 (hG : Stable GI) (a b : List Int) (ha : a.length < 1000000) : AC prog GI 55 [vI a, vI b] (.ret (.bool (befI a b))) := by
 refine AC.of_body hG hmix func55 rfl ntmps55 (by simp) (ac := c55) (by kernel_rfl) ?_
 simp [c55, ops_ap, dops_ap]
 refine awp_loop 5 (min a.length b.length) (fun i S H => S 0 = vI a ∧ S 1 = vI b ∧ S 5 = .int .i64 (i : Nat) ∧ ∀ j (h1 : j < a.length) (h2 : j < b.length), j < i → a[j] = b[j]) (fun i S H h => h.2.2.1) ⟨by simp [ops_ap, dops_ap], by simp [ops_ap, dops_ap], by simp [ops_ap, dops_ap], fun j _ _ h => absurd h (Nat.not_lt_zero _)⟩ ?_
 rintro i hi S H ⟨s0, s1, s5, hb⟩
 have hbd := befI_drop hb (by omega) (by omega)
 by_cases h1 : i < a.length
 case neg =>
  have hn : ¬ (i : Int) < a.length := by omega
  have hil : i = a.length := by omega
  rw [hbd, hil, List.drop_length]
  by_cases h2 : a.length < b.length
  ·have h2' : (a.length : Int) < b.length := by omega
   rw [List.drop_eq_getElem_cons h2]
   simp [ops_ap, dops_ap, s0, s1, s5, hn, h2', befI]
  ·have h2' : ¬ (a.length : Int) < b.length := by omega
   rw [List.drop_of_length_le (by omega)]
   simp [ops_ap, dops_ap, s0, s1, s5, hn, h2', befI]
 by_cases h2 : i < b.length
 case neg =>
  have hn : ¬ (i : Int) < b.length := by omega
  have h2' : ¬ (a.length : Int) < b.length := by omega
  rw [hbd, List.drop_eq_getElem_cons h1, List.drop_of_length_le (show b.length ≤ i by omega)]
  simp [ops_ap, dops_ap, s0, s1, s5, hn, h1, h2', befI]
 have hw : IntKind.i64.wrap ((i : Int) + 1) = i + 1 := wrapI (by omega)
 by_cases he : a[i] = b[i]
 ·simp [ops_ap, dops_ap, s0, s1, s5, h1, h2, hw, he]
  refine ⟨by omega, fun j hj1 hj2 hji => ?_⟩
  by_cases e : j = i
  ·subst e; exact he
  ·exact hb j hj1 hj2 (by omega)
 ·have hbe : befI a b = decide (a[i] < b[i]) := by
   rw [hbd, List.drop_eq_getElem_cons h1, List.drop_eq_getElem_cons h2]
   show (if a[i] = b[i] then _ else decide (a[i] < b[i])) = _
   rw [if_neg he]
  have hne : (a[i] != b[i]) = true := by simpa using he
  simp [ops_ap, dops_ap, s0, s1, s5, h1, h2, hne, hbe]
theorem drop_some {s : Sheet} {l : List Int} (h : dropI s = some l) : outI s l = true ∧ goodS s l ≠ [] ∧ ∀ o, outI s o = true → goodS s o ≠ [] → l = o ∨ firstI l o := by
 unfold dropI at h
 have hp := List.find?_some h
 simp only [Bool.and_eq_true, Bool.not_eq_true', List.isEmpty_eq_false_iff] at hp
 refine ⟨hp.1, hp.2, fun o ho hg => ?_⟩
 refine find_first (queue_sorted s) h (mem_queue ho) ?_
 simp [ho, hg]
theorem drop_none {s : Sheet} (h : dropI s = none) {o : List Int} (ho : outI s o = true) : goodS s o = [] := by
 unfold dropI at h
 rw [List.find?_eq_none] at h
 have := h o (mem_queue ho)
 simpa [ho] using this
set_option maxRecDepth 20000 in
set_option maxHeartbeats 4000000 in
theorem ac11 (hG : Stable GI) (hML : ML GI) (s : Sheet) (other : List Int) : AC prog GI 11 [sheetA s, vI other] (.ret (.bool true)) := by
 have hk := ac24 hG hML
 refine AC.of_body hG hmix func11 rfl ntmps11 (by simp) (ac := c11) (by kernel_rfl) ?_
 refine awp_cut (fun S H => S 1 = vI other ∧ S 2 = .box 2 0 ∧ H 2 = some (sheetL s)) (by simp [ops_ap, dops_ap, sheetA, sheetL]) ?_
 rintro S H ⟨s1, s2, e2⟩
 simp [ops_ap, dops_ap, s1, s2, e2, sheetL]
 refine ⟨_, by kernel_rfl, ac29 hG s, fun _ => rfl, ?_⟩
 cases hsI : shortI s
 ·simp [ops_ap, dops_ap, s1, s2, e2, sheetL]
  refine ⟨_, by kernel_rfl, hk, fun _ => rfl, ?_⟩
  simp [ops_ap, dops_ap]
 have hs := shortI_slim hsI
 by_cases hol : other.length ≤ 6
 case neg =>
  have hol' : (6 : Int) < other.length := by omega
  simp [ops_ap, dops_ap, s1, s2, e2, sheetL, hol']
  refine ⟨_, by kernel_rfl, hk, fun _ => rfl, ?_⟩
  simp [ops_ap, dops_ap]
 have hol' : ¬ (6 : Int) < other.length := by omega
 simp [ops_ap, dops_ap, s1, s2, e2, sheetL, hol']
 refine ⟨_, by kernel_rfl, ac33 hG s hs, fun _ => rfl, ?_⟩
 cases hsh : sheetI s
 ·simp [ops_ap, dops_ap, s1, s2, e2, sheetL]
  refine ⟨_, by kernel_rfl, hk, fun _ => rfl, ?_⟩
  simp [ops_ap, dops_ap]
 simp [ops_ap, dops_ap, s1, s2, e2, sheetL]
 refine ⟨_, by kernel_rfl, ac53 hG s hs other (by omega), fun _ => rfl, ?_⟩
 cases hout : outI s other
 ·simp [ops_ap, dops_ap, s1, s2, e2, sheetL]
  refine ⟨_, by kernel_rfl, hk, fun _ => rfl, ?_⟩
  simp [ops_ap, dops_ap]
 simp [ops_ap, dops_ap, s1, s2, e2, sheetL]
 have a50 := ac50 hG s hs
 have a49 := ac49 hG s hs
 have a54 := ac54 hG s hs other (by omega)
 have hxs := without_sheet hsh hout
 have a49x := ac49 hG (withoutS s other) (sheet_slim hxs)
 unfold dropO at a50
 unfold fitsI at a49 a49x
 rw [hsh, if_pos rfl] at a50
 rw [hsh, Bool.true_and] at a49
 rw [hxs, Bool.true_and] at a49x
 have hxf : (goodS (withoutS s other) []).isEmpty = (goodS s other).isEmpty := by
  have := without_fits hsh hout
  rw [Bool.eq_iff_iff, List.isEmpty_iff, List.isEmpty_iff]
  by_cases h : goodS s other = []
  ·simp [h]
   by_cases h' : goodS (withoutS s other) [] = []
   ·exact h'
   ·exact absurd h (this.1 h')
  ·simp [h]; exact this.2 h
 rw [hxf] at a49x
 have ho0 := outI_nil hsh
 cases hd : dropI s with
 | none =>
  rw [hd] at a50
  rw [drop_none hd ho0] at a49
  rw [drop_none hd hout] at a49x
  refine ⟨_, by kernel_rfl, a50, by simp [boxy], ?_⟩
  simp [ops_ap, dops_ap, s1, s2, e2, sheetL]
  refine ⟨_, by kernel_rfl, a49, by simp [boxy], ?_⟩
  simp [ops_ap, dops_ap, s1, s2, e2, sheetL]
  refine ⟨_, by kernel_rfl, a54, by simp [boxy], ?_⟩
  simp [ops_ap, dops_ap, s1, s2, e2, sheetL]
  refine ⟨_, by kernel_rfl, a49x, by simp [boxy, sheetA], ?_⟩
  simp [ops_ap, dops_ap, s1, s2, e2, sheetL]
  refine ⟨_, by kernel_rfl, hk, fun _ => rfl, ?_⟩
  simp [ops_ap, dops_ap]
 | some l =>
  obtain ⟨hlo, hlg, hlf⟩ := drop_some hd
  obtain ⟨_, hll⟩ := outI_mem hlo
  have hw4 := (sheetF hsh).words
  have a53 := ac53 hG s hs l (by omega)
  rw [hlo] at a53
  have a54l := ac54 hG s hs l (by omega)
  have hls := without_sheet hsh hlo
  have a49l := ac49 hG (withoutS s l) (sheet_slim hls)
  unfold fitsI at a49l
  have hlf' : (goodS (withoutS s l) []).isEmpty = false := by
   rw [List.isEmpty_eq_false_iff]; exact (without_fits hsh hlo).2 hlg
  rw [hls, hlf'] at a49l
  have a55 := ac55 hG other l (by omega)
  have hall : (!(goodS s []).isEmpty) = decide (l.length = 0) := by
   by_cases h0 : l = []
   ·subst h0
    have : (goodS s []).isEmpty = false := by rw [List.isEmpty_eq_false_iff]; exact hlg
    rw [this]; simp
   ·have hne : l.length ≠ 0 := by simpa using h0
    have : goodS s [] = [] := by
     by_cases h : goodS s [] = []
     ·exact h
     ·rcases hlf [] ho0 h with e | e
      ·exact absurd e h0
      ·unfold firstI at e; simp at e; exact absurd e.1 h0
    rw [this]; simp [hne]
  rw [hall] at a49
  have hgt : ¬ (s.words.length : Int) < l.length := by omega
  rw [hd] at a50
  simp only at a50
  refine ⟨_, by kernel_rfl, a50, by simp [boxy], ?_⟩
  simp [ops_ap, dops_ap, s1, s2, e2, sheetL]
  refine ⟨_, by kernel_rfl, a49, by simp [boxy], ?_⟩
  simp [ops_ap, dops_ap, s1, s2, e2, sheetL]
  refine ⟨_, by kernel_rfl, a54, by simp [boxy], ?_⟩
  simp [ops_ap, dops_ap, s1, s2, e2, sheetL]
  refine ⟨_, by kernel_rfl, a49x, by simp [boxy, sheetA], ?_⟩
  have hl00 : ((l.length : Int) == 0) = decide (l = []) := by
   rw [Bool.eq_iff_iff]; simp
  cases hoe : (goodS s other).isEmpty
  ·have hog : goodS s other ≠ [] := by rw [← List.isEmpty_eq_false_iff]; exact hoe
   have hrel := hlf other hout hog
   simp [ops_ap, dops_ap, s1, s2, e2, sheetL, hgt, hl00]
   refine ⟨_, by kernel_rfl, a53, by simp [boxy], ?_⟩
   simp [ops_ap, dops_ap, s1, s2, e2, sheetL]
   refine ⟨_, by kernel_rfl, a54l, by simp [boxy], ?_⟩
   simp [ops_ap, dops_ap, s1, s2, e2, sheetL]
   refine ⟨_, by kernel_rfl, a49l, by simp [boxy, sheetA], ?_⟩
   by_cases hlen : l.length < other.length
   ·have hlen' : (l.length : Int) < other.length := by omega
    simp [ops_ap, dops_ap, s1, s2, e2, sheetL, hlen']
    refine ⟨_, by kernel_rfl, hk, fun _ => rfl, ?_⟩
    simp [ops_ap, dops_ap]
   have hbe : other.length = l.length ∧ befI other l = false := by
    rcases hrel with e | e
    ·subst e; exact ⟨rfl, befI_irrefl _⟩
    ·rcases e with e | e
     ·exact absurd e hlen
     ·exact ⟨e.1.symm, befI_asymm e.2⟩
   rw [hbe.2] at a55
   have hlen' : ¬ (l.length : Int) < other.length := by omega
   have heq : ((other.length : Int) == l.length) = true := by simp; omega
   simp [ops_ap, dops_ap, s1, s2, e2, sheetL, hlen', heq]
   refine ⟨_, by kernel_rfl, a55, by simp [boxy], ?_⟩
   simp [ops_ap, dops_ap, s1, s2, e2, sheetL]
   refine ⟨_, by kernel_rfl, hk, fun _ => rfl, ?_⟩
   simp [ops_ap, dops_ap]
  ·simp [ops_ap, dops_ap, s1, s2, e2, sheetL, hgt, hl00]
   refine ⟨_, by kernel_rfl, a53, by simp [boxy], ?_⟩
   simp [ops_ap, dops_ap, s1, s2, e2, sheetL]
   refine ⟨_, by kernel_rfl, a54l, by simp [boxy], ?_⟩
   simp [ops_ap, dops_ap, s1, s2, e2, sheetL]
   refine ⟨_, by kernel_rfl, a49l, by simp [boxy, sheetA], ?_⟩
   simp [ops_ap, dops_ap, s1, s2, e2, sheetL]
   refine ⟨_, by kernel_rfl, hk, fun _ => rfl, ?_⟩
   simp [ops_ap, dops_ap]
end Go.Proofs.Tryz
namespace Go.Proofs.YtjdgdinalodjfaaGreatDoor
open Go Go.AL Go.ChangeShapes Go.WideShapes Go.ChangeAt Go.RowKit Go.Proofs.Tryz
set_option maxRecDepth 100000
namespace Less
abbrev row : OpenClaim := Rows.letterLessRow
abbrev spec : ChangeSpec := Rows.letterLessSpec
theorem call (W : World) (base : Nat) (args : Array Value) {H : Type} {enc : TypeId × Value → H} (ds : List (DataW H)) (p : List MemPlace) (hG : GI W) (hval : ∀ (j : Nat) t v, Tryz.f11.params[j]? = some t → args[j]? = some v → Value.okWide Tryz.prog W .any base t v)
  (hA : DataW.TrodAll enc Tryz.prog W 0 (fun _ => true) true Tryz.f11.params.toList args.toList ds p) : Calls Tryz.prog 11 args W fun e W' => e = .returned (.bool true) ∧ Below W.heap.size W W' := by
 rw [Tryz.params11] at hA hval
 obtain ⟨v0, vs0, d0, ds0, p0, q0, e0, rfl, rfl, h0, hr1⟩ := trodAll_cons hA
 obtain ⟨v1, vs1, d1, ds1, p1, q1, e1, rfl, rfl, h1, hr2⟩ := trodAll_cons hr1
 obtain ⟨rfl, rfl, rfl⟩ := trodAll_nil hr2
 obtain rfl : args = #[v0, v1] := by
  apply Array.toList_inj.1; rw [e0, e1]
 obtain ⟨x0, g0, a0⟩ := open_sheet (hval 0 28 v0 rfl rfl) h0
 obtain ⟨x1, g1, a1⟩ := open_ints (hval 1 22 v1 rfl rfl) h1
 refine calls_of (ac11 gi_stable (fun _ h => h) x0 x1) hG rfl fun i h h' => ?_
 match i, h with
 | 0, _ => exact .data _ _ a0
 | 1, _ => exact .data _ _ a1
theorem w1 (os : Os) : ((World.laidAll Tryz.prog os row.laid).forCall (fun _ _ => 0) ⟨#[], #[.agg #[.slice none 0 0, .slice none 0 0, .int .i64 0, .int .i64 0, .int .i64 0, .int .i64 0, .int .i64 0, .slice none 0 0, .int .i64 0, .int .i64 0], .slice none 0 0], []⟩).Shaped Tryz.checked.prog :=
 World.shaped_of_ZipB (by kernel_rfl) (by kernel_rfl)
theorem lifted (os : Os) (started : os.Started) (H : Type) (enc : TypeId × Value → H) :
  ReturnsInHanded {} Tryz.checked os 11 .any (fun w args => (spec.pre enc Tryz.prog Tryz.f11 row.domain false w args ∧ laidMetH Tryz.prog row.laid w) ∧ sizedMet enc Tryz.prog Tryz.f11 (OpenSpec.ofChange spec) false w args)
   (spec.post enc Tryz.prog Tryz.f11 false true false false) := by
 refine lifted_of 11 Tryz.f11 Tryz.func11 (by kernel_rfl) (by kernel_rfl) spec rfl ?_ ?_ os started _ 12 (w1 os) (by kernel_rfl) (by kernel_rfl) (by kernel_rfl) ?_ (fun W base args ds p => call W base args ds p)
 ·intro ds hl
  rw [show Tryz.f11.params.size = 2 by kernel_rfl] at hl
  match ds, hl with
  | [d0, d1], _ => rfl
 ·rw [Tryz.params11]
  intro t ht
  have : t = 28 ∨ t = 22 := by simpa using ht
  rcases this with rfl | rfl
  all_goals exact ⟨by kernel_rfl, of_decide_eq_true (by kernel_rfl)⟩
 ·rw [MakeChecks.laidMetH_plain _ _ _ (by kernel_rfl)]; exact laidMet_laidAll _ (by kernel_rfl) (by kernel_rfl)
theorem f_named : Tryz.prog.funcNamed "mahlstick/mahlsticklaw01.LetterLess" = some 11 := by kernel_rfl
theorem f_inPlace : (row.inPlace == Tryz.prog.inPlace 11) = true := by kernel_rfl
theorem f_unfollowed : (row.unfollowed == Tryz.prog.unfollowed 11) = true := by kernel_rfl
theorem f_recurses : (row.recurses == Tryz.prog.recurses 11) = true := by kernel_rfl
theorem f_vars : (row.named == Tryz.prog.varsNamed 11) = true := by kernel_rfl
theorem joined : joinedFacts Tryz.prog 11 Tryz.f11 spec row = true :=
 joined_of ⟨rfl, rfl, rfl, rfl, rfl, rfl⟩ (by kernel_rfl) (by kernel_rfl) (by kernel_rfl) f_inPlace f_unfollowed f_recurses f_vars (by kernel_rfl) (by kernel_rfl) (by kernel_rfl) (by kernel_rfl)
theorem instanceOf : Tryz.f11.isInstance Tryz.prog row.origin row.targs := of_decide_eq_true (by kernel_rfl)
theorem wrapperOf : Tryz.f11.isWrapper Tryz.prog row.wrapper row.mainSum := by
 unfold Func.isWrapper
 rw [if_neg (by decide +kernel)]
 exact ⟨rfl, rfl⟩
theorem holds : Rows.LetterLessSaid :=
 OpenClaim.holds_of_wide 11 Tryz.f11 rfl rfl rfl rfl rfl rfl rfl ⟨rfl, rfl, rfl, rfl, rfl⟩ rfl rfl rfl rfl rfl f_named Tryz.func11 joined instanceOf wrapperOf (fun os started H enc _ => lifted os started H enc)
theorem f_wf : row.wfByText (OpenSpec.ofChange spec) = true := by kernel_rfl
theorem f_goes : false = row.goesBy Tryz.prog := by kernel_rfl
theorem f_stand : ([28, 22].all fun u => !Tryz.prog.wantsStandIn u) = true := by kernel_rfl
theorem f_main : Tryz.prog.mainIs = some (true, "c6c35c26350f8f1001e286baba07dbfbfaca16fe3311917b4f7043a2b45b2948".toList) := by rw [p_mainIs, p_sum]
theorem card : Rows.LetterLessCardSaid :=
 Claim7.holds_tied_plain_at .later [] [.data, .data, .data, .data, .pinned] true (true, "c6c35c26350f8f1001e286baba07dbfbfaca16fe3311917b4f7043a2b45b2948") true holds (fun _ h => by cases h) f_wf (fun _ h => by cases h) letterLess_row_tie rfl ⟨rfl, rfl⟩ f_main rfl
  (fun f fn hf hfn => by
   obtain rfl : f = 11 := Option.some.inj (f_named.symm.trans hf) |>.symm
   obtain rfl : fn = Tryz.f11 := (Option.some.inj (Tryz.func11.symm.trans hfn)).symm
   refine ⟨p_looks, fun j t ht => ?_⟩
   rw [Tryz.params11] at ht
   have hm : t ∈ [28, 22] := by
    simpa using Array.mem_of_getElem? ht
   exact (show Tryz.prog.wantsStandIn t = false by simpa using List.all_eq_true.1 f_stand t hm))
  f_goes
end Less
#print axioms Less.card
end Go.Proofs.YtjdgdinalodjfaaGreatDoor
