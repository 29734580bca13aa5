/-
  The statement's function LetterCutOff returns true and leaves its arguments as they are, for every sheet and number; no condition. The texts before this one hold the layer of abstract values, the code of the functions that are reached, and their contracts.
-/
import Derived.Test.YtjdgdinalodjfaaGreatDoorA3
import Derived.Test.YtjdgdinalodjfaaGreatDoorP1
import Derived.Test.YtjdgdinalodjfaaGreatDoorQ1
set_option linter.all false
set_option linter.unusedVariables false
set_option linter.unusedSimpArgs false
set_option linter.deprecated false
namespace Go.AL
theorem awpF_go {P : Program} {GI : World → Prop} {i k : Nat} {x y : ACode} {Q : AExit → Slots → Boxes → Prop} {S : Slots} {H : Boxes} (K : Slots → Boxes → Prop) (hx : awp P GI x (assignQ K) S H) (hy : ∀ S' H', K S' H' → awpF P GI i k y Q S' H') : awpF P GI i (k + 1) (.seq x y) Q S H := by
 refine awpF_cut K (awp_mono x (fun e S H h => ?_) hx) (fun h => awp_mono x h) hy
 cases e <;> first | exact ⟨rfl, h⟩ | exact h.elim
end Go.AL
namespace Go.Proofs.Tryz
open Go Go.AL Go.RowKit Go.Proofs
attribute [local simp] awp_all qs_all ops_all dops_all ops_nil dops_nil ops_call ops_callv ops_alloc ops_box dops_call dops_alloc kO_eq kD_eq awanted apure ev Eff.S Eff.H tmpOf upd putD AL.start AV.dem AV.cells AV.storable AV.scells splice scrub abin loadA HR.okB post ares aress ares1 AV.out AV.isData ints_len ints_get fz fz1 AV.vw AV.vw1 boxy vI int undefA assignQ thenQ blockQ seqQ panQ prol prolH allocOf
variable {GI : World → Prop}
theorem frontL_vw (s : Sheet) : (frontL s).map AV.vw1 = frontL s := by
 simp [frontL, sheetL, spaces, vI, ints, AV.vw1]
theorem frontL_len (s : Sheet) : (frontL s).length = 11 := rfl
theorem frontL_take (s : Sheet) : AV.agg ((frontL s).take 10 |>.map AV.vw1) = sheetA s := by
 simp [frontL, sheetL, sheetA, vI, ints, AV.vw1]
theorem sheet_slim {s : Sheet} (h : sheetI s = true) : Slim s := by
 have hF := sheetF h
 refine ⟨by have := hF.wlen; omega, by have := hF.plen; omega, by have := hF.words; omega, fun w hw => ?_, fun w hw => ?_⟩
 ·have := (wordF h hw).len6; omega
 ·have f := wordF h hw
  have := rises_bound f.cuts (by have := f.len1; omega)
  have := f.len6
  omega
theorem it_set (hG : Stable GI) (s : Sheet) (hsh : sheetI s = true) (out : List Int) (ho : out.length ≤ 1000) : IterC prog GI 144 [.ref (frontL s), .ref [vI out]] ((allS s out s.rows.toNat).map (settingA out)) := by
 have hr := (sheetF hsh).rows
 have he := endsL_len hsh out
 refine it144 hG (oE := .view) (all := endsL s out) (rows := s.rows.toNat) (by omega) (by omega) ho (frontL_len s) ?_ ?_ ?_
 ·intro x hx
  simp [frontL, sheetL] at hx
  rcases hx with rfl | rfl | rfl | rfl | rfl | rfl | rfl | rfl | rfl | rfl <;> exact ⟨rfl, rfl, rfl⟩
 ·show some (AV.int .i64 s.rows) = some (.int .i64 (s.rows.toNat : Nat))
  rw [Int.toNat_of_nonneg (by omega)]
 ·rw [frontL_take]
  exact ac145 hG s (sheet_slim hsh) out (by omega)
theorem allS_good {s : Sheet} (hsh : sheetI s = true) {out : List Int} (hout : outI s out = true) {es : List End} (h : es ∈ allS s out s.rows.toNat) : setR s out es = true ∧ es.length ≤ 3 := by
 have hr := (sheetF hsh).rows
 obtain ⟨h1, h2⟩ := (mem_allS hsh hout).1 h
 exact ⟨h1, by omega⟩
theorem ac86s (hG : Stable GI) (s : Sheet) (hsh : sheetI s = true) (out : List Int) (ho : out.length ≤ 1000) (hout : outI s out = true) {es : List End} (h : es ∈ allS s out s.rows.toNat) : AC prog GI 86 [.agg ((frontL s).map AV.vw1), settingA out es, .int .i64 0] (.ret (.bool (fitI s out es 0))) := by
 obtain ⟨h1, h2⟩ := allS_good hsh hout h
 rw [frontL_vw]
 exact ac86 hG s hsh out (by omega) es (by omega) (good_of hsh h1) (by omega) (by omega)
theorem ac97f (hG : Stable GI) (s : Sheet) (hsh : sheetI s = true) (out : List Int) (ho : out.length ≤ 1000) (hout : outI s out = true) : AC prog GI 97 [frontA s, vI out] (.ret (.slice .view ((goodS s out).map (settingA out)))) := by
 have hr := (sheetF hsh).rows
 have hl := allS_len hsh out (m := s.rows.toNat) (by omega)
 refine AC.as_view (o := if (goodS s out).isEmpty then .nil else .view) ?_
 exact ac97 hG (frontL_len s) (by
  intro x hx
  simp [frontL, sheetL] at hx
  rcases hx with rfl | rfl | rfl | rfl | rfl | rfl | rfl | rfl | rfl | rfl | rfl <;> rfl) (by omega) (fun es h => by have := (allS_good hsh hout h).2; omega) (by rw [frontL_vw]; exact it_set hG s hsh out ho) (fun es h => ac86s hG s hsh out ho hout h)
theorem ac107f (hG : Stable GI) (s : Sheet) (hsh : sheetI s = true) (out : List Int) (ho : out.length ≤ 1000) (hout : outI s out = true) : AC prog GI 107 [frontA s, vI out] (.ret (.bool (!(goodS s out).isEmpty))) := by
 have e : (!(goodS s out).isEmpty) = (allS s out s.rows.toNat).any fun es => fitI s out es 0 := by
  unfold goodS
  rw [Bool.eq_iff_iff]
  simp [List.filter_eq_nil_iff]
 rw [e]
 exact ac107 hG (frontL_len s) (by rw [frontL_vw]; exact it_set hG s hsh out ho) (fun es h => ac86s hG s hsh out ho hout h)
theorem ac99 (hG : Stable GI) (s : Sheet) (hsh : sheetI s = true) {a b : List End} (ha : setR s [] a = true) (hb : setR s [] b = true) (hal : a.length ≤ 10) (hbl : b.length ≤ 10) : AC prog GI 99 [settingA [] a, settingA [] b, .ref (frontL s)] (.ret (.bool (betterE s a b))) := by
 have ga := ac87 hG s hsh [] (by simp) a (by omega) (good_of hsh ha)
 have gb := ac87 hG s hsh [] (by simp) b (by omega) (good_of hsh hb)
 refine AC.of_body hG hmix func99 rfl ntmps99 (by simp) (ac := c99) (by kernel_rfl) ?_
 refine awp_cut (fun S H => S 2 = .ref (frontL s) ∧ S 3 = .box 3 0 ∧ S 4 = .box 4 0 ∧ H 3 = some [vI [], .slice .view (a.map endA)] ∧ H 4 = some [vI [], .slice .view (b.map endA)]) (by simp [settingA, endsA]) ?_
 rintro S H ⟨s2, s3, s4, e3, e4⟩
 refine awp_cut (fun S H => S 2 = .ref (frontL s) ∧ S 3 = .box 3 0 ∧ S 4 = .box 4 0 ∧ H 3 = some [vI [], .slice .view (a.map endA)] ∧ H 4 = some [vI [], .slice .view (b.map endA)] ∧ S 6 = .int .i64 a.length ∧ S 7 = .int .i64 b.length) (by simp [s2, s3, s4, e3, e4]) ?_
 clear s2 s3 s4 e3 e4 S H
 rintro S H ⟨s2, s3, s4, e3, e4, s6, s7⟩
 unfold betterE betterB
 by_cases hlt : a.length < b.length
 ·have hlt' : (a.length : Int) < b.length := by omega
  simp [s2, s3, s4, e3, e4, s6, s7, hlt, hlt']
 by_cases he : a.length = b.length
 case neg =>
  have hlt' : ¬ (a.length : Int) < b.length := by omega
  have he' : ((a.length : Int) == b.length) = false := by simp; omega
  have he2 : (a.length == b.length) = false := by simpa using he
  simp [s2, s3, s4, e3, e4, s6, s7, hlt, hlt', he', he2]
 simp [s2, s3, s4, e3, e4, s6, s7, he, frontL, sheetL, spaces]
 refine ⟨_, by kernel_rfl, ga, by simp [boxy], ?_⟩
 simp [s2, s3, s4, e3, e4, s6, s7, he, frontL, sheetL, spaces]
 refine ⟨_, by kernel_rfl, gb, by simp [boxy], ?_⟩
 simp [s2, s3, s4, e3, e4, s6, s7, he, frontL, sheetL, spaces]
theorem set_ok2 (l : List (List End)) : elemsOK 2 (l.map (settingA [])) = true := elems_map fun a => ⟨rfl, rfl⟩
theorem bestL_take {α : Type} (better : α → α → Bool) (x : α) {l : List α} {i : Nat} (h : i < l.length) : bestL better x (l.take (i + 1)) = if better l[i] (bestL better x (l.take i)) then l[i] else bestL better x (l.take i) := by
 unfold bestL
 rw [List.take_succ_eq_append_getElem h, List.foldl_append]; rfl
theorem bestL_mem {α : Type} (better : α → α → Bool) : ∀ (l : List α) (x : α), bestL better x l ∈ x :: l
 | [], x => List.mem_cons_self
 | a :: l, x => by
  show bestL better (if better a x then a else x) l ∈ _
  have := bestL_mem better l (if better a x then a else x)
  rcases List.mem_cons.1 this with e | h
  ·rw [e]; split <;> simp
  ·exact List.mem_cons_of_mem _ (List.mem_cons_of_mem _ h)
set_option maxHeartbeats 1000000 in
theorem ac98 (hG : Stable GI) (s : Sheet) (hsh : sheetI s = true) (x : List End) (l : List (List End)) (hl : l.length < 100000) (h : ∀ a ∈ x :: l, setR s [] a = true ∧ a.length ≤ 10) : AC prog GI 98 [.slice .view ((x :: l).map (settingA [])), .func (.func 99) [] [.ref (frontL s)]] (.ret (settingA [] (bestL (betterE s) x l))) := by
 have hok := set_ok2 (x :: l)
 obtain ⟨it, hit, hsz⟩ := info_size (P := prog) (t := 31) (s := 2) (by kernel_rfl)
 have hT : List.take l.length (l.map (settingA [])) = l.map (settingA []) := List.take_of_length_le (by simp)
 have hm : (x :: l).map (settingA []) = settingA [] x :: l.map (settingA []) := rfl
 have hscr : ∀ d, scrub1 d (.ref (frontL s)) = false := fun d => rfl
 have hsx : ∀ a, settingA [] a = .agg [vI [], .slice .view (a.map endA)] := fun _ => rfl
 refine AC.of_body hG hmix func98 rfl ntmps98 (by simp) (ac := c98) (by kernel_rfl) ?_
 refine awp_cut (fun S H => S 4 = .box 4 0 ∧ S 0 = .slice .view (settingA [] x :: l.map (settingA [])) ∧ S 1 = .func (.func 99) [] [.ref (frontL s)] ∧ H 4 = some [.slice .nil [], .slice .nil []]) (by simp [hscr]) ?_
 rintro S H ⟨s4, s0, s1, e4⟩
 refine awp_cut (fun S H => S 4 = .box 4 0 ∧ S 0 = .slice .view (settingA [] x :: l.map (settingA [])) ∧ S 1 = .func (.func 99) [] [.ref (frontL s)] ∧ H 4 = some [.slice .nil [], .slice .nil []] ∧ S 5 = .box 5 0 ∧ H 5 = some [vI [], .slice .view (x.map endA)]) (by simp [s4, s0, s1, e4, hsx, hscr]) ?_
 clear s4 s0 s1 e4 S H
 rintro S H ⟨s4, s0, s1, e4, s5, e5⟩
 rw [hm] at hok
 refine awp_cut (fun S H => S 4 = .box 4 0 ∧ H 4 = some [.slice .nil [], .slice .nil []] ∧ S 5 = .box 5 0 ∧ H 5 = some [vI [], .slice .view ((bestL (betterE s) x l).map endA)]) ?_ ?_
 ·have h1 : (1 : Int) ≤ l.length + 1 := by omega
  simp [s4, s0, s1, e4, s5, e5, bound, hok, h1]
  refine awp_loop 14 l.length (fun i S H => S 1 = .func (.func 99) [] [.ref (frontL s)] ∧ S 4 = .box 4 0 ∧ H 4 = some [.slice .nil [], .slice .nil []] ∧ S 5 = .box 5 0 ∧ H 5 = some [vI [], .slice .view ((bestL (betterE s) x (l.take i)).map endA)] ∧ S 12 = .slice .view (l.map (settingA [])) ∧ S 13 = .int .i64 l.length ∧ S 14 = .int .i64 (i : Nat)) (fun i S H h => h.2.2.2.2.2.2.2) ⟨by simp [s1], by simp [s4], by simp [e4], by simp [s5], by simp [e5, bestL], by simp [hT], by simp, by simp⟩ ?_
  clear s4 s0 s1 e4 s5 e5 S H
  rintro i hi S H ⟨s1, s4, e4, s5, e5, s12, s13, s14⟩
  by_cases hlt : i < l.length
  case neg =>
   have hil : i = l.length := by omega
   subst hil
   rw [List.take_of_length_le (Nat.le_refl _)] at e5
   simp [s1, s4, e4, s5, e5, s12, s13, s14]
  have hw : IntKind.i64.wrap ((i : Int) + 1) = i + 1 := wrapI (by omega)
  have hmem := bestL_mem (betterE s) (l.take i) x
  have hb := h (bestL (betterE s) x (l.take i)) (by
   rcases List.mem_cons.1 hmem with e | e
   ·rw [e]; exact List.mem_cons_self
   ·exact List.mem_cons_of_mem _ (List.mem_of_mem_take e))
  have hi' := h l[i] (List.mem_cons_of_mem _ (List.getElem_mem hlt))
  have a99 := ac99 hG s hsh hi'.1 hb.1 hi'.2 hb.2
  rw [bestL_take _ _ hlt]
  generalize bestL (betterE s) x (l.take i) = o at e5 a99 ⊢
  simp [s1, s4, e4, s5, e5, s12, s13, s14, hlt, hsx, hscr]
  refine ⟨_, by kernel_rfl, a99, by simp [boxy], ?_⟩
  cases betterE s l[i] o
  ·simp [s1, s4, e4, s5, e5, s12, s13, s14, hlt, hsx, hscr, hw]
  ·simp [s1, s4, e4, s5, e5, s12, s13, s14, hlt, hsx, hscr, hw]
 clear s4 s0 s1 e4 s5 e5 S H
 rintro S H ⟨s4, e4, s5, e5⟩
 simp [s4, e4, s5, e5, hsx, hit, hsz, aggT]
def setO (s : Sheet) : List AV := if sheetI s then match goodS s [] with
 | [] => [settingA [] [], .int .i64 0, .int .i64 5]
 | x :: l => [settingA [] (bestL (betterE s) x l), .int .i64 (mostI s [] (bestL (betterE s) x l)), .int .i64 0]
 else [settingA [] [], .int .i64 0, .int .i64 2]
theorem good_ok {s : Sheet} (hsh : sheetI s = true) {a : List End} (h : a ∈ goodS s []) : setR s [] a = true ∧ a.length ≤ 3 ∧ fitI s [] a 0 = true := by
 have hr := (sheetF hsh).rows
 obtain ⟨h1, h2⟩ := (mem_goodS hsh (outI_nil hsh)).1 h
 refine ⟨h1, ?_, h2⟩
 unfold fitI at h2
 simp only [Bool.and_eq_true, decide_eq_true_eq] at h2
 omega
theorem ac40_no (hG : Stable GI) (s : Sheet) (hs : Slim s) (hno : sheetI s = false ∨ goodS s [] = []) : AC prog GI 40 [sheetA s] (.ret (.tup (setO s))) := by
 obtain ⟨it, hit, hsz⟩ := info_size (P := prog) (t := 31) (s := 2) (by kernel_rfl)
 have hsx : ∀ a, settingA [] a = .agg [vI [], .slice .view (a.map endA)] := fun _ => rfl
 refine AC.of_body hG hmix func40 rfl ntmps40 (by simp) (ac := c40) (by kernel_rfl) ?_
 refine awp_cut (fun S H => S 1 = .box 1 0 ∧ S 2 = .box 2 0 ∧ H 1 = some (sheetL s) ∧ H 2 = some [.slice .nil [], .slice .nil []]) (by simp [sheetA, sheetL]) ?_
 rintro S H ⟨s1, s2, e1, e2⟩
 unfold setO
 cases hsh : sheetI s
 ·simp [s1, s2, e1, e2, sheetL]
  refine ⟨_, by kernel_rfl, ac96 hG s hs, fun _ => rfl, ?_⟩
  rw [hsh]
  simp [s1, s2, e1, e2, sheetL, hit, hsz, aggT, hsx, fillA, ints]
 have hg : goodS s [] = [] := by
  rcases hno with h | h
  ·rw [h] at hsh; cases hsh
  ·exact h
 simp [s1, s2, e1, e2, sheetL]
 refine ⟨_, by kernel_rfl, ac96 hG s hs, fun _ => rfl, ?_⟩
 rw [hsh]
 simp [s1, s2, e1, e2, sheetL]
 refine ⟨_, by kernel_rfl, ac80f hG s hsh, by simp [boxy], ?_⟩
 simp [s1, s2, e1, e2, frontA, frontL, sheetL, spaces]
 refine ⟨_, by kernel_rfl, ac97f hG s hsh [] (by simp) (outI_nil hsh), by simp [boxy], ?_⟩
 rw [hg]
 simp [s1, s2, e1, e2, hit, hsz, aggT, hsx, fillA, ints]
set_option maxHeartbeats 1000000 in
theorem ac40 (hG : Stable GI) (s : Sheet) (hs : Slim s) : AC prog GI 40 [sheetA s] (.ret (.tup (setO s))) := by
 cases hsh : sheetI s with
 | false => exact ac40_no hG s hs (.inl hsh)
 | true =>
 cases hg : goodS s [] with
 | nil => exact ac40_no hG s hs (.inr hg)
 | cons x l =>
 obtain ⟨it, hit, hsz⟩ := info_size (P := prog) (t := 31) (s := 2) (by kernel_rfl)
 have hsx : ∀ a, settingA [] a = .agg [vI [], .slice .view (a.map endA)] := fun _ => rfl
 have hl := goodS_len hsh []
 rw [hg] at hl
 simp at hl
 have hall : ∀ a ∈ x :: l, setR s [] a = true ∧ a.length ≤ 10 := fun a ha => by
  have := good_ok hsh (a := a) (by rw [hg]; exact ha)
  exact ⟨this.1, by omega⟩
 have a98 := ac98 hG s hsh x l (by omega) hall
 have hb := hall _ (bestL_mem (betterE s) l x)
 have a87 := ac87 hG s hsh [] (by simp) (bestL (betterE s) x l) (by omega) (good_of hsh hb.1)
 have hn0 : ((l.length : Int) + 1 == 0) = false := by simp; omega
 have ho : setO s = [settingA [] (bestL (betterE s) x l), .int .i64 (mostI s [] (bestL (betterE s) x l)), .int .i64 0] := by
  unfold setO
  rw [hsh, if_pos rfl, hg]
 rw [ho]
 refine AC.of_bodyZ hG hmix 5 5 func40 rfl ntmps40 (by simp) (ac := c40) (by kernel_rfl) ?_
 refine awpF_go (fun S H => S 1 = .box 1 0 ∧ S 2 = .box 2 0 ∧ H 1 = some (sheetL s) ∧ H 2 = some [.slice .nil [], .slice .nil []]) (by simp [sheetA, sheetL]) ?_
 rintro S H ⟨s1, s2, e1, e2⟩
 refine awpF_go (fun S H => S 1 = .box 1 0 ∧ S 2 = .box 2 0 ∧ H 1 = some (sheetL s) ∧ H 2 = some [.slice .nil [], .slice .nil []]) ?_ ?_
 ·simp [s1, s2, e1, e2, sheetL]
  refine ⟨_, by kernel_rfl, ac96 hG s hs, fun _ => rfl, ?_⟩
  rw [hsh]
  simp [s1, s2, e1, e2, sheetL]
 clear s1 s2 e1 e2 S H
 rintro S H ⟨s1, s2, e1, e2⟩
 refine awpF_go (fun S H => S 2 = .box 2 0 ∧ H 2 = some [.slice .nil [], .slice .nil []] ∧ S 5 = .box 5 0 ∧ H 5 = some (frontL s)) ?_ ?_
 ·simp [s1, s2, e1, e2, sheetL]
  refine ⟨_, by kernel_rfl, ac80f hG s hsh, by simp [boxy], ?_⟩
  simp [s1, s2, e1, e2, frontA, frontL, sheetL, spaces]
 clear s1 s2 e1 e2 S H
 rintro S H ⟨s2, e2, s5, e5⟩
 refine awpF_go (fun S H => S 2 = .box 2 0 ∧ H 2 = some [.slice .nil [], .slice .nil []] ∧ S 5 = .box 5 0 ∧ H 5 = some (frontL s) ∧ S 6 = .slice .view ((x :: l).map (settingA []))) ?_ ?_
 ·have a97 := ac97f hG s hsh [] (by simp) (outI_nil hsh)
  rw [hg] at a97
  simp [s2, e2, s5, e5, frontL, sheetL, spaces]
  refine ⟨_, by kernel_rfl, a97, by simp [boxy], ?_⟩
  simp [s2, e2, s5, e5, frontL, sheetL, spaces]
 clear s2 e2 s5 e5 S H
 rintro S H ⟨s2, e2, s5, e5, s6⟩
 refine awpF_go (fun S H => S 2 = .box 2 0 ∧ H 2 = some [.slice .nil [], .slice .nil []] ∧ S 5 = .box 5 0 ∧ H 5 = some (frontL s) ∧ S 6 = .slice .view ((x :: l).map (settingA []))) (by simp [s2, e2, s5, e5, s6, hn0]) ?_
 clear s2 e2 s5 e5 s6 S H
 rintro S H ⟨s2, e2, s5, e5, s6⟩
 refine awpF_zero (frontL s) (fun S H => S 2 = .box 2 0 ∧ H 2 = some [.slice .nil [], .slice .nil []] ∧ S 5 = .ref (frontL s) ∧ S 6 = .slice .view ((x :: l).map (settingA []))) e5 ⟨by simp [s2, frz], by simp [upd, e2], by simp [s5, frz, frontL, sheetL, spaces, AV.dem, vI], by simp [s6, frz, scrub]⟩ ?_
 clear s2 e2 s5 e5 s6 S H
 rintro S H ⟨s2, e2, s5, s6⟩
 refine awp_cut (fun S H => S 2 = .box 2 0 ∧ H 2 = some [.slice .nil [], .slice .nil []] ∧ S 5 = .ref (frontL s) ∧ S 7 = .box 7 0 ∧ H 7 = some [vI [], .slice .view ((bestL (betterE s) x l).map endA)]) ?_ ?_
 ·simp [s2, e2, s5, s6]
  refine ⟨_, by kernel_rfl, a98, by simp [boxy, boxy1], ?_⟩
  simp [s2, e2, s5, s6, hsx]
 clear s2 e2 s5 s6 S H
 rintro S H ⟨s2, e2, s5, s7, e7⟩
 simp [s2, e2, s5, s7, e7, frontL, sheetL, spaces]
 refine ⟨_, by kernel_rfl, a87, by simp [boxy], ?_⟩
 simp [s2, e2, s5, s7, e7, hit, hsz, aggT, hsx]
end Go.Proofs.Tryz
namespace Go.AL
section
variable {P : Program} {GI : World → Prop}
theorem appVL {S : Slots} {H : Boxes} {t e size cap i j : Nat} {l vs : List AV} {o : Ow} (hi : S i = grow e l) (hj : S j = .slice o vs) (hv : elemsOK size vs = true) (hl : elemsOK size l = true) (hn : l.length + vs.length < 1048576) :
  ∃ dm, (dm = none ∨ dm = some i) ∧ apure S H (.append t e size cap (.t i) (.t j)) = some { v := grow e (l ++ vs), dm := dm } := by
 have ei : ev S (.t i) = grow e l := hi
 have ej : ev S (.t j) = .slice o vs := hj
 cases l with
 | nil =>
  refine ⟨none, .inl rfl, ?_⟩
  simp only [apure]
  rw [ei, ej, grow_nil]
  have hn' : vs.length < 1048576 := by simpa using hn
  simp [hv, grow, hn']
 | cons x l =>
  refine ⟨some i, .inr rfl, ?_⟩
  have hn' : l.length + 1 + vs.length < 1048576 := by simpa using hn
  simp only [apure]
  rw [ei, ej]
  simp [grow, hv, hl, tmpOf, hn']
theorem dops_appL {K : Slots → Boxes → Prop} {S : Slots} {H : Boxes} {t e size cap d i j : Nat} {rest : List AOpr} (l vs : List AV) (o : Ow) (hi : S i = grow e l) (hj : S j = .slice o vs) (hv : elemsOK size vs = true) (hl : elemsOK size l = true) (hn : l.length + vs.length < 1048576)
  (h : ∀ S', S' d = grow e (l ++ vs) → (∀ k, k ≠ d → k ≠ i → S' k = S k) → dops P GI rest K S' H) : dops P GI (⟨some d, none, .append t e size cap (.t i) (.t j)⟩ :: rest) K S H := by
 obtain ⟨dm, hdm, hap⟩ := appVL (t := t) (cap := cap) (H := H) hi hj hv hl hn
 obtain ⟨k1, k2⟩ := eff_keep (S := S) (d := d) hdm (grow e (l ++ vs))
 rw [dops_ap]
 simp only [awanted, hap]
 exact h _ k1 k2
end
end Go.AL
namespace Go.Proofs.Tryz
open Go Go.AL Go.RowKit Go.Proofs
attribute [local simp] awp_all qs_all ops_allN dops_allN ops_nil dops_nil ops_call ops_callv ops_alloc ops_box dops_call dops_alloc kO_eq kD_eq awanted apure ev Eff.S Eff.H tmpOf upd putD AL.start AV.dem AV.cells AV.storable AV.scells splice scrub abin loadA HR.okB post ares aress ares1 AV.out AV.isData ints_len ints_get fz fz1 AV.vw AV.vw1 boxy vI int undefA assignQ thenQ blockQ seqQ panQ prol prolH allocOf
variable {GI : World → Prop}
end Go.Proofs.Tryz
namespace Go.Proofs.Tryz
open Go Go.AL Go.RowKit Go.Proofs
attribute [local simp] awp_all qs_all ops_allN dops_allN ops_nil dops_nil ops_call ops_callv ops_alloc ops_box dops_call dops_alloc kO_eq kD_eq awanted apure ev Eff.S Eff.H tmpOf upd putD AL.start AV.dem AV.cells AV.storable AV.scells splice scrub abin loadA HR.okB post ares aress ares1 AV.out AV.isData ints_len ints_get fz fz1 AV.vw AV.vw1 boxy vI int undefA assignQ thenQ blockQ seqQ panQ prol prolH allocOf
variable {GI : World → Prop}
end Go.Proofs.Tryz
namespace Go.Proofs.Tryz
open Go Go.AL Go.RowKit Go.Proofs
attribute [local simp] awp_all qs_all ops_allN dops_allN ops_nil dops_nil ops_call ops_callv ops_alloc ops_box dops_call dops_alloc kO_eq kD_eq awanted apure ev Eff.S Eff.H tmpOf upd putD AL.start AV.dem AV.cells AV.storable AV.scells splice scrub abin loadA HR.okB post ares aress ares1 AV.out AV.isData ints_len ints_get fz fz1 AV.vw AV.vw1 boxy vI int undefA assignQ thenQ blockQ seqQ panQ prol prolH allocOf
variable {GI : World → Prop}
theorem setting_eq (out : List Int) (es : List End) : settingA out es = .agg [vI out, .slice .view (es.map endA)] := rfl
end Go.Proofs.Tryz
namespace Go.Proofs.Tryz
open Go Go.AL Go.RowKit Go.Proofs
attribute [local simp] awp_all qs_all ops_all dops_all ops_nil dops_nil ops_call ops_callv ops_alloc ops_box dops_call dops_alloc kO_eq kD_eq awanted apure ev Eff.S Eff.H tmpOf upd putD AL.start AV.dem AV.cells AV.storable AV.scells splice scrub abin loadA HR.okB post ares aress ares1 AV.out AV.isData ints_len ints_get fz fz1 AV.vw AV.vw1 boxy vI int undefA assignQ thenQ blockQ seqQ panQ prol prolH allocOf
variable {GI : World → Prop}
def rowsO (s : Sheet) : List AV := if sheetI s then match goodS s [] with
 | [] => [.int .i64 0, .int .i64 5]
 | x :: l => [.int .i64 (bestL (betterE s) x l).length, .int .i64 0]
 else [.int .i64 0, .int .i64 2]
theorem ac39 (hG : Stable GI) (s : Sheet) (hs : Slim s) : AC prog GI 39 [sheetA s] (.ret (.tup (rowsO s))) := by
 have a40 := ac40 hG s hs
 unfold setO at a40
 unfold rowsO
 refine AC.of_body hG hmix func39 rfl ntmps39 (by simp) (ac := c39) (by kernel_rfl) ?_
 refine awp_cut (fun S H => S 1 = .box 1 0 ∧ H 1 = some (sheetL s)) (by simp [sheetA, sheetL]) ?_
 rintro S H ⟨s1, e1⟩
 cases hsh : sheetI s
 ·rw [hsh] at a40
  simp [s1, e1, sheetL]
  refine ⟨_, by kernel_rfl, a40, by simp [boxy], ?_⟩
  simp [s1, e1, sheetL, setting_eq]
 rw [hsh, if_pos rfl] at a40
 cases hg : goodS s [] with
 | nil =>
  rw [hg] at a40
  simp [s1, e1, sheetL]
  refine ⟨_, by kernel_rfl, a40, by simp [boxy], ?_⟩
  simp [s1, e1, sheetL, setting_eq]
 | cons x l =>
  rw [hg] at a40
  simp only at a40 ⊢
  generalize bestL (betterE s) x l = b at *
  simp [s1, e1, sheetL]
  refine ⟨_, by kernel_rfl, a40, by simp [boxy], ?_⟩
  simp [s1, e1, sheetL, setting_eq]
end Go.Proofs.Tryz
namespace Go.Proofs.Tryz
open Go Go.AL Go.RowKit Go.Proofs
attribute [local simp] awp_all qs_all ops_all dops_all ops_nil dops_nil ops_call ops_callv ops_alloc ops_box dops_call dops_alloc kO_eq kD_eq awanted apure ev Eff.S Eff.H tmpOf upd putD AL.start AV.dem AV.cells AV.storable AV.scells splice scrub abin loadA HR.okB post ares aress ares1 AV.out AV.isData ints_len ints_get fz fz1 AV.vw AV.vw1 boxy vI int undefA assignQ thenQ blockQ seqQ panQ prol prolH allocOf
variable {GI : World → Prop}
end Go.Proofs.Tryz
namespace Go.Proofs.Tryz
open Go Go.AL Go.RowKit Go.Proofs
attribute [local simp] awp_all qs_all ops_all dops_all ops_nil dops_nil ops_call ops_callv ops_alloc ops_box dops_call dops_alloc kO_eq kD_eq awanted apure ev Eff.S Eff.H tmpOf upd putD AL.start AV.dem AV.cells AV.storable AV.scells splice scrub abin loadA HR.okB post ares aress ares1 AV.out AV.isData ints_len ints_get fz fz1 AV.vw AV.vw1 boxy vI int undefA assignQ thenQ blockQ seqQ panQ prol prolH allocOf
variable {GI : World → Prop}
def fitsI (s : Sheet) : Bool := sheetI s && !(goodS s []).isEmpty
theorem ac49 (hG : Stable GI) (s : Sheet) (hs : Slim s) : AC prog GI 49 [sheetA s] (.ret (.tup [.bool (fitsI s), .bool (sheetI s)])) := by
 have a39 := ac39 hG s hs
 unfold rowsO at a39
 unfold fitsI
 refine AC.of_body hG hmix func49 rfl ntmps49 (by simp) (ac := c49) (by kernel_rfl) ?_
 refine awp_cut (fun S H => S 1 = .box 1 0 ∧ H 1 = some (sheetL s)) (by simp [sheetA, sheetL]) ?_
 rintro S H ⟨s1, e1⟩
 simp [s1, e1, sheetL]
 cases hsh : sheetI s
 ·rw [hsh] at a39
  refine ⟨_, by kernel_rfl, a39, by simp [boxy], ?_⟩
  simp
 rw [hsh, if_pos rfl] at a39
 cases hg : goodS s [] with
 | nil =>
  rw [hg] at a39
  refine ⟨_, by kernel_rfl, a39, by simp [boxy], ?_⟩
  simp
 | cons x l =>
  rw [hg] at a39
  refine ⟨_, by kernel_rfl, a39, by simp [boxy], ?_⟩
  simp
end Go.Proofs.Tryz
namespace Go.Proofs.Tryz
open Go Go.AL Go.RowKit Go.Proofs
attribute [local simp] awp_all qs_all ops_allN dops_allN ops_nil dops_nil ops_call ops_callv ops_alloc ops_box dops_call dops_alloc kO_eq kD_eq awanted apure ev Eff.S Eff.H tmpOf upd putD AL.start AV.dem AV.cells AV.storable AV.scells splice scrub abin loadA HR.okB post ares aress ares1 AV.out AV.isData ints_len ints_get fz fz1 AV.vw AV.vw1 boxy vI int undefA assignQ thenQ blockQ seqQ panQ prol prolH allocOf
variable {GI : World → Prop}
end Go.Proofs.Tryz
namespace Go.Proofs.Tryz
open Go Go.AL Go.RowKit Go.Proofs
attribute [local simp] awp_all qs_all ops_allN dops_allN ops_nil dops_nil ops_call ops_callv ops_alloc ops_box dops_call dops_alloc kO_eq kD_eq awanted apure ev Eff.S Eff.H tmpOf upd putD AL.start AV.dem AV.cells AV.storable AV.scells splice scrub abin loadA HR.okB post ares aress ares1 AV.out AV.isData ints_len ints_get fz fz1 AV.vw AV.vw1 boxy vI int undefA assignQ thenQ blockQ seqQ panQ prol prolH allocOf
variable {GI : World → Prop}
end Go.Proofs.Tryz
namespace Go.Proofs.Tryz
open Go Go.AL Go.RowKit Go.Proofs
attribute [local simp] awp_all qs_all ops_allN dops_allN ops_nil dops_nil ops_call ops_callv ops_alloc ops_box dops_call dops_alloc kO_eq kD_eq awanted apure ev Eff.S Eff.H tmpOf upd putD AL.start AV.dem AV.cells AV.storable AV.scells splice scrub abin loadA HR.okB post ares aress ares1 AV.out AV.isData ints_len ints_get fz fz1 AV.vw AV.vw1 boxy vI int undefA assignQ thenQ blockQ seqQ panQ prol prolH allocOf
variable {GI : World → Prop}
def sheetW (s : Sheet) (x : AV) : List AV := [vI s.widths, .slice .view (s.pairs.map pairA), .int .i64 s.olo, .int .i64 s.ohi, .int .i64 s.glo, .int .i64 s.ghi, .int .i64 s.hyphen, x, .int .i64 s.wide, .int .i64 s.rows]
theorem word_ok3 (l : List Word) : elemsOK 3 (l.map wordA) = true := elems_map fun a => ⟨rfl, rfl⟩
end Go.Proofs.Tryz
namespace Go.Proofs.Tryz
open Go Go.AL Go.RowKit Go.Proofs
attribute [local simp] awp_all qs_all ops_allN dops_allN ops_nil dops_nil ops_call ops_callv ops_alloc ops_box dops_call dops_alloc kO_eq kD_eq awanted apure ev Eff.S Eff.H tmpOf upd putD AL.start AV.dem AV.cells AV.storable AV.scells splice scrub abin loadA HR.okB post ares aress ares1 AV.out AV.isData ints_len ints_get fz fz1 AV.vw AV.vw1 boxy vI int undefA assignQ thenQ blockQ seqQ panQ prol prolH allocOf
variable {GI : World → Prop}
theorem ac58 (hG : Stable GI) (s : Sheet) (h1 : s.words.length < 1000) (h2 : ∀ w ∈ s.words, w.signs.length < 1000) : AC prog GI 58 [sheetA s] (.ret (.int .i64 (letsN s.words : Nat))) := by
 have hb : ∀ i, i ≤ s.words.length → letsN (s.words.take i) ≤ 1000 * 1000 := fun i hi => by
  have := letsN_bound (l := s.words.take i) (b := 1000) fun w hw => by have := h2 w (List.mem_of_mem_take hw); omega
  rw [List.length_take] at this
  have : 1000 * min i s.words.length ≤ 1000 * 1000 := Nat.mul_le_mul_left _ (by omega)
  omega
 refine AC.of_body hG hmix func58 rfl ntmps58 (by simp) (ac := c58) (by kernel_rfl) ?_
 refine awp_cut (fun S H => S 1 = .box 1 0 ∧ H 1 = some (sheetL s)) (by simp [ops_ap, dops_ap, sheetA, sheetL]) ?_
 rintro S H ⟨s1, e1⟩
 simp [ops_ap, dops_ap, s1, e1]
 refine awp_loop 4 s.words.length (fun i S H => S 1 = .box 1 0 ∧ H 1 = some (sheetL s) ∧ S 4 = .int .i64 (i : Nat) ∧ S 3 = .int .i64 (letsN (s.words.take i) : Nat)) (fun i S H h => h.2.2.1) ⟨by simp [ops_ap, dops_ap, s1], by simp [ops_ap, dops_ap, e1], by simp [ops_ap, dops_ap], by simp [ops_ap, dops_ap, letsN]⟩ ?_
 clear s1 e1 S H
 rintro i hi S H ⟨s1, e1, s4, s3⟩
 by_cases hlt : i < s.words.length
 case neg =>
  have hil : i = s.words.length := by omega
  subst hil
  rw [List.take_of_length_le (Nat.le_refl _)] at s3
  simp [ops_ap, dops_ap, s1, e1, s4, s3, sheetL]
 have hw : IntKind.i64.wrap ((i : Int) + 1) = i + 1 := wrapI (by omega)
 have hbi := hb i hi
 have hsi := h2 _ (List.getElem_mem hlt)
 rw [letsN_take hlt]
 generalize letsN (s.words.take i) = m at *
 have hwm : IntKind.i64.wrap ((m : Int) + (s.words[i].signs.length : Int)) = (m : Int) + (s.words[i].signs.length : Int) := wrapI (by omega)
 simp [ops_ap, dops_ap, s1, e1, s4, s3, sheetL, hlt, hw, wordA, hwm]
theorem filter_take {l : List Int} {n : Nat} {i : Nat} (h : i < l.length) : (l.take (i + 1)).filter (fun c => !decide ((n : Int) ≤ c)) = (l.take i).filter (fun c => !decide ((n : Int) ≤ c)) ++ if l[i] < n then [l[i]] else [] := by
 rw [List.take_succ_eq_append_getElem h, List.filter_append, List.filter_cons]
 by_cases hc : l[i] < n
 ·have : ¬ (n : Int) ≤ l[i] := by omega
  simp [hc]
 ·have : (n : Int) ≤ l[i] := by omega
  simp [hc, this]
theorem shorterW_drop {l : List Word} {i k : Nat} (h : i < l.length) (hk : k ≠ 0) : shorterW (l.drop i) k = { signs := l[i].signs.take (min k l[i].signs.length), cuts := l[i].cuts.filter fun c => !decide (((min k l[i].signs.length : Nat) : Int) ≤ c), free := l[i].free } :: shorterW (l.drop (i + 1)) (k - min k l[i].signs.length) := by
 rw [List.drop_eq_getElem_cons h, shorterW_cons _ _ hk]
set_option maxHeartbeats 4000000 in
theorem ac59 (hG : Stable GI) (s : Sheet) (hs : Slim s) {k : Nat} (hk : k ≤ letsN s.words) : AC prog GI 59 [sheetA s, .int .i64 (k : Nat)] (.ret (sheetA (lessS s (letsN s.words - k)))) := by
 obtain ⟨it, hit, hsz⟩ := info_size (P := prog) (t := 28) (s := 10) (by kernel_rfl)
 have q3 := hs.words
 have hLb : letsN s.words ≤ 1000 * 1000 := by
  have := letsN_bound (l := s.words) (b := 1000) fun w hw => by have := hs.signs w hw; omega
  have : 1000 * s.words.length ≤ 1000 * 1000 := Nat.mul_le_mul_left _ (by omega)
  omega
 have a58 := ac58 hG ⟨[], [], 0, 0, 0, 0, 0, s.words, 0, 0⟩ q3 hs.signs
 simp only at a58
 obtain ⟨L, hL⟩ : ∃ L, letsN s.words - k = L := ⟨_, rfl⟩
 have hwL : IntKind.i64.wrap ((letsN s.words : Int) - (k : Int)) = (L : Nat) := by rw [wrapI (by omega)]; omega
 rw [hL]
 have e : sheetA (lessS s L) = .agg (sheetW s (.slice .view ((shorterW s.words L).map wordA))) := rfl
 rw [e]
 have hsl := shorter_length (l := s.words) (k := L)
 generalize hR : shorterW s.words L = R at *
 refine AC.of_body hG hmix func59 rfl ntmps59 (by simp) (ac := c59) (by kernel_rfl) ?_
 refine awp_cut (fun S H => S 1 = .int .i64 (k : Nat) ∧ S 2 = .box 2 0 ∧ H 2 = some (sheetL s) ∧ S 4 = .box 4 0 ∧ H 4 = some [.slice .nil [], .slice .nil [], .int .i64 0, .int .i64 0, .int .i64 0, .int .i64 0, .int .i64 0, .slice .nil [], .int .i64 0, .int .i64 0]) (by simp [ops_ap, dops_ap, sheetA, sheetL]) ?_
 rintro S H ⟨s1, s2, e2, s4, e4⟩
 refine awp_cut (fun S H => S 1 = .int .i64 (k : Nat) ∧ S 2 = .box 2 0 ∧ H 2 = some (sheetL s) ∧ S 4 = .box 4 0 ∧ H 4 = some [.slice .nil [], .slice .nil [], .int .i64 0, .int .i64 0, .int .i64 0, .int .i64 0, .int .i64 0, .slice .nil [], .int .i64 0, .int .i64 0] ∧ S 5 = .slice .view (s.words.map wordA)) (by simp [ops_ap, dops_ap, s1, s2, e2, s4, e4, sheetL]) ?_
 clear s1 s2 e2 s4 e4 S H
 rintro S H ⟨s1, s2, e2, s4, e4, s5⟩
 refine awp_cut (fun S H => S 1 = .int .i64 (k : Nat) ∧ S 2 = .box 2 0 ∧ H 2 = some (sheetW s (.slice .nil [])) ∧ S 4 = .box 4 0 ∧ H 4 = some [.slice .nil [], .slice .nil [], .int .i64 0, .int .i64 0, .int .i64 0, .int .i64 0, .int .i64 0, .slice .nil [], .int .i64 0, .int .i64 0] ∧ S 5 = .slice .view (s.words.map wordA)) (by simp [ops_ap, dops_ap, s1, s2, e2, s4, e4, s5, sheetL, sheetW]) ?_
 clear s1 s2 e2 s4 e4 s5 S H
 rintro S H ⟨s1, s2, e2, s4, e4, s5⟩
 refine awp_cut (fun S H => S 2 = .box 2 0 ∧ H 2 = some (sheetW s (.slice .nil [])) ∧ S 4 = .box 4 0 ∧ H 4 = some [.slice .nil [], .slice .nil [], .int .i64 0, .int .i64 0, .int .i64 0, .int .i64 0, .int .i64 0, .slice .nil [], .int .i64 0, .int .i64 0] ∧ S 5 = .slice .view (s.words.map wordA) ∧ S 6 = .int .i64 (L : Nat)) ?_ ?_
 ·simp [ops_ap, dops_ap, s1, s2, e2, s4, e4, s5, fillA]
  refine ⟨_, by kernel_rfl, a58, by simp [boxy], ?_⟩
  simp [ops_ap, dops_ap, s1, s2, e2, s4, e4, s5, hwL]
 clear s1 s2 e2 s4 e4 s5 S H
 rintro S H ⟨s2, e2, s4, e4, s5, s6⟩
 refine awp_cut (fun S H => S 2 = .box 2 0 ∧ H 2 = some (sheetW s (grow 77 (R.map wordA))) ∧ S 4 = .box 4 0 ∧ H 4 = some [.slice .nil [], .slice .nil [], .int .i64 0, .int .i64 0, .int .i64 0, .int .i64 0, .int .i64 0, .slice .nil [], .int .i64 0, .int .i64 0]) ?_ ?_
 ·simp [ops_ap, dops_ap, s2, e2, s4, e4, s5, s6]
  refine awp_loop 7 s.words.length (fun i S H => S 2 = .box 2 0 ∧ S 4 = .box 4 0 ∧ H 4 = some [.slice .nil [], .slice .nil [], .int .i64 0, .int .i64 0, .int .i64 0, .int .i64 0, .int .i64 0, .slice .nil [], .int .i64 0, .int .i64 0] ∧ S 5 = .slice .view (s.words.map wordA) ∧ S 7 = .int .i64 (i : Nat) ∧ ∃ (D : List Word) (l : Nat), H 2 = some (sheetW s (grow 77 (D.map wordA))) ∧ S 6 = .int .i64 (l : Nat) ∧ l ≤ L ∧ D ++ shorterW (s.words.drop i) l = R) (fun i S H h => h.2.2.2.2.1) ⟨by simp [ops_ap, dops_ap, s2], by simp [ops_ap, dops_ap, s4], by simp [ops_ap, dops_ap, e4], by simp [ops_ap, dops_ap, s5], by simp [ops_ap, dops_ap], [], L, by simp [ops_ap, dops_ap, e2, grow], by simp [ops_ap, dops_ap, s6], Nat.le_refl _, by simpa using hR⟩ ?_
  clear s2 e2 s4 e4 s5 s6 S H
  rintro i hi S H ⟨s2, s4, e4, s5, s7, D, l, e2, s6, hlL, hD⟩
  by_cases hlt : i < s.words.length
  case neg =>
   have hil : i = s.words.length := by omega
   subst hil
   rw [List.drop_length] at hD
   have : shorterW [] l = [] := rfl
   rw [this, List.append_nil] at hD
   subst hD
   simp [ops_ap, dops_ap, s2, s4, e4, s5, s7, e2, s6]
  by_cases hl0 : l = 0
  ·subst hl0
   rw [shorterW_zero, List.append_nil] at hD
   subst hD
   simp [ops_ap, dops_ap, s2, s4, e4, s5, s7, e2, s6, hlt]
  have hw : IntKind.i64.wrap ((i : Int) + 1) = i + 1 := wrapI (by omega)
  have hlp : (0 : Int) < l := by omega
  have hlp2 : 0 < l := by omega
  rw [shorterW_drop hlt hl0] at hD
  have hsg := hs.signs _ (List.getElem_mem hlt)
  have hct := hs.cuts _ (List.getElem_mem hlt)
  have hDl : D.length ≤ 1000 := by
   have := congrArg List.length hD
   rw [List.length_append] at this; omega
  obtain ⟨x, hx⟩ : ∃ x, s.words[i] = x := ⟨_, rfl⟩
  rw [hx] at hsg hct hD
  obtain ⟨m, hm⟩ : ∃ m, min l x.signs.length = m := ⟨_, rfl⟩
  rw [hm] at hD
  have hmi : min (l : Int) (x.signs.length : Int) = (m : Nat) := by omega
  have hml : m ≤ x.signs.length := by omega
  have hxA : wordA s.words[i] = .agg [vI x.signs, vI x.cuts, .bool x.free] := by rw [hx]; rfl
  have hgx : ((s.words.map wordA))[i]? = some (.agg [vI x.signs, vI x.cuts, .bool x.free]) := by rw [List.getElem?_map, List.getElem?_eq_getElem hlt]; exact congrArg some hxA
  obtain ⟨hgl, hgx⟩ := List.getElem?_eq_some_iff.1 hgx
  refine awp_cut (fun S H => S 2 = .box 2 0 ∧ S 4 = .box 4 0 ∧ H 4 = some [.slice .nil [], .slice .nil [], .int .i64 0, .int .i64 0, .int .i64 0, .int .i64 0, .int .i64 0, .slice .nil [], .int .i64 0, .int .i64 0] ∧ S 5 = .slice .view (s.words.map wordA) ∧ S 7 = .int .i64 (i : Nat) ∧ H 2 = some (sheetW s (grow 77 (D.map wordA))) ∧ S 6 = .int .i64 (l : Nat)) (by simp [ops_ap, dops_ap, s2, s4, e4, s5, s7, e2, s6, hlt, hlp, hlp2]) ?_
  clear s2 s4 e4 s5 s7 e2 s6 S H
  rintro S H ⟨s2, s4, e4, s5, s7, e2, s6⟩
  refine awp_in ?_
  refine awp_cut (fun S H => S 2 = .box 2 0 ∧ S 4 = .box 4 0 ∧ H 4 = some [.slice .nil [], .slice .nil [], .int .i64 0, .int .i64 0, .int .i64 0, .int .i64 0, .int .i64 0, .slice .nil [], .int .i64 0, .int .i64 0] ∧ S 5 = .slice .view (s.words.map wordA) ∧ S 7 = .int .i64 (i : Nat) ∧ H 2 = some (sheetW s (grow 77 (D.map wordA))) ∧ S 6 = .int .i64 (l : Nat) ∧ S 8 = .box 8 0 ∧ H 8 = some [.slice .nil [], .slice .nil [], .bool x.free]) (by simp [ops_ap, dops_ap, s2, s4, e4, s5, s7, e2, s6, hlt, hxA, fillA]) ?_
  clear s2 s4 e4 s5 s7 e2 s6 S H
  rintro S H ⟨s2, s4, e4, s5, s7, e2, s6, s8, e8⟩
  refine awp_cut (fun S H => S 2 = .box 2 0 ∧ S 4 = .box 4 0 ∧ H 4 = some [.slice .nil [], .slice .nil [], .int .i64 0, .int .i64 0, .int .i64 0, .int .i64 0, .int .i64 0, .slice .nil [], .int .i64 0, .int .i64 0] ∧ S 5 = .slice .view (s.words.map wordA) ∧ S 7 = .int .i64 (i : Nat) ∧ H 2 = some (sheetW s (grow 77 (D.map wordA))) ∧ S 6 = .int .i64 (l : Nat) ∧ S 8 = .box 8 0 ∧ H 8 = some [.slice .nil [], .slice .nil [], .bool x.free] ∧ S 9 = .int .i64 (m : Nat)) (by simp [ops_ap, dops_ap, s2, s4, e4, s5, s7, e2, s6, s8, e8, hlt, hxA, hmi]) ?_
  clear s2 s4 e4 s5 s7 e2 s6 s8 e8 S H
  rintro S H ⟨s2, s4, e4, s5, s7, e2, s6, s8, e8, s9⟩
  refine awp_cut (fun S H => S 2 = .box 2 0 ∧ S 4 = .box 4 0 ∧ H 4 = some [.slice .nil [], .slice .nil [], .int .i64 0, .int .i64 0, .int .i64 0, .int .i64 0, .int .i64 0, .slice .nil [], .int .i64 0, .int .i64 0] ∧ S 5 = .slice .view (s.words.map wordA) ∧ S 7 = .int .i64 (i : Nat) ∧ H 2 = some (sheetW s (grow 77 (D.map wordA))) ∧ S 6 = .int .i64 (l : Nat) ∧ S 8 = .box 8 0 ∧ H 8 = some [grow 3 (ints (x.signs.take m)), .slice .nil [], .bool x.free] ∧ S 9 = .int .i64 (m : Nat)) ?_ ?_
  ·have hokx : elemsOK 1 (ints x.signs) = true := ints_ok1 _
   have hokt : elemsOK 1 (ints (x.signs.take m)) = true := ints_ok1 _
   have hit : List.take m (ints x.signs) = ints (x.signs.take m) := by unfold ints; rw [List.map_take]
   have hm0 : (0 : Int) ≤ (m : Int) := by omega
   simp [s2, s4, e4, s5, s7, e2, s6, s8, e8, s9, hlt, hxA, bound, hokx, hml, hit]
   refine dops_appL [] (ints (x.signs.take m)) .view (by simp [grow]) (by simp) hokt rfl (by simp [ints]; omega) ?_
   intro S' sd hk'
   simp [sd, hk', s2, s4, e4, s5, s7, e2, s6, s8, e8, s9, grow]
  clear s2 s4 e4 s5 s7 e2 s6 s8 e8 s9 S H
  rintro S H ⟨s2, s4, e4, s5, s7, e2, s6, s8, e8, s9⟩
  refine awp_cut (fun S H => S 2 = .box 2 0 ∧ S 4 = .box 4 0 ∧ H 4 = some [.slice .nil [], .slice .nil [], .int .i64 0, .int .i64 0, .int .i64 0, .int .i64 0, .int .i64 0, .slice .nil [], .int .i64 0, .int .i64 0] ∧ S 5 = .slice .view (s.words.map wordA) ∧ S 7 = .int .i64 (i : Nat) ∧ H 2 = some (sheetW s (grow 77 (D.map wordA))) ∧ S 6 = .int .i64 (l : Nat) ∧ S 8 = .box 8 0 ∧ H 8 = some [grow 3 (ints (x.signs.take m)), grow 3 (ints (x.cuts.filter fun c => !decide ((m : Int) ≤ c))), .bool x.free] ∧ S 9 = .int .i64 (m : Nat)) ?_ ?_
  ·simp [ops_ap, dops_ap, s2, s4, e4, s5, s7, e2, s6, s8, e8, s9]
   refine awp_loop 10 x.cuts.length (fun j S H => S 2 = .box 2 0 ∧ S 4 = .box 4 0 ∧ H 4 = some [.slice .nil [], .slice .nil [], .int .i64 0, .int .i64 0, .int .i64 0, .int .i64 0, .int .i64 0, .slice .nil [], .int .i64 0, .int .i64 0] ∧ S 5 = .slice .view (s.words.map wordA) ∧ S 7 = .int .i64 (i : Nat) ∧ H 2 = some (sheetW s (grow 77 (D.map wordA))) ∧ S 6 = .int .i64 (l : Nat) ∧ S 8 = .box 8 0 ∧ S 9 = .int .i64 (m : Nat) ∧ S 10 = .int .i64 (j : Nat) ∧ H 8 = some [grow 3 (ints (x.signs.take m)), grow 3 (ints ((x.cuts.take j).filter fun c => !decide ((m : Int) ≤ c))), .bool x.free]) (fun i S H h => h.2.2.2.2.2.2.2.2.2.1) ⟨by simp [ops_ap, dops_ap, s2], by simp [ops_ap, dops_ap, s4], by simp [ops_ap, dops_ap, e4], by simp [ops_ap, dops_ap, s5], by simp [ops_ap, dops_ap, s7], by simp [ops_ap, dops_ap, e2], by simp [ops_ap, dops_ap, s6], by simp [ops_ap, dops_ap, s8], by simp [ops_ap, dops_ap, s9], by simp [ops_ap, dops_ap], by simp [ops_ap, dops_ap, e8, grow, ints]⟩ ?_
   clear s2 s4 e4 s5 s7 e2 s6 s8 e8 s9 S H
   rintro j hj S H ⟨s2, s4, e4, s5, s7, e2, s6, s8, s9, s10, e8⟩
   by_cases hjl : j < x.cuts.length
   case neg =>
    have hjl' : j = x.cuts.length := by omega
    subst hjl'
    rw [List.take_of_length_le (Nat.le_refl _)] at e8
    simp [ops_ap, dops_ap, s2, s4, e4, s5, s7, e2, s6, s8, e8, s9, s10, hlt, hxA]
   have hwj : IntKind.i64.wrap ((j : Int) + 1) = j + 1 := wrapI (by omega)
   have hft := filter_take (n := m) hjl
   have hfl : ((x.cuts.take j).filter fun c => !decide ((m : Int) ≤ c)).length ≤ 1000 := by
    have := List.length_filter_le (fun c : Int => !decide ((m : Int) ≤ c)) (x.cuts.take j)
    rw [List.length_take] at this; omega
   rw [hft]
   generalize (x.cuts.take j).filter (fun c => !decide ((m : Int) ≤ c)) = B at e8 hfl ⊢
   have hok1 : elemsOK 1 [AV.int .i64 x.cuts[j]] = true := rfl
   by_cases hcm : x.cuts[j] < m
   ·simp [s2, s4, e4, s5, s7, e2, s6, s8, e8, s9, s10, hlt, hxA, hjl, hcm]
    refine dops_app (ints B) (AV.int .i64 x.cuts[j]) (.own 3) (by simp [grow]) (by simp) hok1 (ints_ok1 B) (by simp [ints]; omega) ?_
    intro S' sd hk'
    simp [sd, hk', s2, s4, e4, s5, s7, e2, s6, s8, e8, s9, s10, hjl, hwj, grow, ints]
   ·simp [s2, s4, e4, s5, s7, e2, s6, s8, e8, s9, s10, hlt, hxA, hjl, hcm, hwj]
  clear s2 s4 e4 s5 s7 e2 s6 s8 e8 s9 S H
  rintro S H ⟨s2, s4, e4, s5, s7, e2, s6, s8, e8, s9⟩
  have hlm : l - m ≤ L := by omega
  have hwl : IntKind.i64.wrap ((l : Int) - (m : Int)) = (l - m : Nat) := by rw [wrapI (by omega)]; omega
  generalize hX : (⟨x.signs.take m, x.cuts.filter fun c => !decide ((m : Int) ≤ c), x.free⟩ : Word) = X at hD
  have hXA : wordA X = .agg [vI (x.signs.take m), vI (x.cuts.filter fun c => !decide ((m : Int) ≤ c)), .bool x.free] := by rw [← hX]; rfl
  generalize x.signs.take m = u at *
  generalize (x.cuts.filter fun c => !decide ((m : Int) ≤ c)) = v at *
  have hok3 : elemsOK 3 [wordA X] = true := rfl
  have hok4 : elemsOK 3 [AV.agg [AV.slice .view (ints u), AV.slice .view (ints v), AV.bool x.free]] = true := rfl
  obtain ⟨ou, hou, hgu⟩ : ∃ o, (o = Ow.nil ∨ o = Ow.own 3) ∧ grow 3 (ints u) = .slice o (ints u) := ⟨_, by split <;> simp, rfl⟩
  obtain ⟨ov, hov, hgv⟩ : ∃ o, (o = Ow.nil ∨ o = Ow.own 3) ∧ grow 3 (ints v) = .slice o (ints v) := ⟨_, by split <;> simp, rfl⟩
  rw [hgu, hgv] at e8
  have hokD : elemsOK 3 (D.map wordA) = true := word_ok3 D
  refine awp_cut (fun S H => S 2 = .box 2 0 ∧ S 4 = .box 4 0 ∧ H 4 = some [.slice .nil [], .slice .nil [], .int .i64 0, .int .i64 0, .int .i64 0, .int .i64 0, .int .i64 0, .slice .nil [], .int .i64 0, .int .i64 0] ∧ S 5 = .slice .view (s.words.map wordA) ∧ S 7 = .int .i64 (i : Nat) ∧ H 2 = some (sheetW s (grow 77 ((D ++ [X]).map wordA))) ∧ S 6 = .int .i64 (l : Nat) ∧ S 9 = .int .i64 (m : Nat)) ?_ ?_
  ·rcases hou with rfl | rfl <;> rcases hov with rfl | rfl
   all_goals
    simp [s2, s4, e4, s5, s7, e2, s6, s8, e8, s9, sheetW, hok4]
    refine aops_app (D.map wordA) (wordA X) (.own 77) (by simp [grow]) (by simp [hXA]) hok3 hokD (by simp; omega) ?_
    intro S' sd hk'
    simp [sd, hk', s2, s4, e4, s5, s7, s6, s9, sheetW, grow]
  clear s2 s4 e4 s5 s7 e2 s6 s8 e8 s9 S H
  rintro S H ⟨s2, s4, e4, s5, s7, e2, s6, s9⟩
  simp [ops_ap, dops_ap, s2, s4, e4, s5, s7, e2, s6, s9, hw, hlt, hwl]
  exact ⟨D ++ [X], by simp, l - m, rfl, hlm, by rw [List.append_assoc]; exact hD⟩
 clear s2 e2 s4 e4 s5 s6 S H
 rintro S H ⟨s2, e2, s4, e4⟩
 simp [ops_ap, dops_ap, s2, e2, s4, e4, sheetW, hit, hsz, aggT, grow]
 by_cases h0 : R = []
 ·subst h0; rfl
 ·rw [if_neg h0]
end Go.Proofs.Tryz
namespace Go.Proofs.Tryz
open Go Go.AL Go.RowKit Go.Proofs
attribute [local simp] awp_all qs_all ops_all dops_all ops_nil dops_nil ops_call ops_callv ops_alloc ops_box dops_call dops_alloc kO_eq kD_eq awanted apure ev Eff.S Eff.H tmpOf upd putD AL.start AV.dem AV.cells AV.storable AV.scells splice scrub abin loadA HR.okB post ares aress ares1 AV.out AV.isData ints_len ints_get fz fz1 AV.vw AV.vw1 boxy vI int undefA assignQ thenQ blockQ seqQ panQ prol prolH allocOf
variable {GI : World → Prop}
theorem ac110f (hG : Stable GI) (s : Sheet) (hs : Slim s) {L : Nat} (hL : L < 4611686018427387904) : AC prog GI 110 [sheetA s, .int .i64 (L : Nat)] (.ret (sheetA (lessS s L))) := by
 have h := ac110 hG (sA := sheetL s) (ws := s.words) (L := L) rfl rfl (by
  intro x hx
  simp [sheetL] at hx
  rcases hx with rfl | rfl | rfl | rfl | rfl | rfl | rfl | rfl | rfl | rfl <;> rfl) (by have := hs.words; omega) (fun w hw => by have := hs.signs w hw; have := hs.cuts w hw; omega) hL
 have e : AV.agg (((sheetL s).set 7 (.slice .view ((shorterW s.words L).map wordA))).map AV.vw1) = sheetA (lessS s L) := by
  simp [sheetL, sheetA, lessS, vI, ints, AV.vw1]
 rw [e] at h
 exact h
def overO (s : Sheet) : List AV := if sheetI s then [.int .i64 (overI s : Nat), .int .i64 0] else [.int .i64 0, .int .i64 2]
set_option maxHeartbeats 2000000 in
theorem ac56 (hG : Stable GI) (s : Sheet) (hs : Slim s) : AC prog GI 56 [sheetA s] (.ret (.tup (overO s))) := by
 unfold overO
 have a96 := ac96 hG s hs
 cases hsh : sheetI s with
 | false =>
  rw [hsh] at a96
  refine AC.of_body hG hmix func56 rfl ntmps56 (by simp) (ac := c56) (by kernel_rfl) ?_
  refine awp_cut (fun S H => S 1 = .box 1 0 ∧ H 1 = some (sheetL s)) (by simp [sheetA, sheetL]) ?_
  rintro S H ⟨s1, e1⟩
  simp [s1, e1, sheetL]
  refine ⟨_, by kernel_rfl, a96, fun _ => rfl, ?_⟩
  simp
 | true =>
 rw [hsh] at a96
 rw [if_pos rfl]
 have hN := letsN_sheet hsh
 obtain ⟨N, hNe⟩ : ∃ N, letsN s.words = N := ⟨_, rfl⟩
 have hover_at := fun n (h : n < N) hp hb => over_at (s := s) (n := n) (by omega) hp hb
 have hover_all := over_all (s := s)
 rw [hNe] at hover_all hN
 refine AC.of_body hG hmix func56 rfl ntmps56 (by simp) (ac := c56) (by kernel_rfl) ?_
 refine awp_cut (fun S H => S 1 = .box 1 0 ∧ H 1 = some (sheetL s)) (by simp [sheetA, sheetL]) ?_
 rintro S H ⟨s1, e1⟩
 refine awp_cut (fun S H => S 1 = .box 1 0 ∧ H 1 = some (sheetL s)) ?_ ?_
 ·simp [s1, e1, sheetL]
  refine ⟨_, by kernel_rfl, a96, fun _ => rfl, ?_⟩
  simp [s1, e1, sheetL]
 clear s1 e1 S H
 rintro S H ⟨s1, e1⟩
 refine awp_cut (fun S H => S 1 = .box 1 0 ∧ H 1 = some (sheetL s) ∧ S 4 = .int .i64 0) (by simp [s1, e1]) ?_
 clear s1 e1 S H
 rintro S H ⟨s1, e1, s4⟩
 refine awp_cut (fun S H => S 1 = .box 1 0 ∧ H 1 = some (sheetL s) ∧ S 4 = .int .i64 (N : Nat)) ?_ ?_
 ·simp [s1, e1, s4, sheetL]
  refine awp_loop 14 s.words.length (fun i S H => S 1 = .box 1 0 ∧ H 1 = some (sheetL s) ∧ S 12 = .slice .view (s.words.map wordA) ∧ S 13 = .int .i64 s.words.length ∧ S 14 = .int .i64 (i : Nat) ∧ S 4 = .int .i64 (letsN (s.words.take i) : Nat)) (fun i S H h => h.2.2.2.2.1) ⟨by simp [s1], by simp [e1, sheetL], by simp, by simp, by simp, by simp [s4, letsN]⟩ ?_
  clear s1 e1 s4 S H
  rintro i hi S H ⟨s1, e1, s12, s13, s14, s4⟩
  by_cases hlt : i < s.words.length
  case neg =>
   have hil : i = s.words.length := by omega
   subst hil
   rw [List.take_of_length_le (Nat.le_refl _), hNe] at s4
   simp [s1, e1, s12, s13, s14, s4, sheetL]
  have hw4 := (sheetF hsh).words
  have hw : IntKind.i64.wrap ((i : Int) + 1) = i + 1 := wrapI (by omega)
  have hbi : letsN (s.words.take i) ≤ 24 := by
   have := letsN_bound (l := s.words.take i) (b := 6) fun w hw => (wordF hsh (List.mem_of_mem_take hw)).len6
   rw [List.length_take] at this
   omega
  have hsi := (wordF hsh (List.getElem_mem hlt)).len6
  rw [letsN_take hlt]
  generalize letsN (s.words.take i) = m at *
  have hwm : IntKind.i64.wrap ((m : Int) + (s.words[i].signs.length : Int)) = (m : Int) + (s.words[i].signs.length : Int) := wrapI (by omega)
  simp [s1, e1, s12, s13, s14, s4, hlt, wordA, hw, hwm, sheetL]
 clear s1 e1 s4 S H
 rintro S H ⟨s1, e1, s4⟩
 simp [s1, e1, s4]
 refine awp_loop 25 N (fun n S H => S 1 = .box 1 0 ∧ H 1 = some (sheetL s) ∧ S 4 = .int .i64 (N : Nat) ∧ S 24 = .int .i64 (N : Nat) ∧ S 25 = .int .i64 (n : Nat) ∧ ∀ j, j < n → shortFits s j = false) (fun i S H h => h.2.2.2.2.1) ⟨by simp [s1], by simp [e1], by simp [s4], by simp, by simp, fun j h => absurd h (Nat.not_lt_zero _)⟩ ?_
 clear s1 e1 s4 S H
 rintro n hn S H ⟨s1, e1, s4, s24, s25, hb⟩
 by_cases hlt : n < N
 case neg =>
  have hnl : n = N := by omega
  subst hnl
  rw [hover_all hb]
  simp [s1, e1, s4, s24, s25]
 have hw : IntKind.i64.wrap ((n : Int) + 1) = n + 1 := wrapI (by omega)
 have hws : IntKind.i64.wrap ((N : Int) - (n : Int)) = (N - n : Nat) := by rw [wrapI (by omega)]; omega
 have a110 := ac110f hG s hs (L := N - n) (by omega)
 have hxs := lessS_sheet hsh (k := N - n) (by omega)
 have a80 := ac80f hG (lessS s (N - n)) hxs
 have a107 := ac107f hG (lessS s (N - n)) hxs [] (by simp) (outI_nil hxs)
 have hp : shortFits s n = !(goodS (lessS s (N - n)) []).isEmpty := by unfold shortFits; rw [hNe]
 rw [← hp] at a107
 simp [s1, e1, s4, s24, s25, hlt, sheetL, hws]
 refine ⟨_, by kernel_rfl, a110, by simp [boxy], ?_⟩
 simp [s1, e1, s4, s24, s25, hlt, sheetA, sheetL]
 refine ⟨_, by kernel_rfl, a80, by simp [boxy], ?_⟩
 simp [s1, e1, s4, s24, s25, hlt, frontA, frontL, sheetL, spaces]
 refine ⟨_, by kernel_rfl, a107, by simp [boxy], ?_⟩
 cases hf : shortFits s n
 ·simp [s1, e1, s4, s24, s25, hlt, hw]
  refine ⟨rfl, ?_⟩
  intro j hj
  rcases Nat.lt_or_ge j n with h | h
  ·exact hb j h
  ·rw [show j = n by omega]; exact hf
 ·rw [hover_at n hlt hf hb]
  simp [s1, e1, s4, s24, s25, hlt]
end Go.Proofs.Tryz
namespace Go.Proofs.Tryz
open Go Go.AL Go.RowKit Go.Proofs
attribute [local simp] awp_all qs_all ops_all dops_all ops_nil dops_nil ops_call ops_callv ops_alloc ops_box dops_call dops_alloc kO_eq kD_eq awanted apure ev Eff.S Eff.H tmpOf upd putD AL.start AV.dem AV.cells AV.storable AV.scells splice scrub abin loadA HR.okB post ares aress ares1 AV.out AV.isData ints_len ints_get fz fz1 AV.vw AV.vw1 boxy vI int undefA assignQ thenQ blockQ seqQ panQ prol prolH allocOf
variable {GI : World → Prop}
theorem fits_short {s : Sheet} (hsh : sheetI s = true) {k : Nat} (h : k < letsN s.words) : fitsI (lessS s (letsN s.words - k)) = decide (overI s ≤ k) := by
 rw [← over_iff hsh h]
 unfold fitsI shortFits
 rw [lessS_sheet hsh (by omega), Bool.true_and]
theorem ac13 (hG : Stable GI) (hML : ML GI) (s : Sheet) (k : Int) : AC prog GI 13 [sheetA s, .int .i64 k] (.ret (.bool true)) := by
 have hk := ac24 hG hML
 refine AC.of_body hG hmix func13 rfl ntmps13 (by simp) (ac := c13) (by kernel_rfl) ?_
 refine awp_cut (fun S H => S 1 = .int .i64 k ∧ S 2 = .box 2 0 ∧ H 2 = some (sheetL s)) (by simp [sheetA, sheetL]) ?_
 rintro S H ⟨s1, s2, e2⟩
 simp [s1, s2, e2, sheetL]
 refine ⟨_, by kernel_rfl, ac29 hG s, fun _ => rfl, ?_⟩
 cases hsI : shortI s
 ·simp [s1, s2, e2, sheetL]
  refine ⟨_, by kernel_rfl, hk, fun _ => rfl, ?_⟩
  simp
 have hs := shortI_slim hsI
 simp [s1, s2, e2, sheetL]
 refine ⟨_, by kernel_rfl, ac33 hG s hs, fun _ => rfl, ?_⟩
 cases hsh : sheetI s
 ·simp [s1, s2, e2, sheetL]
  refine ⟨_, by kernel_rfl, hk, fun _ => rfl, ?_⟩
  simp
 by_cases hk0 : k < 0
 ·simp [s1, s2, e2, sheetL, hk0]
  refine ⟨_, by kernel_rfl, hk, fun _ => rfl, ?_⟩
  simp
 have a58 := ac58 hG s hs.words hs.signs
 by_cases hkN : (letsN s.words : Int) ≤ k
 ·simp [s1, s2, e2, sheetL, hk0]
  refine ⟨_, by kernel_rfl, a58, fun _ => rfl, ?_⟩
  simp [s1, s2, e2, sheetL, hkN]
  refine ⟨_, by kernel_rfl, hk, fun _ => rfl, ?_⟩
  simp
 obtain ⟨m, rfl⟩ : ∃ m : Nat, k = m := ⟨k.toNat, by omega⟩
 have hmN : m < letsN s.words := by omega
 have a56 := ac56 hG s hs
 unfold overO at a56
 rw [hsh, if_pos rfl] at a56
 have a59 := ac59 hG s hs (k := m) (by omega)
 have hxs := lessS_sheet hsh (k := letsN s.words - m) (by omega)
 have a49 := ac49 hG (lessS s (letsN s.words - m)) (sheet_slim hxs)
 rw [fits_short hsh hmN, hxs] at a49
 have hle := over_le s
 generalize overI s = o at *
 generalize lessS s (letsN s.words - m) = x at *
 generalize letsN s.words = N at *
 have hkN' : ¬ N ≤ m := by omega
 simp [s1, s2, e2, sheetL, hk0]
 refine ⟨_, by kernel_rfl, a58, fun _ => rfl, ?_⟩
 simp [s1, s2, e2, sheetL, hkN']
 refine ⟨_, by kernel_rfl, a56, by simp [boxy], ?_⟩
 simp [s1, s2, e2, sheetL]
 refine ⟨_, by kernel_rfl, a59, by simp [boxy], ?_⟩
 simp [s1, s2, e2, sheetL]
 refine ⟨_, by kernel_rfl, a49, by simp [boxy, sheetA], ?_⟩
 simp [s1, s2, e2, sheetL]
 refine ⟨_, by kernel_rfl, a58, by simp [boxy], ?_⟩
 simp [s1, s2, e2, sheetL, hle]
 refine ⟨_, by kernel_rfl, hk, fun _ => rfl, ?_⟩
 simp
end Go.Proofs.Tryz
namespace Go.Proofs.YtjdgdinalodjfaaGreatDoor
open Go Go.AL Go.ChangeShapes Go.WideShapes Go.ChangeAt Go.RowKit Go.Proofs.Tryz
set_option maxRecDepth 100000
namespace CutOff
abbrev row : OpenClaim := Rows.letterCutOffRow
abbrev spec : ChangeSpec := Rows.letterCutOffSpec
theorem call (W : World) (base : Nat) (args : Array Value) {H : Type} {enc : TypeId × Value → H} (ds : List (DataW H)) (p : List MemPlace) (hG : GI W) (hval : ∀ (j : Nat) t v, Tryz.f13.params[j]? = some t → args[j]? = some v → Value.okWide Tryz.prog W .any base t v)
  (hA : DataW.TrodAll enc Tryz.prog W 0 (fun _ => true) true Tryz.f13.params.toList args.toList ds p) : Calls Tryz.prog 13 args W fun e W' => e = .returned (.bool true) ∧ Below W.heap.size W W' := by
 rw [Tryz.params13] at hA hval
 obtain ⟨v0, vs0, d0, ds0, p0, q0, e0, rfl, rfl, h0, hr1⟩ := trodAll_cons hA
 obtain ⟨v1, vs1, d1, ds1, p1, q1, e1, rfl, rfl, h1, hr2⟩ := trodAll_cons hr1
 obtain ⟨rfl, rfl, rfl⟩ := trodAll_nil hr2
 obtain rfl : args = #[v0, v1] := by
  apply Array.toList_inj.1; rw [e0, e1]
 obtain ⟨x0, g0, a0⟩ := open_sheet (hval 0 28 v0 rfl rfl) h0
 obtain ⟨x1, g1, a1⟩ := open_int (hval 1 3 v1 rfl rfl) h1
 refine calls_of (ac13 gi_stable (fun _ h => h) x0 x1) hG rfl fun i h h' => ?_
 match i, h with
 | 0, _ => exact .data _ _ a0
 | 1, _ => exact .data _ _ a1
theorem w1 (os : Os) : ((World.laidAll Tryz.prog os row.laid).forCall (fun _ _ => 0) ⟨#[], #[.agg #[.slice none 0 0, .slice none 0 0, .int .i64 0, .int .i64 0, .int .i64 0, .int .i64 0, .int .i64 0, .slice none 0 0, .int .i64 0, .int .i64 0], .int .i64 0], []⟩).Shaped Tryz.checked.prog :=
 World.shaped_of_ZipB (by kernel_rfl) (by kernel_rfl)
theorem lifted (os : Os) (started : os.Started) (H : Type) (enc : TypeId × Value → H) :
  ReturnsInHanded {} Tryz.checked os 13 .any (fun w args => (spec.pre enc Tryz.prog Tryz.f13 row.domain false w args ∧ laidMetH Tryz.prog row.laid w) ∧ sizedMet enc Tryz.prog Tryz.f13 (OpenSpec.ofChange spec) false w args)
   (spec.post enc Tryz.prog Tryz.f13 false true false false) := by
 refine lifted_of 13 Tryz.f13 Tryz.func13 (by kernel_rfl) (by kernel_rfl) spec rfl ?_ ?_ os started _ 12 (w1 os) (by kernel_rfl) (by kernel_rfl) (by kernel_rfl) ?_ (fun W base args ds p => call W base args ds p)
 ·intro ds hl
  rw [show Tryz.f13.params.size = 2 by kernel_rfl] at hl
  match ds, hl with
  | [d0, d1], _ => rfl
 ·rw [Tryz.params13]
  intro t ht
  have : t = 28 ∨ t = 3 := by simpa using ht
  rcases this with rfl | rfl
  all_goals exact ⟨by kernel_rfl, of_decide_eq_true (by kernel_rfl)⟩
 ·rw [MakeChecks.laidMetH_plain _ _ _ (by kernel_rfl)]; exact laidMet_laidAll _ (by kernel_rfl) (by kernel_rfl)
theorem f_named : Tryz.prog.funcNamed "mahlstick/mahlsticklaw01.LetterCutOff" = some 13 := by kernel_rfl
theorem f_inPlace : (row.inPlace == Tryz.prog.inPlace 13) = true := by kernel_rfl
theorem f_unfollowed : (row.unfollowed == Tryz.prog.unfollowed 13) = true := by kernel_rfl
theorem f_recurses : (row.recurses == Tryz.prog.recurses 13) = true := by kernel_rfl
theorem f_vars : (row.named == Tryz.prog.varsNamed 13) = true := by kernel_rfl
theorem joined : joinedFacts Tryz.prog 13 Tryz.f13 spec row = true :=
 joined_of ⟨rfl, rfl, rfl, rfl, rfl, rfl⟩ (by kernel_rfl) (by kernel_rfl) (by kernel_rfl) f_inPlace f_unfollowed f_recurses f_vars (by kernel_rfl) (by kernel_rfl) (by kernel_rfl) (by kernel_rfl)
theorem instanceOf : Tryz.f13.isInstance Tryz.prog row.origin row.targs := of_decide_eq_true (by kernel_rfl)
theorem wrapperOf : Tryz.f13.isWrapper Tryz.prog row.wrapper row.mainSum := by
 unfold Func.isWrapper
 rw [if_neg (by decide +kernel)]
 exact ⟨rfl, rfl⟩
theorem holds : Rows.LetterCutOffSaid :=
 OpenClaim.holds_of_wide 13 Tryz.f13 rfl rfl rfl rfl rfl rfl rfl ⟨rfl, rfl, rfl, rfl, rfl⟩ rfl rfl rfl rfl rfl f_named Tryz.func13 joined instanceOf wrapperOf (fun os started H enc _ => lifted os started H enc)
theorem f_wf : row.wfByText (OpenSpec.ofChange spec) = true := by kernel_rfl
theorem f_goes : false = row.goesBy Tryz.prog := by kernel_rfl
theorem f_stand : ([28, 3].all fun u => !Tryz.prog.wantsStandIn u) = true := by kernel_rfl
theorem f_main : Tryz.prog.mainIs = some (true, "c6c35c26350f8f1001e286baba07dbfbfaca16fe3311917b4f7043a2b45b2948".toList) := by rw [p_mainIs, p_sum]
theorem card : Rows.LetterCutOffCardSaid :=
 Claim7.holds_tied_plain_at .later [] [.data, .data, .data, .data, .pinned] true (true, "c6c35c26350f8f1001e286baba07dbfbfaca16fe3311917b4f7043a2b45b2948") true holds (fun _ h => by cases h) f_wf (fun _ h => by cases h) letterCutOff_row_tie rfl ⟨rfl, rfl⟩ f_main rfl
  (fun f fn hf hfn => by
   obtain rfl : f = 13 := Option.some.inj (f_named.symm.trans hf) |>.symm
   obtain rfl : fn = Tryz.f13 := (Option.some.inj (Tryz.func13.symm.trans hfn)).symm
   refine ⟨p_looks, fun j t ht => ?_⟩
   rw [Tryz.params13] at ht
   have hm : t ∈ [28, 3] := by
    simpa using Array.mem_of_getElem? ht
   exact (show Tryz.prog.wantsStandIn t = false by simpa using List.all_eq_true.1 f_stand t hm))
  f_goes
end CutOff
#print axioms CutOff.card
end Go.Proofs.YtjdgdinalodjfaaGreatDoor
