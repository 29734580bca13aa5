/-
  The statement's function LetterRival returns true and leaves its arguments as they are, for every sheet and setting; no condition. The texts before this one hold the layer of abstract values, the code of the functions that are reached, and their contracts.
-/
import Derived.Test.YtjdgdinalodjfaaGreatDoorA3
import Derived.Test.YtjdgdinalodjfaaGreatDoorP1
import Derived.Test.YtjdgdinalodjfaaGreatDoorQ1
set_option linter.all false
set_option linter.unusedVariables false
set_option linter.unusedSimpArgs false
set_option linter.deprecated false
namespace Go.AL
theorem awpF_go {P : Program} {GI : World → Prop} {i k : Nat} {x y : ACode} {Q : AExit → Slots → Boxes → Prop} {S : Slots} {H : Boxes} (K : Slots → Boxes → Prop) (hx : awp P GI x (assignQ K) S H) (hy : ∀ S' H', K S' H' → awpF P GI i k y Q S' H') : awpF P GI i (k + 1) (.seq x y) Q S H := by
 refine awpF_cut K (awp_mono x (fun e S H h => ?_) hx) (fun h => awp_mono x h) hy
 cases e <;> first | exact ⟨rfl, h⟩ | exact h.elim
end Go.AL
namespace Go.Proofs.Tryz
open Go Go.AL Go.RowKit Go.Proofs
attribute [local simp] awp_all qs_all ops_all dops_all ops_nil dops_nil ops_call ops_callv ops_alloc ops_box dops_call dops_alloc kO_eq kD_eq awanted apure ev Eff.S Eff.H tmpOf upd putD AL.start AV.dem AV.cells AV.storable AV.scells splice scrub abin loadA HR.okB post ares aress ares1 AV.out AV.isData ints_len ints_get fz fz1 AV.vw AV.vw1 boxy vI int undefA assignQ thenQ blockQ seqQ panQ prol prolH allocOf
variable {GI : World → Prop}
theorem frontL_vw (s : Sheet) : (frontL s).map AV.vw1 = frontL s := by
 simp [frontL, sheetL, spaces, vI, ints, AV.vw1]
theorem frontL_len (s : Sheet) : (frontL s).length = 11 := rfl
theorem frontL_take (s : Sheet) : AV.agg ((frontL s).take 10 |>.map AV.vw1) = sheetA s := by
 simp [frontL, sheetL, sheetA, vI, ints, AV.vw1]
theorem sheet_slim {s : Sheet} (h : sheetI s = true) : Slim s := by
 have hF := sheetF h
 refine ⟨by have := hF.wlen; omega, by have := hF.plen; omega, by have := hF.words; omega, fun w hw => ?_, fun w hw => ?_⟩
 ·have := (wordF h hw).len6; omega
 ·have f := wordF h hw
  have := rises_bound f.cuts (by have := f.len1; omega)
  have := f.len6
  omega
theorem it_set (hG : Stable GI) (s : Sheet) (hsh : sheetI s = true) (out : List Int) (ho : out.length ≤ 1000) : IterC prog GI 144 [.ref (frontL s), .ref [vI out]] ((allS s out s.rows.toNat).map (settingA out)) := by
 have hr := (sheetF hsh).rows
 have he := endsL_len hsh out
 refine it144 hG (oE := .view) (all := endsL s out) (rows := s.rows.toNat) (by omega) (by omega) ho (frontL_len s) ?_ ?_ ?_
 ·intro x hx
  simp [frontL, sheetL] at hx
  rcases hx with rfl | rfl | rfl | rfl | rfl | rfl | rfl | rfl | rfl | rfl <;> exact ⟨rfl, rfl, rfl⟩
 ·show some (AV.int .i64 s.rows) = some (.int .i64 (s.rows.toNat : Nat))
  rw [Int.toNat_of_nonneg (by omega)]
 ·rw [frontL_take]
  exact ac145 hG s (sheet_slim hsh) out (by omega)
theorem allS_good {s : Sheet} (hsh : sheetI s = true) {out : List Int} (hout : outI s out = true) {es : List End} (h : es ∈ allS s out s.rows.toNat) : setR s out es = true ∧ es.length ≤ 3 := by
 have hr := (sheetF hsh).rows
 obtain ⟨h1, h2⟩ := (mem_allS hsh hout).1 h
 exact ⟨h1, by omega⟩
theorem ac86s (hG : Stable GI) (s : Sheet) (hsh : sheetI s = true) (out : List Int) (ho : out.length ≤ 1000) (hout : outI s out = true) {es : List End} (h : es ∈ allS s out s.rows.toNat) : AC prog GI 86 [.agg ((frontL s).map AV.vw1), settingA out es, .int .i64 0] (.ret (.bool (fitI s out es 0))) := by
 obtain ⟨h1, h2⟩ := allS_good hsh hout h
 rw [frontL_vw]
 exact ac86 hG s hsh out (by omega) es (by omega) (good_of hsh h1) (by omega) (by omega)
theorem ac97f (hG : Stable GI) (s : Sheet) (hsh : sheetI s = true) (out : List Int) (ho : out.length ≤ 1000) (hout : outI s out = true) : AC prog GI 97 [frontA s, vI out] (.ret (.slice .view ((goodS s out).map (settingA out)))) := by
 have hr := (sheetF hsh).rows
 have hl := allS_len hsh out (m := s.rows.toNat) (by omega)
 refine AC.as_view (o := if (goodS s out).isEmpty then .nil else .view) ?_
 exact ac97 hG (frontL_len s) (by
  intro x hx
  simp [frontL, sheetL] at hx
  rcases hx with rfl | rfl | rfl | rfl | rfl | rfl | rfl | rfl | rfl | rfl | rfl <;> rfl) (by omega) (fun es h => by have := (allS_good hsh hout h).2; omega) (by rw [frontL_vw]; exact it_set hG s hsh out ho) (fun es h => ac86s hG s hsh out ho hout h)
theorem ac99 (hG : Stable GI) (s : Sheet) (hsh : sheetI s = true) {a b : List End} (ha : setR s [] a = true) (hb : setR s [] b = true) (hal : a.length ≤ 10) (hbl : b.length ≤ 10) : AC prog GI 99 [settingA [] a, settingA [] b, .ref (frontL s)] (.ret (.bool (betterE s a b))) := by
 have ga := ac87 hG s hsh [] (by simp) a (by omega) (good_of hsh ha)
 have gb := ac87 hG s hsh [] (by simp) b (by omega) (good_of hsh hb)
 refine AC.of_body hG hmix func99 rfl ntmps99 (by simp) (ac := c99) (by kernel_rfl) ?_
 refine awp_cut (fun S H => S 2 = .ref (frontL s) ∧ S 3 = .box 3 0 ∧ S 4 = .box 4 0 ∧ H 3 = some [vI [], .slice .view (a.map endA)] ∧ H 4 = some [vI [], .slice .view (b.map endA)]) (by simp [settingA, endsA]) ?_
 rintro S H ⟨s2, s3, s4, e3, e4⟩
 refine awp_cut (fun S H => S 2 = .ref (frontL s) ∧ S 3 = .box 3 0 ∧ S 4 = .box 4 0 ∧ H 3 = some [vI [], .slice .view (a.map endA)] ∧ H 4 = some [vI [], .slice .view (b.map endA)] ∧ S 6 = .int .i64 a.length ∧ S 7 = .int .i64 b.length) (by simp [s2, s3, s4, e3, e4]) ?_
 clear s2 s3 s4 e3 e4 S H
 rintro S H ⟨s2, s3, s4, e3, e4, s6, s7⟩
 unfold betterE betterB
 by_cases hlt : a.length < b.length
 ·have hlt' : (a.length : Int) < b.length := by omega
  simp [s2, s3, s4, e3, e4, s6, s7, hlt, hlt']
 by_cases he : a.length = b.length
 case neg =>
  have hlt' : ¬ (a.length : Int) < b.length := by omega
  have he' : ((a.length : Int) == b.length) = false := by simp; omega
  have he2 : (a.length == b.length) = false := by simpa using he
  simp [s2, s3, s4, e3, e4, s6, s7, hlt, hlt', he', he2]
 simp [s2, s3, s4, e3, e4, s6, s7, he, frontL, sheetL, spaces]
 refine ⟨_, by kernel_rfl, ga, by simp [boxy], ?_⟩
 simp [s2, s3, s4, e3, e4, s6, s7, he, frontL, sheetL, spaces]
 refine ⟨_, by kernel_rfl, gb, by simp [boxy], ?_⟩
 simp [s2, s3, s4, e3, e4, s6, s7, he, frontL, sheetL, spaces]
theorem set_ok2 (l : List (List End)) : elemsOK 2 (l.map (settingA [])) = true := elems_map fun a => ⟨rfl, rfl⟩
theorem bestL_take {α : Type} (better : α → α → Bool) (x : α) {l : List α} {i : Nat} (h : i < l.length) : bestL better x (l.take (i + 1)) = if better l[i] (bestL better x (l.take i)) then l[i] else bestL better x (l.take i) := by
 unfold bestL
 rw [List.take_succ_eq_append_getElem h, List.foldl_append]; rfl
theorem bestL_mem {α : Type} (better : α → α → Bool) : ∀ (l : List α) (x : α), bestL better x l ∈ x :: l
 | [], x => List.mem_cons_self
 | a :: l, x => by
  show bestL better (if better a x then a else x) l ∈ _
  have := bestL_mem better l (if better a x then a else x)
  rcases List.mem_cons.1 this with e | h
  ·rw [e]; split <;> simp
  ·exact List.mem_cons_of_mem _ (List.mem_cons_of_mem _ h)
set_option maxHeartbeats 1000000 in
theorem ac98 (hG : Stable GI) (s : Sheet) (hsh : sheetI s = true) (x : List End) (l : List (List End)) (hl : l.length < 100000) (h : ∀ a ∈ x :: l, setR s [] a = true ∧ a.length ≤ 10) : AC prog GI 98 [.slice .view ((x :: l).map (settingA [])), .func (.func 99) [] [.ref (frontL s)]] (.ret (settingA [] (bestL (betterE s) x l))) := by
 have hok := set_ok2 (x :: l)
 obtain ⟨it, hit, hsz⟩ := info_size (P := prog) (t := 31) (s := 2) (by kernel_rfl)
 have hT : List.take l.length (l.map (settingA [])) = l.map (settingA []) := List.take_of_length_le (by simp)
 have hm : (x :: l).map (settingA []) = settingA [] x :: l.map (settingA []) := rfl
 have hscr : ∀ d, scrub1 d (.ref (frontL s)) = false := fun d => rfl
 have hsx : ∀ a, settingA [] a = .agg [vI [], .slice .view (a.map endA)] := fun _ => rfl
 refine AC.of_body hG hmix func98 rfl ntmps98 (by simp) (ac := c98) (by kernel_rfl) ?_
 refine awp_cut (fun S H => S 4 = .box 4 0 ∧ S 0 = .slice .view (settingA [] x :: l.map (settingA [])) ∧ S 1 = .func (.func 99) [] [.ref (frontL s)] ∧ H 4 = some [.slice .nil [], .slice .nil []]) (by simp [hscr]) ?_
 rintro S H ⟨s4, s0, s1, e4⟩
 refine awp_cut (fun S H => S 4 = .box 4 0 ∧ S 0 = .slice .view (settingA [] x :: l.map (settingA [])) ∧ S 1 = .func (.func 99) [] [.ref (frontL s)] ∧ H 4 = some [.slice .nil [], .slice .nil []] ∧ S 5 = .box 5 0 ∧ H 5 = some [vI [], .slice .view (x.map endA)]) (by simp [s4, s0, s1, e4, hsx, hscr]) ?_
 clear s4 s0 s1 e4 S H
 rintro S H ⟨s4, s0, s1, e4, s5, e5⟩
 rw [hm] at hok
 refine awp_cut (fun S H => S 4 = .box 4 0 ∧ H 4 = some [.slice .nil [], .slice .nil []] ∧ S 5 = .box 5 0 ∧ H 5 = some [vI [], .slice .view ((bestL (betterE s) x l).map endA)]) ?_ ?_
 ·have h1 : (1 : Int) ≤ l.length + 1 := by omega
  simp [s4, s0, s1, e4, s5, e5, bound, hok, h1]
  refine awp_loop 14 l.length (fun i S H => S 1 = .func (.func 99) [] [.ref (frontL s)] ∧ S 4 = .box 4 0 ∧ H 4 = some [.slice .nil [], .slice .nil []] ∧ S 5 = .box 5 0 ∧ H 5 = some [vI [], .slice .view ((bestL (betterE s) x (l.take i)).map endA)] ∧ S 12 = .slice .view (l.map (settingA [])) ∧ S 13 = .int .i64 l.length ∧ S 14 = .int .i64 (i : Nat)) (fun i S H h => h.2.2.2.2.2.2.2) ⟨by simp [s1], by simp [s4], by simp [e4], by simp [s5], by simp [e5, bestL], by simp [hT], by simp, by simp⟩ ?_
  clear s4 s0 s1 e4 s5 e5 S H
  rintro i hi S H ⟨s1, s4, e4, s5, e5, s12, s13, s14⟩
  by_cases hlt : i < l.length
  case neg =>
   have hil : i = l.length := by omega
   subst hil
   rw [List.take_of_length_le (Nat.le_refl _)] at e5
   simp [s1, s4, e4, s5, e5, s12, s13, s14]
  have hw : IntKind.i64.wrap ((i : Int) + 1) = i + 1 := wrapI (by omega)
  have hmem := bestL_mem (betterE s) (l.take i) x
  have hb := h (bestL (betterE s) x (l.take i)) (by
   rcases List.mem_cons.1 hmem with e | e
   ·rw [e]; exact List.mem_cons_self
   ·exact List.mem_cons_of_mem _ (List.mem_of_mem_take e))
  have hi' := h l[i] (List.mem_cons_of_mem _ (List.getElem_mem hlt))
  have a99 := ac99 hG s hsh hi'.1 hb.1 hi'.2 hb.2
  rw [bestL_take _ _ hlt]
  generalize bestL (betterE s) x (l.take i) = o at e5 a99 ⊢
  simp [s1, s4, e4, s5, e5, s12, s13, s14, hlt, hsx, hscr]
  refine ⟨_, by kernel_rfl, a99, by simp [boxy], ?_⟩
  cases betterE s l[i] o
  ·simp [s1, s4, e4, s5, e5, s12, s13, s14, hlt, hsx, hscr, hw]
  ·simp [s1, s4, e4, s5, e5, s12, s13, s14, hlt, hsx, hscr, hw]
 clear s4 s0 s1 e4 s5 e5 S H
 rintro S H ⟨s4, e4, s5, e5⟩
 simp [s4, e4, s5, e5, hsx, hit, hsz, aggT]
def setO (s : Sheet) : List AV := if sheetI s then match goodS s [] with
 | [] => [settingA [] [], .int .i64 0, .int .i64 5]
 | x :: l => [settingA [] (bestL (betterE s) x l), .int .i64 (mostI s [] (bestL (betterE s) x l)), .int .i64 0]
 else [settingA [] [], .int .i64 0, .int .i64 2]
theorem good_ok {s : Sheet} (hsh : sheetI s = true) {a : List End} (h : a ∈ goodS s []) : setR s [] a = true ∧ a.length ≤ 3 ∧ fitI s [] a 0 = true := by
 have hr := (sheetF hsh).rows
 obtain ⟨h1, h2⟩ := (mem_goodS hsh (outI_nil hsh)).1 h
 refine ⟨h1, ?_, h2⟩
 unfold fitI at h2
 simp only [Bool.and_eq_true, decide_eq_true_eq] at h2
 omega
theorem ac40_no (hG : Stable GI) (s : Sheet) (hs : Slim s) (hno : sheetI s = false ∨ goodS s [] = []) : AC prog GI 40 [sheetA s] (.ret (.tup (setO s))) := by
 obtain ⟨it, hit, hsz⟩ := info_size (P := prog) (t := 31) (s := 2) (by kernel_rfl)
 have hsx : ∀ a, settingA [] a = .agg [vI [], .slice .view (a.map endA)] := fun _ => rfl
 refine AC.of_body hG hmix func40 rfl ntmps40 (by simp) (ac := c40) (by kernel_rfl) ?_
 refine awp_cut (fun S H => S 1 = .box 1 0 ∧ S 2 = .box 2 0 ∧ H 1 = some (sheetL s) ∧ H 2 = some [.slice .nil [], .slice .nil []]) (by simp [sheetA, sheetL]) ?_
 rintro S H ⟨s1, s2, e1, e2⟩
 unfold setO
 cases hsh : sheetI s
 ·simp [s1, s2, e1, e2, sheetL]
  refine ⟨_, by kernel_rfl, ac96 hG s hs, fun _ => rfl, ?_⟩
  rw [hsh]
  simp [s1, s2, e1, e2, sheetL, hit, hsz, aggT, hsx, fillA, ints]
 have hg : goodS s [] = [] := by
  rcases hno with h | h
  ·rw [h] at hsh; cases hsh
  ·exact h
 simp [s1, s2, e1, e2, sheetL]
 refine ⟨_, by kernel_rfl, ac96 hG s hs, fun _ => rfl, ?_⟩
 rw [hsh]
 simp [s1, s2, e1, e2, sheetL]
 refine ⟨_, by kernel_rfl, ac80f hG s hsh, by simp [boxy], ?_⟩
 simp [s1, s2, e1, e2, frontA, frontL, sheetL, spaces]
 refine ⟨_, by kernel_rfl, ac97f hG s hsh [] (by simp) (outI_nil hsh), by simp [boxy], ?_⟩
 rw [hg]
 simp [s1, s2, e1, e2, hit, hsz, aggT, hsx, fillA, ints]
set_option maxHeartbeats 1000000 in
theorem ac40 (hG : Stable GI) (s : Sheet) (hs : Slim s) : AC prog GI 40 [sheetA s] (.ret (.tup (setO s))) := by
 cases hsh : sheetI s with
 | false => exact ac40_no hG s hs (.inl hsh)
 | true =>
 cases hg : goodS s [] with
 | nil => exact ac40_no hG s hs (.inr hg)
 | cons x l =>
 obtain ⟨it, hit, hsz⟩ := info_size (P := prog) (t := 31) (s := 2) (by kernel_rfl)
 have hsx : ∀ a, settingA [] a = .agg [vI [], .slice .view (a.map endA)] := fun _ => rfl
 have hl := goodS_len hsh []
 rw [hg] at hl
 simp at hl
 have hall : ∀ a ∈ x :: l, setR s [] a = true ∧ a.length ≤ 10 := fun a ha => by
  have := good_ok hsh (a := a) (by rw [hg]; exact ha)
  exact ⟨this.1, by omega⟩
 have a98 := ac98 hG s hsh x l (by omega) hall
 have hb := hall _ (bestL_mem (betterE s) l x)
 have a87 := ac87 hG s hsh [] (by simp) (bestL (betterE s) x l) (by omega) (good_of hsh hb.1)
 have hn0 : ((l.length : Int) + 1 == 0) = false := by simp; omega
 have ho : setO s = [settingA [] (bestL (betterE s) x l), .int .i64 (mostI s [] (bestL (betterE s) x l)), .int .i64 0] := by
  unfold setO
  rw [hsh, if_pos rfl, hg]
 rw [ho]
 refine AC.of_bodyZ hG hmix 5 5 func40 rfl ntmps40 (by simp) (ac := c40) (by kernel_rfl) ?_
 refine awpF_go (fun S H => S 1 = .box 1 0 ∧ S 2 = .box 2 0 ∧ H 1 = some (sheetL s) ∧ H 2 = some [.slice .nil [], .slice .nil []]) (by simp [sheetA, sheetL]) ?_
 rintro S H ⟨s1, s2, e1, e2⟩
 refine awpF_go (fun S H => S 1 = .box 1 0 ∧ S 2 = .box 2 0 ∧ H 1 = some (sheetL s) ∧ H 2 = some [.slice .nil [], .slice .nil []]) ?_ ?_
 ·simp [s1, s2, e1, e2, sheetL]
  refine ⟨_, by kernel_rfl, ac96 hG s hs, fun _ => rfl, ?_⟩
  rw [hsh]
  simp [s1, s2, e1, e2, sheetL]
 clear s1 s2 e1 e2 S H
 rintro S H ⟨s1, s2, e1, e2⟩
 refine awpF_go (fun S H => S 2 = .box 2 0 ∧ H 2 = some [.slice .nil [], .slice .nil []] ∧ S 5 = .box 5 0 ∧ H 5 = some (frontL s)) ?_ ?_
 ·simp [s1, s2, e1, e2, sheetL]
  refine ⟨_, by kernel_rfl, ac80f hG s hsh, by simp [boxy], ?_⟩
  simp [s1, s2, e1, e2, frontA, frontL, sheetL, spaces]
 clear s1 s2 e1 e2 S H
 rintro S H ⟨s2, e2, s5, e5⟩
 refine awpF_go (fun S H => S 2 = .box 2 0 ∧ H 2 = some [.slice .nil [], .slice .nil []] ∧ S 5 = .box 5 0 ∧ H 5 = some (frontL s) ∧ S 6 = .slice .view ((x :: l).map (settingA []))) ?_ ?_
 ·have a97 := ac97f hG s hsh [] (by simp) (outI_nil hsh)
  rw [hg] at a97
  simp [s2, e2, s5, e5, frontL, sheetL, spaces]
  refine ⟨_, by kernel_rfl, a97, by simp [boxy], ?_⟩
  simp [s2, e2, s5, e5, frontL, sheetL, spaces]
 clear s2 e2 s5 e5 S H
 rintro S H ⟨s2, e2, s5, e5, s6⟩
 refine awpF_go (fun S H => S 2 = .box 2 0 ∧ H 2 = some [.slice .nil [], .slice .nil []] ∧ S 5 = .box 5 0 ∧ H 5 = some (frontL s) ∧ S 6 = .slice .view ((x :: l).map (settingA []))) (by simp [s2, e2, s5, e5, s6, hn0]) ?_
 clear s2 e2 s5 e5 s6 S H
 rintro S H ⟨s2, e2, s5, e5, s6⟩
 refine awpF_zero (frontL s) (fun S H => S 2 = .box 2 0 ∧ H 2 = some [.slice .nil [], .slice .nil []] ∧ S 5 = .ref (frontL s) ∧ S 6 = .slice .view ((x :: l).map (settingA []))) e5 ⟨by simp [s2, frz], by simp [upd, e2], by simp [s5, frz, frontL, sheetL, spaces, AV.dem, vI], by simp [s6, frz, scrub]⟩ ?_
 clear s2 e2 s5 e5 s6 S H
 rintro S H ⟨s2, e2, s5, s6⟩
 refine awp_cut (fun S H => S 2 = .box 2 0 ∧ H 2 = some [.slice .nil [], .slice .nil []] ∧ S 5 = .ref (frontL s) ∧ S 7 = .box 7 0 ∧ H 7 = some [vI [], .slice .view ((bestL (betterE s) x l).map endA)]) ?_ ?_
 ·simp [s2, e2, s5, s6]
  refine ⟨_, by kernel_rfl, a98, by simp [boxy, boxy1], ?_⟩
  simp [s2, e2, s5, s6, hsx]
 clear s2 e2 s5 s6 S H
 rintro S H ⟨s2, e2, s5, s7, e7⟩
 simp [s2, e2, s5, s7, e7, frontL, sheetL, spaces]
 refine ⟨_, by kernel_rfl, a87, by simp [boxy], ?_⟩
 simp [s2, e2, s5, s7, e7, hit, hsz, aggT, hsx]
end Go.Proofs.Tryz
namespace Go.AL
section
variable {P : Program} {GI : World → Prop}
end
end Go.AL
namespace Go.Proofs.Tryz
open Go Go.AL Go.RowKit Go.Proofs
attribute [local simp] awp_all qs_all ops_allN dops_allN ops_nil dops_nil ops_call ops_callv ops_alloc ops_box dops_call dops_alloc kO_eq kD_eq awanted apure ev Eff.S Eff.H tmpOf upd putD AL.start AV.dem AV.cells AV.storable AV.scells splice scrub abin loadA HR.okB post ares aress ares1 AV.out AV.isData ints_len ints_get fz fz1 AV.vw AV.vw1 boxy vI int undefA assignQ thenQ blockQ seqQ panQ prol prolH allocOf
variable {GI : World → Prop}
end Go.Proofs.Tryz
namespace Go.Proofs.Tryz
open Go Go.AL Go.RowKit Go.Proofs
attribute [local simp] awp_all qs_all ops_allN dops_allN ops_nil dops_nil ops_call ops_callv ops_alloc ops_box dops_call dops_alloc kO_eq kD_eq awanted apure ev Eff.S Eff.H tmpOf upd putD AL.start AV.dem AV.cells AV.storable AV.scells splice scrub abin loadA HR.okB post ares aress ares1 AV.out AV.isData ints_len ints_get fz fz1 AV.vw AV.vw1 boxy vI int undefA assignQ thenQ blockQ seqQ panQ prol prolH allocOf
variable {GI : World → Prop}
end Go.Proofs.Tryz
namespace Go.Proofs.Tryz
open Go Go.AL Go.RowKit Go.Proofs
attribute [local simp] awp_all qs_all ops_allN dops_allN ops_nil dops_nil ops_call ops_callv ops_alloc ops_box dops_call dops_alloc kO_eq kD_eq awanted apure ev Eff.S Eff.H tmpOf upd putD AL.start AV.dem AV.cells AV.storable AV.scells splice scrub abin loadA HR.okB post ares aress ares1 AV.out AV.isData ints_len ints_get fz fz1 AV.vw AV.vw1 boxy vI int undefA assignQ thenQ blockQ seqQ panQ prol prolH allocOf
variable {GI : World → Prop}
theorem setting_eq (out : List Int) (es : List End) : settingA out es = .agg [vI out, .slice .view (es.map endA)] := rfl
def setD (s : Sheet) : List End × Int := setF List.length (mostI s []) (minLen List.length (goodS s [])) [] (goodS s [])
end Go.Proofs.Tryz
namespace Go.Proofs.Tryz
open Go Go.AL Go.RowKit Go.Proofs
attribute [local simp] awp_all qs_all ops_all dops_all ops_nil dops_nil ops_call ops_callv ops_alloc ops_box dops_call dops_alloc kO_eq kD_eq awanted apure ev Eff.S Eff.H tmpOf upd putD AL.start AV.dem AV.cells AV.storable AV.scells splice scrub abin loadA HR.okB post ares aress ares1 AV.out AV.isData ints_len ints_get fz fz1 AV.vw AV.vw1 boxy vI int undefA assignQ thenQ blockQ seqQ panQ prol prolH allocOf
variable {GI : World → Prop}
def rowsO (s : Sheet) : List AV := if sheetI s then match goodS s [] with
 | [] => [.int .i64 0, .int .i64 5]
 | x :: l => [.int .i64 (bestL (betterE s) x l).length, .int .i64 0]
 else [.int .i64 0, .int .i64 2]
theorem ac39 (hG : Stable GI) (s : Sheet) (hs : Slim s) : AC prog GI 39 [sheetA s] (.ret (.tup (rowsO s))) := by
 have a40 := ac40 hG s hs
 unfold setO at a40
 unfold rowsO
 refine AC.of_body hG hmix func39 rfl ntmps39 (by simp) (ac := c39) (by kernel_rfl) ?_
 refine awp_cut (fun S H => S 1 = .box 1 0 ∧ H 1 = some (sheetL s)) (by simp [sheetA, sheetL]) ?_
 rintro S H ⟨s1, e1⟩
 cases hsh : sheetI s
 ·rw [hsh] at a40
  simp [s1, e1, sheetL]
  refine ⟨_, by kernel_rfl, a40, by simp [boxy], ?_⟩
  simp [s1, e1, sheetL, setting_eq]
 rw [hsh, if_pos rfl] at a40
 cases hg : goodS s [] with
 | nil =>
  rw [hg] at a40
  simp [s1, e1, sheetL]
  refine ⟨_, by kernel_rfl, a40, by simp [boxy], ?_⟩
  simp [s1, e1, sheetL, setting_eq]
 | cons x l =>
  rw [hg] at a40
  simp only at a40 ⊢
  generalize bestL (betterE s) x l = b at *
  simp [s1, e1, sheetL]
  refine ⟨_, by kernel_rfl, a40, by simp [boxy], ?_⟩
  simp [s1, e1, sheetL, setting_eq]
theorem eqs_end (a b : End) : (a.1 = b.1 ∧ a.2 = b.2) ↔ a = b := by
 obtain ⟨a1, a2⟩ := a
 obtain ⟨b1, b2⟩ := b
 simp
theorem best_doc {s : Sheet} (hsh : sheetI s = true) {x : List End} {l : List (List End)} (hg : goodS s [] = x :: l) : minLen List.length (goodS s []) = (bestL (betterE s) x l).length ∧ setD s = (bestL (betterE s) x l, mostI s [] (bestL (betterE s) x l)) ∧ 0 ≤ mostI s [] (bestL (betterE s) x l) := by
 have hB : IsBest (betterB List.length (mostI s [])) (goodS s []) (bestL (betterE s) x l) := by rw [hg]; exact better_best x l
 have h1 : ∀ y ∈ goodS s [], 1 ≤ y.length := fun y hy => List.length_pos_iff.2 (setR_parts (good_ok hsh hy).1).2.1
 have h2 : ∀ y ∈ goodS s [], 0 ≤ mostI s [] y := fun y hy => by
  obtain ⟨a, _, b⟩ := good_ok hsh hy
  rw [fitI_most hsh (good_of hsh a) (by omega) (by omega)] at b
  simpa using b
 have e1 := minLen_best hB h1
 refine ⟨e1, ?_, h2 _ (by rw [hg]; exact bestL_mem _ _ _)⟩
 unfold setD
 rw [e1]
 exact setF_best hB h2
end Go.Proofs.Tryz
namespace Go.Proofs.Tryz
open Go Go.AL Go.RowKit Go.Proofs
attribute [local simp] awp_all qs_all ops_all dops_all ops_nil dops_nil ops_call ops_callv ops_alloc ops_box dops_call dops_alloc kO_eq kD_eq awanted apure ev Eff.S Eff.H tmpOf upd putD AL.start AV.dem AV.cells AV.storable AV.scells splice scrub abin loadA HR.okB post ares aress ares1 AV.out AV.isData ints_len ints_get fz fz1 AV.vw AV.vw1 boxy vI int undefA assignQ thenQ blockQ seqQ panQ prol prolH allocOf
variable {GI : World → Prop}
theorem befE_drop {a b : List End} {i : Nat} (hb : ∀ j (h1 : j < a.length) (h2 : j < b.length), j < i → a[j] = b[j]) (ha' : i ≤ a.length) (hb' : i ≤ b.length) : befE a b = befE (a.drop i) (b.drop i) := by
 have e : a.take i = b.take i := by
  apply List.ext_getElem
  ·simp; omega
  ·intro j h1 h2
   simp at h1 h2
   simp
   exact hb j (by omega) (by omega) (by omega)
 conv => lhs; rw [← List.take_append_drop i a, ← List.take_append_drop i b, e]
 exact befE_app _ _ _
theorem ac44 (hG : Stable GI) (a b : List End) (ha : a.length < 1000000) : AC prog GI 44 [.slice .view (a.map endA), .slice .view (b.map endA)] (.ret (.bool (befE a b))) := by
 refine AC.of_body hG hmix func44 rfl ntmps44 (by simp) (ac := c44) (by kernel_rfl) ?_
 simp [c44]
 refine awp_loop 5 (min a.length b.length) (fun i S H => S 0 = .slice .view (a.map endA) ∧ S 1 = .slice .view (b.map endA) ∧ S 5 = .int .i64 (i : Nat) ∧ ∀ j (h1 : j < a.length) (h2 : j < b.length), j < i → a[j] = b[j]) (fun i S H h => h.2.2.1) ⟨by simp, by simp, by simp, fun j _ _ h => absurd h (Nat.not_lt_zero _)⟩ ?_
 rintro i hi S H ⟨s0, s1, s5, hb⟩
 have hbd := befE_drop hb (by omega) (by omega)
 by_cases h1 : i < a.length
 case neg =>
  have hn : ¬ (i : Int) < a.length := by omega
  have hil : i = a.length := by omega
  rw [hbd, hil, List.drop_length]
  by_cases h2 : a.length < b.length
  ·have h2' : (a.length : Int) < b.length := by omega
   rw [List.drop_eq_getElem_cons h2]
   simp [s0, s1, s5, hn, h2', befE]
  ·have h2' : ¬ (a.length : Int) < b.length := by omega
   rw [List.drop_of_length_le (by omega)]
   simp [s0, s1, s5, hn, h2', befE]
 by_cases h2 : i < b.length
 case neg =>
  have hn : ¬ (i : Int) < b.length := by omega
  have h2' : ¬ (a.length : Int) < b.length := by omega
  rw [hbd, List.drop_eq_getElem_cons h1, List.drop_of_length_le (show b.length ≤ i by omega)]
  simp [s0, s1, s5, hn, h1, h2', befE]
 have hw : IntKind.i64.wrap ((i : Int) + 1) = i + 1 := wrapI (by omega)
 by_cases he : a[i] = b[i]
 ·simp [s0, s1, s5, h1, h2, hw, he, endA, intsOf2]
  refine ⟨by omega, fun j hj1 hj2 hji => ?_⟩
  by_cases e : j = i
  ·subst e; exact he
  ·exact hb j hj1 hj2 (by omega)
 ·have hb2 : ([a[i].1, a[i].2] != [b[i].1, b[i].2]) = true := by
   rw [bne_iff_ne]; intro e; simp at e; exact he ((eqs_end _ _).1 e)
  have hbe : befE a b = soonerI a[i] b[i] := by
   rw [hbd, List.drop_eq_getElem_cons h1, List.drop_eq_getElem_cons h2]
   show (if a[i] = b[i] then _ else soonerI a[i] b[i]) = _
   rw [if_neg he]
  have a92 := ac92 hG a[i] b[i]
  rw [← hbe] at a92
  simp [s0, s1, s5, h1, h2, endA, intsOf2, hb2]
  refine ⟨_, by kernel_rfl, a92, by simp [boxy], ?_⟩
  simp
theorem good_fits {s : Sheet} (hsh : sheetI s = true) {es : List End} (hset : setR s [] es = true) : es ∈ goodS s [] ↔ 0 ≤ mostI s [] es := by
 rw [mem_goodS hsh (outI_nil hsh), fitI_most hsh (good_of hsh hset) (by omega) (by omega)]
 simp [hset]
set_option maxRecDepth 20000 in
set_option maxHeartbeats 4000000 in
theorem ac7 (hG : Stable GI) (hML : ML GI) (s : Sheet) (x : List Int × List End) : AC prog GI 7 [sheetA s, settingA x.1 x.2] (.ret (.bool true)) := by
 obtain ⟨out, es⟩ := x
 have hk := ac24 hG hML
 refine AC.of_body hG hmix func7 rfl ntmps7 (by simp) (ac := c7) (by kernel_rfl) ?_
 refine awp_cut (fun S H => S 2 = .box 2 0 ∧ S 3 = .box 3 0 ∧ H 2 = some (sheetL s) ∧ H 3 = some [vI out, .slice .view (es.map endA)]) (by simp [sheetA, sheetL, setting_eq]) ?_
 rintro S H ⟨s2, s3, e2, e3⟩
 simp [s2, s3, e2, e3, sheetL]
 refine ⟨_, by kernel_rfl, ac22 hG s out es, fun _ => rfl, ?_⟩
 cases hr : rightI s out es
 ·simp [s2, s3, e2, e3, sheetL]
  refine ⟨_, by kernel_rfl, hk, fun _ => rfl, ?_⟩
  simp
 by_cases hout : out = []
 case neg =>
  have hp : 0 < out.length := List.length_pos_iff.2 hout
  simp [s2, s3, e2, e3, sheetL, hp]
  refine ⟨_, by kernel_rfl, hk, fun _ => rfl, ?_⟩
  simp
 subst hout
 unfold rightI at hr
 simp only [Bool.and_eq_true] at hr
 obtain ⟨hsI, hxI, hsh, hset⟩ := hr
 have hs := shortI_slim hsI
 obtain ⟨_, he⟩ := slimI_len hxI
 have a39 := ac39 hG s hs
 have a40 := ac40 hG s hs
 unfold rowsO at a39
 unfold setO at a40
 rw [hsh, if_pos rfl] at a39 a40
 have a32 := ac32_ok hG s hs hsh [] (by simp) es (by omega) hset
 have hgf := good_fits hsh hset
 simp [s2, s3, e2, e3, sheetL]
 cases hg : goodS s [] with
 | nil =>
  rw [hg] at a39 a40 hgf
  have hn : mostI s [] es < 0 := by
   by_cases h : 0 ≤ mostI s [] es
   ·exact absurd (hgf.2 h) (by simp)
   ·omega
  unfold mostO at a32
  rw [if_pos hn] at a32
  refine ⟨_, by kernel_rfl, a39, by simp [boxy], ?_⟩
  simp [s2, s3, e2, e3, sheetL]
  refine ⟨_, by kernel_rfl, a40, by simp [boxy], ?_⟩
  simp [s2, s3, e2, e3, sheetL, setting_eq, ints]
  refine ⟨_, by kernel_rfl, a32, by simp [boxy], ?_⟩
  simp [s2, s3, e2, e3, sheetL, setting_eq, ints]
  refine ⟨_, by kernel_rfl, hk, fun _ => rfl, ?_⟩
  simp
 | cons y l =>
  obtain ⟨_, _, h3⟩ := best_doc hsh hg
  have hmb : bestL (betterE s) y l ∈ goodS s [] := by rw [hg]; exact bestL_mem _ _ _
  obtain ⟨hb1, hb2, _⟩ := good_ok hsh hmb
  have hB : IsBest (betterE s) (goodS s []) (bestL (betterE s) y l) := by rw [hg]; exact better_best y l
  have hriv := fun h => rival hsh hB (y := es) h
  rw [hg] at a39 a40
  simp only at a39 a40
  generalize bestL (betterE s) y l = b at *
  have a32b := ac32_ok hG s hs hsh [] (by simp) b (by omega) hb1
  unfold mostO at a32b
  rw [if_neg (by omega)] at a32b
  have a30 := ac30 hG [] b
  have hslim : slimI [] b = true := by unfold slimI; simp; omega
  rw [hslim] at a30
  have a34 := ac34 hG s hs [] (by simp) b (by omega)
  rw [hb1] at a34
  simp only [setting_eq] at a40 a32b a30 a34
  by_cases hn : mostI s [] es < 0
  ·unfold mostO at a32
   rw [if_pos hn] at a32
   refine ⟨_, by kernel_rfl, a39, by simp [boxy], ?_⟩
   simp [s2, s3, e2, e3, sheetL]
   refine ⟨_, by kernel_rfl, a40, by simp [boxy], ?_⟩
   simp [s2, s3, e2, e3, sheetL]
   refine ⟨_, by kernel_rfl, a32, by simp [boxy], ?_⟩
   simp [s2, s3, e2, e3, sheetL]
   refine ⟨_, by kernel_rfl, a30, by simp [boxy], ?_⟩
   simp [s2, s3, e2, e3, sheetL]
   refine ⟨_, by kernel_rfl, a34, by simp [boxy], ?_⟩
   simp [s2, s3, e2, e3, sheetL, ints]
   refine ⟨_, by kernel_rfl, a32b, by simp [boxy], ?_⟩
   simp [s2, s3, e2, e3, sheetL]
   refine ⟨_, by kernel_rfl, hk, fun _ => rfl, ?_⟩
   simp
  have hriv := hriv (hgf.2 (by omega))
  unfold mostO at a32
  rw [if_neg hn] at a32
  refine ⟨_, by kernel_rfl, a39, by simp [boxy], ?_⟩
  simp [s2, s3, e2, e3, sheetL]
  refine ⟨_, by kernel_rfl, a40, by simp [boxy], ?_⟩
  simp [s2, s3, e2, e3, sheetL]
  refine ⟨_, by kernel_rfl, a32, by simp [boxy], ?_⟩
  simp [s2, s3, e2, e3, sheetL]
  refine ⟨_, by kernel_rfl, a30, by simp [boxy], ?_⟩
  simp [s2, s3, e2, e3, sheetL]
  refine ⟨_, by kernel_rfl, a34, by simp [boxy], ?_⟩
  simp [s2, s3, e2, e3, sheetL, ints]
  refine ⟨_, by kernel_rfl, a32b, by simp [boxy], ?_⟩
  by_cases hl : es.length = b.length
  case neg =>
   have hl' : ((es.length : Int) != b.length) = true := by simp; omega
   have hgt : (b.length : Int) < es.length := by omega
   simp [s2, s3, e2, e3, sheetL, hl', hgt]
   refine ⟨_, by kernel_rfl, hk, fun _ => rfl, ?_⟩
   simp
  have hl' : ((es.length : Int) != b.length) = false := by simp; omega
  have hriv : mostI s [] es < mostI s [] b ∨ mostI s [] es = mostI s [] b ∧ befE es b = false := by
   rcases hriv with h | ⟨_, h⟩
   ·omega
   ·exact h
  rcases hriv with hm | ⟨hm, hbe⟩
  ·have hm' : mostI s [] es ≤ mostI s [] b := by omega
   simp [s2, s3, e2, e3, sheetL, hl', hm, hm']
   refine ⟨_, by kernel_rfl, hk, fun _ => rfl, ?_⟩
   simp
  ·have a44 := ac44 hG es b (by omega)
   rw [hbe] at a44
   simp [s2, s3, e2, e3, sheetL, hl', hm]
   refine ⟨_, by kernel_rfl, a44, by simp [boxy], ?_⟩
   simp [s2, s3, e2, e3, sheetL]
   refine ⟨_, by kernel_rfl, hk, fun _ => rfl, ?_⟩
   simp
end Go.Proofs.Tryz
namespace Go.Proofs.YtjdgdinalodjfaaGreatDoor
open Go Go.AL Go.ChangeShapes Go.WideShapes Go.ChangeAt Go.RowKit Go.Proofs.Tryz
set_option maxRecDepth 100000
namespace Rival
abbrev row : OpenClaim := Rows.letterRivalRow
abbrev spec : ChangeSpec := Rows.letterRivalSpec
theorem call (W : World) (base : Nat) (args : Array Value) {H : Type} {enc : TypeId × Value → H} (ds : List (DataW H)) (p : List MemPlace) (hG : GI W) (hval : ∀ (j : Nat) t v, Tryz.f7.params[j]? = some t → args[j]? = some v → Value.okWide Tryz.prog W .any base t v)
  (hA : DataW.TrodAll enc Tryz.prog W 0 (fun _ => true) true Tryz.f7.params.toList args.toList ds p) : Calls Tryz.prog 7 args W fun e W' => e = .returned (.bool true) ∧ Below W.heap.size W W' := by
 rw [Tryz.params7] at hA hval
 obtain ⟨v0, vs0, d0, ds0, p0, q0, e0, rfl, rfl, h0, hr1⟩ := trodAll_cons hA
 obtain ⟨v1, vs1, d1, ds1, p1, q1, e1, rfl, rfl, h1, hr2⟩ := trodAll_cons hr1
 obtain ⟨rfl, rfl, rfl⟩ := trodAll_nil hr2
 obtain rfl : args = #[v0, v1] := by
  apply Array.toList_inj.1; rw [e0, e1]
 obtain ⟨x0, g0, a0⟩ := open_sheet (hval 0 28 v0 rfl rfl) h0
 obtain ⟨x1, g1, a1⟩ := open_set (hval 1 31 v1 rfl rfl) h1
 refine calls_of (ac7 gi_stable (fun _ h => h) x0 x1) hG rfl fun i h h' => ?_
 match i, h with
 | 0, _ => exact .data _ _ a0
 | 1, _ => exact .data _ _ a1
theorem w1 (os : Os) : ((World.laidAll Tryz.prog os row.laid).forCall (fun _ _ => 0) ⟨#[], #[.agg #[.slice none 0 0, .slice none 0 0, .int .i64 0, .int .i64 0, .int .i64 0, .int .i64 0, .int .i64 0, .slice none 0 0, .int .i64 0, .int .i64 0], .agg #[.slice none 0 0, .slice none 0 0]], []⟩).Shaped Tryz.checked.prog :=
 World.shaped_of_ZipB (by kernel_rfl) (by kernel_rfl)
theorem lifted (os : Os) (started : os.Started) (H : Type) (enc : TypeId × Value → H) :
  ReturnsInHanded {} Tryz.checked os 7 .any (fun w args => (spec.pre enc Tryz.prog Tryz.f7 row.domain false w args ∧ laidMetH Tryz.prog row.laid w) ∧ sizedMet enc Tryz.prog Tryz.f7 (OpenSpec.ofChange spec) false w args)
   (spec.post enc Tryz.prog Tryz.f7 false true false false) := by
 refine lifted_of 7 Tryz.f7 Tryz.func7 (by kernel_rfl) (by kernel_rfl) spec rfl ?_ ?_ os started _ 12 (w1 os) (by kernel_rfl) (by kernel_rfl) (by kernel_rfl) ?_ (fun W base args ds p => call W base args ds p)
 ·intro ds hl
  rw [show Tryz.f7.params.size = 2 by kernel_rfl] at hl
  match ds, hl with
  | [d0, d1], _ => rfl
 ·rw [Tryz.params7]
  intro t ht
  have : t = 28 ∨ t = 31 := by simpa using ht
  rcases this with rfl | rfl
  all_goals exact ⟨by kernel_rfl, of_decide_eq_true (by kernel_rfl)⟩
 ·rw [MakeChecks.laidMetH_plain _ _ _ (by kernel_rfl)]; exact laidMet_laidAll _ (by kernel_rfl) (by kernel_rfl)
theorem f_named : Tryz.prog.funcNamed "mahlstick/mahlsticklaw01.LetterRival" = some 7 := by kernel_rfl
theorem f_inPlace : (row.inPlace == Tryz.prog.inPlace 7) = true := by kernel_rfl
theorem f_unfollowed : (row.unfollowed == Tryz.prog.unfollowed 7) = true := by kernel_rfl
theorem f_recurses : (row.recurses == Tryz.prog.recurses 7) = true := by kernel_rfl
theorem f_vars : (row.named == Tryz.prog.varsNamed 7) = true := by kernel_rfl
theorem joined : joinedFacts Tryz.prog 7 Tryz.f7 spec row = true :=
 joined_of ⟨rfl, rfl, rfl, rfl, rfl, rfl⟩ (by kernel_rfl) (by kernel_rfl) (by kernel_rfl) f_inPlace f_unfollowed f_recurses f_vars (by kernel_rfl) (by kernel_rfl) (by kernel_rfl) (by kernel_rfl)
theorem instanceOf : Tryz.f7.isInstance Tryz.prog row.origin row.targs := of_decide_eq_true (by kernel_rfl)
theorem wrapperOf : Tryz.f7.isWrapper Tryz.prog row.wrapper row.mainSum := by
 unfold Func.isWrapper
 rw [if_neg (by decide +kernel)]
 exact ⟨rfl, rfl⟩
theorem holds : Rows.LetterRivalSaid :=
 OpenClaim.holds_of_wide 7 Tryz.f7 rfl rfl rfl rfl rfl rfl rfl ⟨rfl, rfl, rfl, rfl, rfl⟩ rfl rfl rfl rfl rfl f_named Tryz.func7 joined instanceOf wrapperOf (fun os started H enc _ => lifted os started H enc)
theorem f_wf : row.wfByText (OpenSpec.ofChange spec) = true := by kernel_rfl
theorem f_goes : false = row.goesBy Tryz.prog := by kernel_rfl
theorem f_stand : ([28, 31].all fun u => !Tryz.prog.wantsStandIn u) = true := by kernel_rfl
theorem f_main : Tryz.prog.mainIs = some (true, "c6c35c26350f8f1001e286baba07dbfbfaca16fe3311917b4f7043a2b45b2948".toList) := by rw [p_mainIs, p_sum]
theorem card : Rows.LetterRivalCardSaid :=
 Claim7.holds_tied_plain_at .later [] [.data, .data, .data, .data, .pinned] true (true, "c6c35c26350f8f1001e286baba07dbfbfaca16fe3311917b4f7043a2b45b2948") true holds (fun _ h => by cases h) f_wf (fun _ h => by cases h) letterRival_row_tie rfl ⟨rfl, rfl⟩ f_main rfl
  (fun f fn hf hfn => by
   obtain rfl : f = 7 := Option.some.inj (f_named.symm.trans hf) |>.symm
   obtain rfl : fn = Tryz.f7 := (Option.some.inj (Tryz.func7.symm.trans hfn)).symm
   refine ⟨p_looks, fun j t ht => ?_⟩
   rw [Tryz.params7] at ht
   have hm : t ∈ [28, 31] := by
    simpa using Array.mem_of_getElem? ht
   exact (show Tryz.prog.wantsStandIn t = false by simpa using List.all_eq_true.1 f_stand t hm))
  f_goes
end Rival
#print axioms Rival.card
end Go.Proofs.YtjdgdinalodjfaaGreatDoor
