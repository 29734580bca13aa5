/-
  The statement's function LetterFronts returns true and leaves its arguments as they are, for every sheet, front and word; no condition. The texts before this one hold the layer of abstract values, the code of the functions that are reached, and their contracts.
-/
import Derived.Test.YtjdgdinalodjfaaGreatDoorP1
import Derived.Test.YtjdgdinalodjfaaGreatDoorQ1
set_option linter.all false
set_option linter.unusedVariables false
set_option linter.unusedSimpArgs false
set_option linter.deprecated false
namespace Go.Proofs.Tryz
open Go Go.AL Go.RowKit Go.Proofs
attribute [local simp] awp_all qs_all ops_all dops_all ops_nil dops_nil ops_call ops_callv ops_alloc ops_box dops_call dops_alloc kO_eq kD_eq awanted apure ev Eff.S Eff.H tmpOf upd putD AL.start AV.dem AV.cells AV.storable AV.scells splice scrub abin loadA HR.okB post ares aress ares1 AV.out AV.isData ints_len ints_get fz fz1 AV.vw AV.vw1 boxy vI int undefA assignQ thenQ blockQ seqQ panQ prol prolH allocOf
variable {GI : World → Prop}
theorem wide_sheet {s : Sheet} (hsh : sheetI s = true) {w : Int} (h1 : 1 ≤ w) (h2 : w ≤ 400) : sheetI { s with wide := w } = true := by
 rw [sheetI_all] at hsh ⊢
 obtain ⟨⟨a, b, c, d, e, f, g, h, i⟩, j, k⟩ := hsh
 exact ⟨⟨a, b, c, d, e, f, g, by simp [inI, h1, h2], i⟩, j, k⟩
theorem sum_take_le {l : List Int} (h : ∀ x ∈ l, 0 ≤ x ∧ x ≤ 20) {i : Nat} : 0 ≤ (l.take i).sum ∧ (l.take i).sum ≤ 20 * i := by
 induction i with
 | zero => simp
 | succ i ih =>
  by_cases hi : i < l.length
  ·rw [sum_take hi]
   have := h _ (List.getElem_mem hi)
   omega
  ·rw [List.take_of_length_le (by omega)]
   rw [List.take_of_length_le (by omega)] at ih
   omega
set_option maxRecDepth 20000 in
set_option maxHeartbeats 4000000 in
theorem ac14 (hG : Stable GI) (hML : ML GI) (s : Sheet) (w i : Int) : AC prog GI 14 [sheetA s, .int .i64 w, .int .i64 i] (.ret (.bool true)) := by
 have hk := ac24 hG hML
 refine AC.of_body hG hmix func14 rfl ntmps14 (by simp) (ac := c14) (by kernel_rfl) ?_
 refine awp_cut (fun S H => S 1 = .int .i64 w ∧ S 2 = .int .i64 i ∧ S 3 = .box 3 0 ∧ H 3 = some (sheetL s)) (by simp [sheetA, sheetL]) ?_
 rintro S H ⟨s1, s2, s3, e3⟩
 simp [s1, s2, s3, e3, sheetL]
 refine ⟨_, by kernel_rfl, ac29 hG s, fun _ => rfl, ?_⟩
 cases hsI : shortI s
 ·simp [s1, s2, s3, e3, sheetL]
  refine ⟨_, by kernel_rfl, hk, fun _ => rfl, ?_⟩
  simp
 have hs := shortI_slim hsI
 simp [s1, s2, s3, e3, sheetL]
 refine ⟨_, by kernel_rfl, ac33 hG s hs, fun _ => rfl, ?_⟩
 cases hsh : sheetI s
 ·simp [s1, s2, s3, e3, sheetL]
  refine ⟨_, by kernel_rfl, hk, fun _ => rfl, ?_⟩
  simp
 simp [s1, s2, s3, e3, sheetL]
 refine ⟨_, by kernel_rfl, ac60 hG w, fun _ => rfl, ?_⟩
 cases hw : inI w 1 400
 ·simp [s1, s2, s3, e3, sheetL]
  refine ⟨_, by kernel_rfl, hk, fun _ => rfl, ?_⟩
  simp
 obtain ⟨hw1, hw2⟩ : 1 ≤ w ∧ w ≤ 400 := by simpa [inI] using hw
 by_cases hi0 : i < 0
 ·simp [s1, s2, s3, e3, sheetL, hi0]
  refine ⟨_, by kernel_rfl, hk, fun _ => rfl, ?_⟩
  simp
 by_cases hiN : (s.words.length : Int) ≤ i
 ·simp [s1, s2, s3, e3, sheetL, hi0, hiN]
  refine ⟨_, by kernel_rfl, hk, fun _ => rfl, ?_⟩
  simp
 obtain ⟨m, rfl⟩ : ∃ m : Nat, i = m := ⟨i.toNat, by omega⟩
 have hm : m < s.words.length := by omega
 have hm' : ¬ s.words.length ≤ m := by omega
 have a46 := ac46f hG s hs
 unfold narrowO at a46
 rw [hsh, if_pos rfl] at a46
 have hxs := wide_sheet hsh hw1 hw2
 have a49 := ac49 hG { s with wide := w } (sheet_slim hxs)
 have hfit : fitsI { s with wide := w } = decide (narrowI s ≤ w) := by
  have := narrow_fit hsh (w := w) (by omega)
  unfold fitsI
  rw [hxs, Bool.true_and, Bool.eq_iff_iff]
  simp [this]
 rw [hfit, hxs] at a49
 have hpos := narrow_pos hsh
 have hF := sheetF hsh
 have hwf := wordF hsh (List.getElem_mem hm)
 have hwn := fun h => word_narrow hsh hm h
 have hlen : lenW s m = s.words[m].signs.length := lenW_eq hm
 rw [hlen] at hwn
 have hWl : ((seg m 0 s.words[m].signs.length).map fun g => wdL s (letS s g)).length = s.words[m].signs.length := by unfold seg; simp
 have hWg : ∀ k (h : k < s.words[m].signs.length), ∃ q : Nat, s.words[m].signs[k] = q ∧ ∃ h' : q < s.widths.length, ((seg m 0 s.words[m].signs.length).map fun g => wdL s (letS s g))[k]? = some s.widths[q] := fun k h => by
  obtain ⟨h3, h4⟩ := hwf.sign _ (List.getElem_mem h)
  refine ⟨s.words[m].signs[k].toNat, by omega, by omega, ?_⟩
  unfold seg
  rw [List.getElem?_map, List.getElem?_map, List.getElem?_range' (by simpa using h)]
  simp only [Option.map_some]
  congr 1
  unfold wdL letS
  simp [List.getElem?_eq_getElem hm, List.getElem?_eq_getElem h]
  rw [if_neg (by omega), List.getElem?_eq_getElem (by omega)]; rfl
 generalize ((seg m 0 s.words[m].signs.length).map fun g => wdL s (letS s g)) = WL at hwn hWl hWg
 have hWb : ∀ x ∈ WL, 0 ≤ x ∧ x ≤ 20 := fun x hx => by
  obtain ⟨k, hk', rfl⟩ := List.getElem_of_mem hx
  obtain ⟨q, _, hq, he⟩ := hWg k (by omega)
  rw [List.getElem?_eq_getElem hk'] at he
  have := hF.widths _ (List.getElem_mem hq)
  have e := Option.some.inj he
  omega
 have hp1 : ¬ narrowI s < 1 := by omega
 generalize narrowI s = n at *
 have hxA : (s.words.map wordA)[m]? = some (.agg [vI s.words[m].signs, vI s.words[m].cuts, .bool s.words[m].free]) := by rw [List.getElem?_map, List.getElem?_eq_getElem hm]; rfl
 have l6 := hwf.len6
 simp [s1, s2, s3, e3, sheetL, hi0, hm']
 refine ⟨_, by kernel_rfl, a46, by simp [boxy], ?_⟩
 simp [s1, s2, s3, e3, sheetL]
 refine ⟨_, by kernel_rfl, a49, by simp [boxy], ?_⟩
 simp [s1, s2, s3, e3, sheetL, hp1]
 generalize hxw : s.words[m] = x at *
 have hxA2 : wordA s.words[m] = .agg [vI x.signs, vI x.cuts, .bool x.free] := by rw [hxw]; rfl
 refine awp_loop 13 x.signs.length (fun k S H => S 2 = .int .i64 (m : Nat) ∧ S 3 = .box 3 0 ∧ H 3 = some (sheetL s) ∧ S 7 = .int .i64 n ∧ S 13 = .int .i64 (k : Nat) ∧ S 12 = .int .i64 (WL.take k).sum) (fun i S H h => h.2.2.2.2.1) ⟨by simp [s2], by simp [s3], by simp [e3, sheetL], by simp, by simp, by simp⟩ ?_
 clear s1 s2 s3 e3 S H
 rintro k hkl S H ⟨s2, s3, e3, s7, s13, s12⟩
 have hsb := sum_take_le hWb (i := k)
 by_cases hlt : k < x.signs.length
 case neg =>
  have hk' : k = x.signs.length := by omega
  subst hk'
  rw [List.take_of_length_le (by omega)] at s12
  by_cases hc : x.cuts = []
  ·have := hwn hc
   simp [s2, s3, e3, s7, s13, s12, sheetL, hm, hxA2, hc, this]
   refine ⟨_, by kernel_rfl, hk, fun _ => rfl, ?_⟩
   simp
  ·have hcp : 0 < x.cuts.length := List.length_pos_iff.2 hc
   simp [s2, s3, e3, s7, s13, s12, sheetL, hm, hxA2, hcp]
   refine ⟨_, by kernel_rfl, hk, fun _ => rfl, ?_⟩
   simp
 have hwk : IntKind.i64.wrap ((k : Int) + 1) = k + 1 := wrapI (by omega)
 obtain ⟨q, hq, hql, hWk⟩ := hWg k hlt
 obtain ⟨hkW, hWk⟩ := List.getElem?_eq_some_iff.1 hWk
 have hqb := hF.widths _ (List.getElem_mem hql)
 rw [sum_take hkW, hWk]
 generalize (WL.take k).sum = t at *
 have hwt : IntKind.i64.wrap (t + s.widths[q]) = t + s.widths[q] := wrapI (by omega)
 simp [s2, s3, e3, s7, s13, s12, sheetL, hm, hxA2, hlt, hq, hql, hwk, hwt]
end Go.Proofs.Tryz
namespace Go.Proofs.YtjdgdinalodjfaaGreatDoor
open Go Go.AL Go.ChangeShapes Go.WideShapes Go.ChangeAt Go.RowKit Go.Proofs.Tryz
set_option maxRecDepth 100000
namespace Fronts
abbrev row : OpenClaim := Rows.letterFrontsRow
abbrev spec : ChangeSpec := Rows.letterFrontsSpec
theorem call (W : World) (base : Nat) (args : Array Value) {H : Type} {enc : TypeId × Value → H} (ds : List (DataW H)) (p : List MemPlace) (hG : GI W) (hval : ∀ (j : Nat) t v, Tryz.f14.params[j]? = some t → args[j]? = some v → Value.okWide Tryz.prog W .any base t v)
  (hA : DataW.TrodAll enc Tryz.prog W 0 (fun _ => true) true Tryz.f14.params.toList args.toList ds p) : Calls Tryz.prog 14 args W fun e W' => e = .returned (.bool true) ∧ Below W.heap.size W W' := by
 rw [Tryz.params14] at hA hval
 obtain ⟨v0, vs0, d0, ds0, p0, q0, e0, rfl, rfl, h0, hr1⟩ := trodAll_cons hA
 obtain ⟨v1, vs1, d1, ds1, p1, q1, e1, rfl, rfl, h1, hr2⟩ := trodAll_cons hr1
 obtain ⟨v2, vs2, d2, ds2, p2, q2, e2, rfl, rfl, h2, hr3⟩ := trodAll_cons hr2
 obtain ⟨rfl, rfl, rfl⟩ := trodAll_nil hr3
 obtain rfl : args = #[v0, v1, v2] := by
  apply Array.toList_inj.1; rw [e0, e1, e2]
 obtain ⟨x0, g0, a0⟩ := open_sheet (hval 0 28 v0 rfl rfl) h0
 obtain ⟨x1, g1, a1⟩ := open_int (hval 1 3 v1 rfl rfl) h1
 obtain ⟨x2, g2, a2⟩ := open_int (hval 2 3 v2 rfl rfl) h2
 refine calls_of (ac14 gi_stable (fun _ h => h) x0 x1 x2) hG rfl fun i h h' => ?_
 match i, h with
 | 0, _ => exact .data _ _ a0
 | 1, _ => exact .data _ _ a1
 | 2, _ => exact .data _ _ a2
theorem w1 (os : Os) : ((World.laidAll Tryz.prog os row.laid).forCall (fun _ _ => 0) ⟨#[], #[.agg #[.slice none 0 0, .slice none 0 0, .int .i64 0, .int .i64 0, .int .i64 0, .int .i64 0, .int .i64 0, .slice none 0 0, .int .i64 0, .int .i64 0], .int .i64 0, .int .i64 0], []⟩).Shaped Tryz.checked.prog :=
 World.shaped_of_ZipB (by kernel_rfl) (by kernel_rfl)
theorem lifted (os : Os) (started : os.Started) (H : Type) (enc : TypeId × Value → H) :
  ReturnsInHanded {} Tryz.checked os 14 .any (fun w args => (spec.pre enc Tryz.prog Tryz.f14 row.domain false w args ∧ laidMetH Tryz.prog row.laid w) ∧ sizedMet enc Tryz.prog Tryz.f14 (OpenSpec.ofChange spec) false w args)
   (spec.post enc Tryz.prog Tryz.f14 false true false false) := by
 refine lifted_of 14 Tryz.f14 Tryz.func14 (by kernel_rfl) (by kernel_rfl) spec rfl ?_ ?_ os started _ 12 (w1 os) (by kernel_rfl) (by kernel_rfl) (by kernel_rfl) ?_ (fun W base args ds p => call W base args ds p)
 ·intro ds hl
  rw [show Tryz.f14.params.size = 3 by kernel_rfl] at hl
  match ds, hl with
  | [d0, d1, d2], _ => rfl
 ·rw [Tryz.params14]
  intro t ht
  have : t = 28 ∨ t = 3 := by simpa using ht
  rcases this with rfl | rfl
  all_goals exact ⟨by kernel_rfl, of_decide_eq_true (by kernel_rfl)⟩
 ·rw [MakeChecks.laidMetH_plain _ _ _ (by kernel_rfl)]; exact laidMet_laidAll _ (by kernel_rfl) (by kernel_rfl)
theorem f_named : Tryz.prog.funcNamed "mahlstick/mahlsticklaw01.LetterFronts" = some 14 := by kernel_rfl
theorem f_inPlace : (row.inPlace == Tryz.prog.inPlace 14) = true := by kernel_rfl
theorem f_unfollowed : (row.unfollowed == Tryz.prog.unfollowed 14) = true := by kernel_rfl
theorem f_recurses : (row.recurses == Tryz.prog.recurses 14) = true := by kernel_rfl
theorem f_vars : (row.named == Tryz.prog.varsNamed 14) = true := by kernel_rfl
theorem joined : joinedFacts Tryz.prog 14 Tryz.f14 spec row = true :=
 joined_of ⟨rfl, rfl, rfl, rfl, rfl, rfl⟩ (by kernel_rfl) (by kernel_rfl) (by kernel_rfl) f_inPlace f_unfollowed f_recurses f_vars (by kernel_rfl) (by kernel_rfl) (by kernel_rfl) (by kernel_rfl)
theorem instanceOf : Tryz.f14.isInstance Tryz.prog row.origin row.targs := of_decide_eq_true (by kernel_rfl)
theorem wrapperOf : Tryz.f14.isWrapper Tryz.prog row.wrapper row.mainSum := by
 unfold Func.isWrapper
 rw [if_neg (by decide +kernel)]
 exact ⟨rfl, rfl⟩
theorem holds : Rows.LetterFrontsSaid :=
 OpenClaim.holds_of_wide 14 Tryz.f14 rfl rfl rfl rfl rfl rfl rfl ⟨rfl, rfl, rfl, rfl, rfl⟩ rfl rfl rfl rfl rfl f_named Tryz.func14 joined instanceOf wrapperOf (fun os started H enc _ => lifted os started H enc)
theorem f_wf : row.wfByText (OpenSpec.ofChange spec) = true := by kernel_rfl
theorem f_goes : false = row.goesBy Tryz.prog := by kernel_rfl
theorem f_stand : ([28, 3].all fun u => !Tryz.prog.wantsStandIn u) = true := by kernel_rfl
theorem f_main : Tryz.prog.mainIs = some (true, "c6c35c26350f8f1001e286baba07dbfbfaca16fe3311917b4f7043a2b45b2948".toList) := by rw [p_mainIs, p_sum]
theorem card : Rows.LetterFrontsCardSaid :=
 Claim7.holds_tied_plain_at .later [] [.data, .data, .data, .data, .pinned] true (true, "c6c35c26350f8f1001e286baba07dbfbfaca16fe3311917b4f7043a2b45b2948") true holds (fun _ h => by cases h) f_wf (fun _ h => by cases h) letterFronts_row_tie rfl ⟨rfl, rfl⟩ f_main rfl
  (fun f fn hf hfn => by
   obtain rfl : f = 14 := Option.some.inj (f_named.symm.trans hf) |>.symm
   obtain rfl : fn = Tryz.f14 := (Option.some.inj (Tryz.func14.symm.trans hfn)).symm
   refine ⟨p_looks, fun j t ht => ?_⟩
   rw [Tryz.params14] at ht
   have hm : t ∈ [28, 3] := by
    simpa using Array.mem_of_getElem? ht
   exact (show Tryz.prog.wantsStandIn t = false by simpa using List.all_eq_true.1 f_stand t hm))
  f_goes
end Fronts
#print axioms Fronts.card
end Go.Proofs.YtjdgdinalodjfaaGreatDoor
