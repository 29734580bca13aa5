/-
  The statement's function LetterListed returns true and leaves its arguments as they are, for every sheet and setting; no condition. The texts before this one hold the layer of abstract values, the code of the functions that are reached, and their contracts.
-/
import Derived.Test.YtjdgdinalodjfaaGreatDoorP1
import Derived.Test.YtjdgdinalodjfaaGreatDoorQ1
set_option linter.all false
set_option linter.unusedVariables false
set_option linter.unusedSimpArgs false
set_option linter.deprecated false
namespace Go.Proofs.Tryz
open Go Go.AL Go.RowKit Go.Proofs
attribute [local simp] awp_all qs_all ops_allN dops_allN ops_nil dops_nil ops_call ops_callv ops_alloc ops_box dops_call dops_alloc kO_eq kD_eq awanted apure ev Eff.S Eff.H tmpOf upd putD AL.start AV.dem AV.cells AV.storable AV.scells splice scrub abin loadA HR.okB post ares aress ares1 AV.out AV.isData ints_len ints_get fz fz1 AV.vw AV.vw1 boxy vI int undefA assignQ thenQ blockQ seqQ panQ prol prolH allocOf
variable {GI : World → Prop}
end Go.Proofs.Tryz
namespace Go.Proofs.Tryz
open Go Go.AL Go.RowKit Go.Proofs
attribute [local simp] awp_all qs_all ops_allN dops_allN ops_nil dops_nil ops_call ops_callv ops_alloc ops_box dops_call dops_alloc kO_eq kD_eq awanted apure ev Eff.S Eff.H tmpOf upd putD AL.start AV.dem AV.cells AV.storable AV.scells splice scrub abin loadA HR.okB post ares aress ares1 AV.out AV.isData ints_len ints_get fz fz1 AV.vw AV.vw1 boxy vI int undefA assignQ thenQ blockQ seqQ panQ prol prolH allocOf
variable {GI : World → Prop}
theorem setting_eq (out : List Int) (es : List End) : settingA out es = .agg [vI out, .slice .view (es.map endA)] := rfl
end Go.Proofs.Tryz
namespace Go.Proofs.Tryz
open Go Go.AL Go.RowKit Go.Proofs
attribute [local simp] awp_all qs_all ops_all dops_all ops_nil dops_nil ops_call ops_callv ops_alloc ops_box dops_call dops_alloc kO_eq kD_eq awanted apure ev Eff.S Eff.H tmpOf upd putD AL.start AV.dem AV.cells AV.storable AV.scells splice scrub abin loadA HR.okB post ares aress ares1 AV.out AV.isData ints_len ints_get fz fz1 AV.vw AV.vw1 boxy vI int undefA assignQ thenQ blockQ seqQ panQ prol prolH allocOf
variable {GI : World → Prop}
def rowsO (s : Sheet) : List AV := if sheetI s then match goodS s [] with
 | [] => [.int .i64 0, .int .i64 5]
 | x :: l => [.int .i64 (bestL (betterE s) x l).length, .int .i64 0]
 else [.int .i64 0, .int .i64 2]
theorem ac39 (hG : Stable GI) (s : Sheet) (hs : Slim s) : AC prog GI 39 [sheetA s] (.ret (.tup (rowsO s))) := by
 have a40 := ac40 hG s hs
 unfold setO at a40
 unfold rowsO
 refine AC.of_body hG hmix func39 rfl ntmps39 (by simp) (ac := c39) (by kernel_rfl) ?_
 refine awp_cut (fun S H => S 1 = .box 1 0 ∧ H 1 = some (sheetL s)) (by simp [sheetA, sheetL]) ?_
 rintro S H ⟨s1, e1⟩
 cases hsh : sheetI s
 ·rw [hsh] at a40
  simp [s1, e1, sheetL]
  refine ⟨_, by kernel_rfl, a40, by simp [boxy], ?_⟩
  simp [s1, e1, sheetL, setting_eq]
 rw [hsh, if_pos rfl] at a40
 cases hg : goodS s [] with
 | nil =>
  rw [hg] at a40
  simp [s1, e1, sheetL]
  refine ⟨_, by kernel_rfl, a40, by simp [boxy], ?_⟩
  simp [s1, e1, sheetL, setting_eq]
 | cons x l =>
  rw [hg] at a40
  simp only at a40 ⊢
  generalize bestL (betterE s) x l = b at *
  simp [s1, e1, sheetL]
  refine ⟨_, by kernel_rfl, a40, by simp [boxy], ?_⟩
  simp [s1, e1, sheetL, setting_eq]
theorem eqs_end (a b : End) : (a.1 = b.1 ∧ a.2 = b.2) ↔ a = b := by
 obtain ⟨a1, a2⟩ := a
 obtain ⟨b1, b2⟩ := b
 simp
theorem ac100 (hG : Stable GI) (a b : List End) (ha : a.length < 1000000) : AC prog GI 100 [.slice .view (a.map endA), .slice .view (b.map endA)] (.ret (.bool (a == b))) := by
 refine AC.of_body hG hmix func100 rfl ntmps100 (by simp) (ac := c100) (by kernel_rfl) ?_
 by_cases hl : a.length = b.length
 case neg =>
  have hl' : ((a.length : Int) != b.length) = true := by simp; omega
  have hne : (a == b) = false := by
   rw [beq_eq_false_iff_ne]; intro e; exact hl (by rw [e])
  simp [c100, hl', hne]
 have hl' : ((a.length : Int) != b.length) = false := by simp; omega
 simp [c100, hl']
 refine awp_loop 5 a.length (fun i S H => S 0 = .slice .view (a.map endA) ∧ S 1 = .slice .view (b.map endA) ∧ S 5 = .int .i64 (i : Nat) ∧ ∀ j (hj : j < a.length), j < i → a[j] = b[j]'(by omega)) (fun i S H h => h.2.2.1) ⟨by simp, by simp, by simp, fun j _ h => absurd h (Nat.not_lt_zero _)⟩ ?_
 rintro i hi S H ⟨s0, s1, s5, hb⟩
 by_cases hlt : i < a.length
 case neg =>
  have he : (a == b) = true := by
   rw [beq_iff_eq]
   exact List.ext_getElem hl fun j h1 h2 => hb j h1 (by omega)
  have hn : ¬ (i : Int) < a.length := by omega
  simp [s0, s1, s5, hn, he]
 have hw : IntKind.i64.wrap ((i : Int) + 1) = i + 1 := wrapI (by omega)
 have hlb : i < b.length := by omega
 by_cases he : a[i] = b[i]
 ·simp [s0, s1, s5, hlt, hlb, hw, he, endA, intsOf2]
  intro j hj hji
  by_cases e : j = i
  ·subst e; exact he
  ·exact hb j hj (by omega)
 ·have hne : (a == b) = false := by
   rw [beq_eq_false_iff_ne]; intro e; subst e; exact he rfl
  have he' : ¬ (a[i].1 = b[i].1 ∧ a[i].2 = b[i].2) := fun h => he ((eqs_end _ _).1 h)
  have hb2 : ([a[i].1, a[i].2] != [b[i].1, b[i].2]) = true := by
   rw [bne_iff_ne]; intro e; simp at e; exact he' e
  simp [s0, s1, s5, hlt, hlb, endA, intsOf2, hne, hb2]
theorem ac41 (hG : Stable GI) (o1 o2 : List Int) (e1 e2 : List End) (h1 : o1.length < 1000000) (h2 : e1.length < 1000000) : AC prog GI 41 [settingA o1 e1, settingA o2 e2] (.ret (.bool (o1 == o2 && e1 == e2))) := by
 refine AC.of_body hG hmix func41 rfl ntmps41 (by simp) (ac := c41) (by kernel_rfl) ?_
 refine awp_cut (fun S H => S 2 = .box 2 0 ∧ S 3 = .box 3 0 ∧ H 2 = some [vI o1, .slice .view (e1.map endA)] ∧ H 3 = some [vI o2, .slice .view (e2.map endA)]) (by simp [setting_eq]) ?_
 rintro S H ⟨s2, s3, e2', e3⟩
 simp [s2, s3, e2', e3]
 refine ⟨_, by kernel_rfl, ac52 hG o1 o2 h1, fun _ => rfl, ?_⟩
 cases o1 == o2
 ·simp
 simp [s2, s3, e2', e3]
 refine ⟨_, by kernel_rfl, ac100 hG e1 e2 h2, fun _ => rfl, ?_⟩
 simp
end Go.Proofs.Tryz
namespace Go.Proofs.Tryz
open Go Go.AL Go.RowKit Go.Proofs
attribute [local simp] awp_all qs_all ops_all dops_all ops_nil dops_nil ops_call ops_callv ops_alloc ops_box dops_call dops_alloc kO_eq kD_eq awanted apure ev Eff.S Eff.H tmpOf upd putD AL.start AV.dem AV.cells AV.storable AV.scells splice scrub abin loadA HR.okB post ares aress ares1 AV.out AV.isData ints_len ints_get fz fz1 AV.vw AV.vw1 boxy vI int undefA assignQ thenQ blockQ seqQ panQ prol prolH allocOf
variable {GI : World → Prop}
def countO (s : Sheet) : List AV := if sheetI s then [.int .i64 (goodS s []).length, .int .i64 0] else [.int .i64 0, .int .i64 2]
theorem ac45 (hG : Stable GI) (s : Sheet) (hs : Slim s) : AC prog GI 45 [sheetA s] (.ret (.tup (countO s))) := by
 unfold countO
 refine AC.of_body hG hmix func45 rfl ntmps45 (by simp) (ac := c45) (by kernel_rfl) ?_
 refine awp_cut (fun S H => S 1 = .box 1 0 ∧ H 1 = some (sheetL s)) (by simp [sheetA, sheetL]) ?_
 rintro S H ⟨s1, e1⟩
 simp [s1, e1, sheetL]
 refine ⟨_, by kernel_rfl, ac96 hG s hs, fun _ => rfl, ?_⟩
 cases hsh : sheetI s
 ·simp [s1, e1, sheetL]
 simp [s1, e1, sheetL]
 refine ⟨_, by kernel_rfl, ac80f hG s hsh, by simp [boxy], ?_⟩
 simp [s1, e1, frontA, frontL, sheetL, spaces]
 refine ⟨_, by kernel_rfl, ac97f hG s hsh [] (by simp) (outI_nil hsh), by simp [boxy], ?_⟩
 simp
end Go.Proofs.Tryz
namespace Go.Proofs.Tryz
open Go Go.AL Go.RowKit Go.Proofs
attribute [local simp] awp_all qs_all ops_all dops_all ops_nil dops_nil ops_call ops_callv ops_alloc ops_box dops_call dops_alloc kO_eq kD_eq awanted apure ev Eff.S Eff.H tmpOf upd putD AL.start AV.dem AV.cells AV.storable AV.scells splice scrub abin loadA HR.okB post ares aress ares1 AV.out AV.isData ints_len ints_get fz fz1 AV.vw AV.vw1 boxy vI int undefA assignQ thenQ blockQ seqQ panQ prol prolH allocOf
variable {GI : World → Prop}
def fitsI (s : Sheet) : Bool := sheetI s && !(goodS s []).isEmpty
theorem ac49 (hG : Stable GI) (s : Sheet) (hs : Slim s) : AC prog GI 49 [sheetA s] (.ret (.tup [.bool (fitsI s), .bool (sheetI s)])) := by
 have a39 := ac39 hG s hs
 unfold rowsO at a39
 unfold fitsI
 refine AC.of_body hG hmix func49 rfl ntmps49 (by simp) (ac := c49) (by kernel_rfl) ?_
 refine awp_cut (fun S H => S 1 = .box 1 0 ∧ H 1 = some (sheetL s)) (by simp [sheetA, sheetL]) ?_
 rintro S H ⟨s1, e1⟩
 simp [s1, e1, sheetL]
 cases hsh : sheetI s
 ·rw [hsh] at a39
  refine ⟨_, by kernel_rfl, a39, by simp [boxy], ?_⟩
  simp
 rw [hsh, if_pos rfl] at a39
 cases hg : goodS s [] with
 | nil =>
  rw [hg] at a39
  refine ⟨_, by kernel_rfl, a39, by simp [boxy], ?_⟩
  simp
 | cons x l =>
  rw [hg] at a39
  refine ⟨_, by kernel_rfl, a39, by simp [boxy], ?_⟩
  simp
set_option maxRecDepth 20000 in
set_option maxHeartbeats 4000000 in
theorem ac9 (hG : Stable GI) (hML : ML GI) (s : Sheet) (x : List Int × List End) : AC prog GI 9 [sheetA s, settingA x.1 x.2] (.ret (.bool true)) := by
 obtain ⟨out, es⟩ := x
 have hk := ac24 hG hML
 refine AC.of_body hG hmix func9 rfl ntmps9 (by simp) (ac := c9) (by kernel_rfl) ?_
 refine awp_cut (fun S H => S 2 = .box 2 0 ∧ S 3 = .box 3 0 ∧ H 2 = some (sheetL s) ∧ H 3 = some [vI out, .slice .view (es.map endA)]) (by simp [sheetA, sheetL, setting_eq]) ?_
 rintro S H ⟨s2, s3, e2, e3⟩
 simp [s2, s3, e2, e3, sheetL]
 refine ⟨_, by kernel_rfl, ac22 hG s out es, fun _ => rfl, ?_⟩
 cases hr : rightI s out es
 ·simp [s2, s3, e2, e3, sheetL]
  refine ⟨_, by kernel_rfl, hk, fun _ => rfl, ?_⟩
  simp
 by_cases hout : out = []
 case neg =>
  have hp : 0 < out.length := List.length_pos_iff.2 hout
  simp [s2, s3, e2, e3, sheetL, hp]
  refine ⟨_, by kernel_rfl, hk, fun _ => rfl, ?_⟩
  simp
 subst hout
 unfold rightI at hr
 simp only [Bool.and_eq_true] at hr
 obtain ⟨hsI, hxI, hsh, hset⟩ := hr
 have hs := shortI_slim hsI
 obtain ⟨_, he⟩ := slimI_len hxI
 have a45 := ac45 hG s hs
 have a49 := ac49 hG s hs
 have a40 := ac40 hG s hs
 have a31 := ac31_ok hG s hs hsh [] (by simp) es (by omega) hset (st := 0) (by omega) (by omega)
 unfold countO at a45
 unfold fitsI at a49
 unfold setO at a40
 rw [hsh, if_pos rfl] at a45 a40
 rw [hsh, Bool.true_and] at a49
 have hl := goodS_len hsh []
 have hown : fitI s [] es 0 = true → es ∈ goodS s [] := fun h => (mem_goodS hsh (outI_nil hsh)).2 ⟨hset, h⟩
 simp [s2, s3, e2, e3, sheetL]
 cases hg : goodS s [] with
 | nil =>
  rw [hg] at a45 a49 a40 hown
  have hf : fitI s [] es 0 = false := by
   cases h : fitI s [] es 0 with
   | false => rfl
   | true => exact absurd (hown h) (by simp)
  rw [hf] at a31
  refine ⟨_, by kernel_rfl, a45, by simp [boxy], ?_⟩
  simp [s2, s3, e2, e3, sheetL]
  refine ⟨_, by kernel_rfl, a49, by simp [boxy], ?_⟩
  simp [s2, s3, e2, e3, sheetL]
  refine ⟨_, by kernel_rfl, a40, by simp [boxy], ?_⟩
  simp [s2, s3, e2, e3, sheetL, setting_eq, ints]
  refine ⟨_, by kernel_rfl, a31, by simp [boxy], ?_⟩
  simp [s2, s3, e2, e3, sheetL]
  refine ⟨_, by kernel_rfl, hk, fun _ => rfl, ?_⟩
  simp
 | cons y l =>
  have hmb : bestL (betterE s) y l ∈ goodS s [] := by rw [hg]; exact bestL_mem _ _ _
  obtain ⟨_, hb2, _⟩ := good_ok hsh hmb
  rw [hg] at a45 a49 a40 hown hl hmb
  simp only at a40
  generalize bestL (betterE s) y l = b at *
  have a41 := ac41 hG [] [] b es (by simp) (by omega)
  simp only [setting_eq] at a40 a41
  have hne : (!(y :: l).isEmpty) = true := rfl
  rw [hne] at a49
  have hn0 : ¬ ((l.length : Int) + 1 < 0) := by omega
  have hn1 : ¬ (277 < (l.length : Int) + 1) := by simp at hl; omega
  have hn2 : (0 : Int) < (l.length : Int) + 1 := by omega
  have e1 : (((y :: l).length : Nat) : Int) = (l.length : Int) + 1 := by simp
  rw [e1] at a45
  refine ⟨_, by kernel_rfl, a45, by simp [boxy], ?_⟩
  simp [s2, s3, e2, e3, sheetL]
  refine ⟨_, by kernel_rfl, a49, by simp [boxy], ?_⟩
  simp [s2, s3, e2, e3, sheetL]
  refine ⟨_, by kernel_rfl, a40, by simp [boxy], ?_⟩
  simp [s2, s3, e2, e3, sheetL]
  refine ⟨_, by kernel_rfl, a31, by simp [boxy], ?_⟩
  cases hf : fitI s [] es 0
  ·simp [s2, s3, e2, e3, sheetL, hn0, hn1, hn2]
   refine ⟨_, by kernel_rfl, hk, fun _ => rfl, ?_⟩
   simp
  simp [s2, s3, e2, e3, sheetL, hn0, hn1, hn2]
  refine ⟨_, by kernel_rfl, a41, by simp [boxy], ?_⟩
  by_cases hbe : b = es
  ·have hb' : (([] : List Int) == [] && b == es) = true := by simp [hbe]
   rw [hb']
   simp [s2, s3, e2, e3, sheetL]
   refine ⟨_, by kernel_rfl, hk, fun _ => rfl, ?_⟩
   simp
  ·have hb' : (([] : List Int) == [] && b == es) = false := by simp [hbe]
   have h2 := two_len hmb (hown hf) hbe
   have h2' : (1 : Int) < (l.length : Int) + 1 := by simp at h2; omega
   rw [hb']
   simp [s2, s3, e2, e3, sheetL, h2']
   refine ⟨_, by kernel_rfl, hk, fun _ => rfl, ?_⟩
   simp
end Go.Proofs.Tryz
namespace Go.Proofs.YtjdgdinalodjfaaGreatDoor
open Go Go.AL Go.ChangeShapes Go.WideShapes Go.ChangeAt Go.RowKit Go.Proofs.Tryz
set_option maxRecDepth 100000
namespace Listed
abbrev row : OpenClaim := Rows.letterListedRow
abbrev spec : ChangeSpec := Rows.letterListedSpec
theorem call (W : World) (base : Nat) (args : Array Value) {H : Type} {enc : TypeId × Value → H} (ds : List (DataW H)) (p : List MemPlace) (hG : GI W) (hval : ∀ (j : Nat) t v, Tryz.f9.params[j]? = some t → args[j]? = some v → Value.okWide Tryz.prog W .any base t v)
  (hA : DataW.TrodAll enc Tryz.prog W 0 (fun _ => true) true Tryz.f9.params.toList args.toList ds p) : Calls Tryz.prog 9 args W fun e W' => e = .returned (.bool true) ∧ Below W.heap.size W W' := by
 rw [Tryz.params9] at hA hval
 obtain ⟨v0, vs0, d0, ds0, p0, q0, e0, rfl, rfl, h0, hr1⟩ := trodAll_cons hA
 obtain ⟨v1, vs1, d1, ds1, p1, q1, e1, rfl, rfl, h1, hr2⟩ := trodAll_cons hr1
 obtain ⟨rfl, rfl, rfl⟩ := trodAll_nil hr2
 obtain rfl : args = #[v0, v1] := by
  apply Array.toList_inj.1; rw [e0, e1]
 obtain ⟨x0, g0, a0⟩ := open_sheet (hval 0 28 v0 rfl rfl) h0
 obtain ⟨x1, g1, a1⟩ := open_set (hval 1 31 v1 rfl rfl) h1
 refine calls_of (ac9 gi_stable (fun _ h => h) x0 x1) hG rfl fun i h h' => ?_
 match i, h with
 | 0, _ => exact .data _ _ a0
 | 1, _ => exact .data _ _ a1
theorem w1 (os : Os) : ((World.laidAll Tryz.prog os row.laid).forCall (fun _ _ => 0) ⟨#[], #[.agg #[.slice none 0 0, .slice none 0 0, .int .i64 0, .int .i64 0, .int .i64 0, .int .i64 0, .int .i64 0, .slice none 0 0, .int .i64 0, .int .i64 0], .agg #[.slice none 0 0, .slice none 0 0]], []⟩).Shaped Tryz.checked.prog :=
 World.shaped_of_ZipB (by kernel_rfl) (by kernel_rfl)
theorem lifted (os : Os) (started : os.Started) (H : Type) (enc : TypeId × Value → H) :
  ReturnsInHanded {} Tryz.checked os 9 .any (fun w args => (spec.pre enc Tryz.prog Tryz.f9 row.domain false w args ∧ laidMetH Tryz.prog row.laid w) ∧ sizedMet enc Tryz.prog Tryz.f9 (OpenSpec.ofChange spec) false w args)
   (spec.post enc Tryz.prog Tryz.f9 false true false false) := by
 refine lifted_of 9 Tryz.f9 Tryz.func9 (by kernel_rfl) (by kernel_rfl) spec rfl ?_ ?_ os started _ 12 (w1 os) (by kernel_rfl) (by kernel_rfl) (by kernel_rfl) ?_ (fun W base args ds p => call W base args ds p)
 ·intro ds hl
  rw [show Tryz.f9.params.size = 2 by kernel_rfl] at hl
  match ds, hl with
  | [d0, d1], _ => rfl
 ·rw [Tryz.params9]
  intro t ht
  have : t = 28 ∨ t = 31 := by simpa using ht
  rcases this with rfl | rfl
  all_goals exact ⟨by kernel_rfl, of_decide_eq_true (by kernel_rfl)⟩
 ·rw [MakeChecks.laidMetH_plain _ _ _ (by kernel_rfl)]; exact laidMet_laidAll _ (by kernel_rfl) (by kernel_rfl)
theorem f_named : Tryz.prog.funcNamed "mahlstick/mahlsticklaw01.LetterListed" = some 9 := by kernel_rfl
theorem f_inPlace : (row.inPlace == Tryz.prog.inPlace 9) = true := by kernel_rfl
theorem f_unfollowed : (row.unfollowed == Tryz.prog.unfollowed 9) = true := by kernel_rfl
theorem f_recurses : (row.recurses == Tryz.prog.recurses 9) = true := by kernel_rfl
theorem f_vars : (row.named == Tryz.prog.varsNamed 9) = true := by kernel_rfl
theorem joined : joinedFacts Tryz.prog 9 Tryz.f9 spec row = true :=
 joined_of ⟨rfl, rfl, rfl, rfl, rfl, rfl⟩ (by kernel_rfl) (by kernel_rfl) (by kernel_rfl) f_inPlace f_unfollowed f_recurses f_vars (by kernel_rfl) (by kernel_rfl) (by kernel_rfl) (by kernel_rfl)
theorem instanceOf : Tryz.f9.isInstance Tryz.prog row.origin row.targs := of_decide_eq_true (by kernel_rfl)
theorem wrapperOf : Tryz.f9.isWrapper Tryz.prog row.wrapper row.mainSum := by
 unfold Func.isWrapper
 rw [if_neg (by decide +kernel)]
 exact ⟨rfl, rfl⟩
theorem holds : Rows.LetterListedSaid :=
 OpenClaim.holds_of_wide 9 Tryz.f9 rfl rfl rfl rfl rfl rfl rfl ⟨rfl, rfl, rfl, rfl, rfl⟩ rfl rfl rfl rfl rfl f_named Tryz.func9 joined instanceOf wrapperOf (fun os started H enc _ => lifted os started H enc)
theorem f_wf : row.wfByText (OpenSpec.ofChange spec) = true := by kernel_rfl
theorem f_goes : false = row.goesBy Tryz.prog := by kernel_rfl
theorem f_stand : ([28, 31].all fun u => !Tryz.prog.wantsStandIn u) = true := by kernel_rfl
theorem f_main : Tryz.prog.mainIs = some (true, "c6c35c26350f8f1001e286baba07dbfbfaca16fe3311917b4f7043a2b45b2948".toList) := by rw [p_mainIs, p_sum]
theorem card : Rows.LetterListedCardSaid :=
 Claim7.holds_tied_plain_at .later [] [.data, .data, .data, .data, .pinned] true (true, "c6c35c26350f8f1001e286baba07dbfbfaca16fe3311917b4f7043a2b45b2948") true holds (fun _ h => by cases h) f_wf (fun _ h => by cases h) letterListed_row_tie rfl ⟨rfl, rfl⟩ f_main rfl
  (fun f fn hf hfn => by
   obtain rfl : f = 9 := Option.some.inj (f_named.symm.trans hf) |>.symm
   obtain rfl : fn = Tryz.f9 := (Option.some.inj (Tryz.func9.symm.trans hfn)).symm
   refine ⟨p_looks, fun j t ht => ?_⟩
   rw [Tryz.params9] at ht
   have hm : t ∈ [28, 31] := by
    simpa using Array.mem_of_getElem? ht
   exact (show Tryz.prog.wantsStandIn t = false by simpa using List.all_eq_true.1 f_stand t hm))
  f_goes
end Listed
#print axioms Listed.card
end Go.Proofs.YtjdgdinalodjfaaGreatDoor
