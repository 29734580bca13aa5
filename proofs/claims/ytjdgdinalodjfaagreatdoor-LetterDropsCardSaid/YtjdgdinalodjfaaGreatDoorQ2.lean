/-
  The statement's function LetterDrops returns true and leaves its argument as it is, for every sheet; no condition. The texts before this one hold the layer of abstract values, the code of the functions that are reached, and their contracts.
-/
import Derived.Test.YtjdgdinalodjfaaGreatDoorA3
import Derived.Test.YtjdgdinalodjfaaGreatDoorP1
import Derived.Test.YtjdgdinalodjfaaGreatDoorQ1
set_option linter.all false
set_option linter.unusedVariables false
set_option linter.unusedSimpArgs false
set_option linter.deprecated false
namespace Go.Proofs.Tryz
open Go Go.AL Go.RowKit Go.Proofs
attribute [local simp] awp_all qs_all ops_allN dops_allN ops_nil dops_nil ops_call ops_callv ops_alloc ops_box dops_call dops_alloc kO_eq kD_eq awanted apure ev Eff.S Eff.H tmpOf upd putD AL.start AV.dem AV.cells AV.storable AV.scells splice scrub abin loadA HR.okB post ares aress ares1 AV.out AV.isData ints_len ints_get fz fz1 AV.vw AV.vw1 boxy vI int undefA assignQ thenQ blockQ seqQ panQ prol prolH allocOf
variable {GI : World → Prop}
end Go.Proofs.Tryz
namespace Go.Proofs.Tryz
open Go Go.AL Go.RowKit Go.Proofs
attribute [local simp] awp_all qs_all ops_allN dops_allN ops_nil dops_nil ops_call ops_callv ops_alloc ops_box dops_call dops_alloc kO_eq kD_eq awanted apure ev Eff.S Eff.H tmpOf upd putD AL.start AV.dem AV.cells AV.storable AV.scells splice scrub abin loadA HR.okB post ares aress ares1 AV.out AV.isData ints_len ints_get fz fz1 AV.vw AV.vw1 boxy vI int undefA assignQ thenQ blockQ seqQ panQ prol prolH allocOf
variable {GI : World → Prop}
theorem foldl_take {l : List Int} {i : Nat} (h : i < l.length) : maxL (l.take (i + 1)) = max (maxL (l.take i)) l[i] := by
 unfold maxL
 rw [List.take_succ_eq_append_getElem h, List.foldl_append]; rfl
theorem ac94 (hG : Stable GI) (l : List Int) (hl : l.length < 1000000) : AC prog GI 94 [vI l] (.ret (.int .i64 (maxL l))) := by
 refine AC.of_body hG hmix func94 rfl ntmps94 (by simp) (ac := c94) (by kernel_rfl) ?_
 simp [c94, ops_ap, dops_ap]
 refine awp_loop 4 l.length (fun i S H => S 0 = vI l ∧ S 4 = .int .i64 (i : Nat) ∧ S 3 = .int .i64 (maxL (l.take i))) (fun i S H h => h.2.1) ⟨by simp [ops_ap, dops_ap], by simp [ops_ap, dops_ap], by simp [ops_ap, dops_ap, maxL]⟩ ?_
 rintro i hi S H ⟨s0, s4, s3⟩
 by_cases hlt : i < l.length
 ·have hw : IntKind.i64.wrap ((i : Int) + 1) = i + 1 := wrapI (by omega)
  rw [foldl_take hlt]
  simp [ops_ap, dops_ap, s0, s4, s3, hlt, hw]
 ·have hil : i = l.length := by omega
  subst hil
  simp [ops_ap, dops_ap, s0, s4, s3]
theorem fitI_max {s : Sheet} (hw : 0 ≤ s.wide) {out : List Int} {es : List End} {st : Int} : fitI s out es st = (decide ((es.length : Int) ≤ s.rows) && decide (maxL (widthsI s out es st) ≤ s.wide)) := by
 unfold fitI
 congr 1
 rw [Bool.eq_iff_iff]
 simp [maxL_le hw]
theorem ac36 (hG : Stable GI) (s : Sheet) (hs : Slim s) (hsh : sheetI s = true) (out : List Int) (ho : out.length < 1000000) (es : List End) (he : es.length < 100000) (hset : setR s out es = true) {st : Int} (h0 : 0 ≤ st) (h1 : st ≤ 10) : AC prog GI 36 [sheetA s, settingA out es, .int .i64 st] (.ret (.bool (fitI s out es st))) := by
 rw [fitI_max (by have := (sheetF hsh).wide; omega)]
 refine AC.of_body hG hmix func36 rfl ntmps36 (by simp) (ac := c36) (by kernel_rfl) ?_
 refine awp_cut (fun S H => S 3 = .box 3 0 ∧ S 4 = .box 4 0 ∧ S 2 = .int .i64 st ∧ H 3 = some (sheetL s) ∧ H 4 = some [vI out, .slice .view (es.map endA)]) (by simp [ops_ap, dops_ap, sheetA, sheetL, settingA, endsA]) ?_
 rintro S H ⟨s3, s4, s2, e3, e4⟩
 by_cases hr : (es.length : Int) ≤ s.rows
 case neg => simp [ops_ap, dops_ap, s2, s3, s4, e3, e4, sheetL, hr]
 simp [ops_ap, dops_ap, s2, s3, s4, e3, e4, sheetL, hr]
 refine ⟨_, by kernel_rfl, ac66 hG s hs hsh out ho es he (setR_parts hset).2.1 (good_of hsh hset) h0 h1, by simp [boxy], ?_⟩
 simp [ops_ap, dops_ap, s2, s3, s4, e3, e4, sheetL, hr]
 refine ⟨_, by kernel_rfl, ac94 hG _ (by rw [widthsI_len]; omega), by simp [boxy], ?_⟩
 simp [ops_ap, dops_ap, s2, s3, s4, e3, e4, sheetL, hr]
end Go.Proofs.Tryz
namespace Go.AL
theorem ops_panic {P : Program} {GI : World → Prop} (x d rest K Qp S H) : aops P GI (⟨d, none, .panic x⟩ :: rest) K Qp S H = (match ev S x with
  | .iface t v => Qp (.iface t v)
  | _ => False) := rfl
end Go.AL
namespace Go.Proofs.Tryz
open Go Go.AL Go.RowKit Go.Proofs
attribute [local simp] awp_all qs_all ops_all dops_all ops_nil dops_nil ops_call ops_callv ops_alloc ops_box dops_call dops_alloc kO_eq kD_eq awanted apure ev Eff.S Eff.H tmpOf upd putD AL.start AV.dem AV.cells AV.storable AV.scells splice scrub abin loadA HR.okB post ares aress ares1 AV.out AV.isData ints_len ints_get fz fz1 AV.vw AV.vw1 boxy vI int undefA assignQ thenQ blockQ seqQ panQ prol prolH allocOf
variable {GI : World → Prop}
def wide133 (s : Sheet) (out : List Int) (es : List End) (st : Int) : Int := firstT (fun n => decide (s.wide < n)) (widthsI s out es st)
theorem fit_wide {s : Sheet} {out : List Int} {es : List End} {st : Int} : ((widthsI s out es st).all fun n => decide (n ≤ s.wide)) = decide (wide133 s out es st < 0) := by
 have h := firstT_any (p := fun n => decide (s.wide < n)) (l := widthsI s out es st)
 have e : ((widthsI s out es st).all fun n => decide (n ≤ s.wide)) = !((widthsI s out es st).any fun n => decide (s.wide < n)) := by
  rw [Bool.eq_iff_iff]
  simp
 rw [e, ← h]
 unfold wide133
 by_cases hz : 0 ≤ firstT (fun n => decide (s.wide < n)) (widthsI s out es st)
 ·have : ¬ firstT (fun n => decide (s.wide < n)) (widthsI s out es st) < 0 := by omega
  simp [hz, this]
 ·have : firstT (fun n => decide (s.wide < n)) (widthsI s out es st) < 0 := by omega
  simp [hz, this]
def out133 (s : Sheet) (out : List Int) (es : List End) (st : Int) : AOut := if wide133 s out es st < 0 then .ret (.tup []) else .panic (.iface 161 (.agg [.int .i64 (wide133 s out es st)]))
set_option maxHeartbeats 2000000 in
theorem ac133 (hG : Stable GI) (s : Sheet) (hsh : sheetI s = true) (out : List Int) (ho : out.length < 1000000) (es : List End) (he : es.length < 100000) (g : Good s out es) {st : Int} (h0 : 0 ≤ st) (h1 : st ≤ 10) : AC prog GI 133 [.ref (frontL s), .ref [vI out, .slice .view (es.map endA)], .ref [.int .i64 st]] (out133 s out es st) := by
 have hlw := widthsI_len s out es st
 refine AC.of_body hG hmix func133 rfl ntmps133 (by simp) (ac := c133) (by kernel_rfl) ?_
 refine awp_cut (fun S H => S 0 = .ref (frontL s) ∧ S 2 = .ref [.int .i64 st] ∧ S 7 = .slice .view (linesL s out es es.length) ∧ S 8 = .int .i64 es.length ∧ S 9 = .int .i64 0) ?_ ?_
 ·simp [frontL, sheetL, spaces]
  refine ⟨_, by kernel_rfl, ac81 hG s hsh out ho es he g, by simp [boxy], ?_⟩
  simp [linesL_len]
 rintro S H ⟨s0, s2, s7, s8, s9⟩
 simp [s0, s2, s7, s8, s9]
 refine awp_loop 9 es.length (fun i S H => S 0 = .ref (frontL s) ∧ S 2 = .ref [.int .i64 st] ∧ S 7 = .slice .view (linesL s out es es.length) ∧ S 8 = .int .i64 es.length ∧ S 9 = .int .i64 (i : Nat) ∧ ∀ j (hj : j < (widthsI s out es st).length), j < i → decide (s.wide < (widthsI s out es st)[j]) = false) (fun i S H h => h.2.2.2.2.1) ⟨by simp [s0], by simp [s2], by simp [s7], by simp [s8], by simp [s9], fun j _ hj => absurd hj (Nat.not_lt_zero _)⟩ ?_
 clear s0 s2 s7 s8 s9 S H
 rintro i hi S H ⟨s0, s2, s7, s8, s9, hb⟩
 by_cases hlt : i < es.length
 case neg =>
  have hn : wide133 s out es st < 0 := by
   unfold wide133
   rw [firstT_none fun j hj => hb j hj (by omega)]; decide
  unfold out133
  rw [if_pos hn]
  simp [s0, s2, s7, s8, s9, hlt]
 have hw : IntKind.i64.wrap ((i : Int) + 1) = i + 1 := wrapI (by omega)
 have hln : (linesL s out es es.length)[i]? = some (.agg [.slice .view ((rowI s out es i).map gA), .bool (cutI s es i)]) := by
  unfold linesL
  rw [List.getElem?_map, List.getElem?_range hlt]; rfl
 have hwi : (widthsI s out es st)[i]'(by omega) = wideI s out es st i := by unfold widthsI; simp
 refine awp_cut (fun S H => S 0 = .ref (frontL s) ∧ S 2 = .ref [.int .i64 st] ∧ S 7 = .slice .view (linesL s out es es.length) ∧ S 8 = .int .i64 es.length ∧ S 9 = .int .i64 (i : Nat) ∧ S 10 = .bool true) (by simp [s0, s2, s7, s8, s9, hlt]) ?_
 clear s0 s2 s7 s8 s9 S H
 rintro S H ⟨s0, s2, s7, s8, s9, s10⟩
 refine awp_go (by simp [s10]) ?_
 refine awp_in ?_
 refine awp_cut (fun S H => S 0 = .ref (frontL s) ∧ S 2 = .ref [.int .i64 st] ∧ S 7 = .slice .view (linesL s out es es.length) ∧ S 8 = .int .i64 es.length ∧ S 9 = .int .i64 (i : Nat) ∧ S 3 = .int .i64 (i : Nat) ∧ S 4 = .box 4 0 ∧ H 4 = some [.slice .view ((rowI s out es i).map gA), .bool (cutI s es i)]) (by simp [s0, s2, s7, s8, s9, hlt, hln]) ?_
 clear s0 s2 s7 s8 s9 s10 S H
 rintro S H ⟨s0, s2, s7, s8, s9, s3, s4, e4⟩
 have a84 := ac84 hG s hsh (rowI_ne g hlt) (rowI_len hsh g i) (fun x hx => rowI_mem g hx) (cutI s es i) h0 h1
 have hfirst : s.wide < wideI s out es st i → wide133 s out es st = i := fun h => by
  unfold wide133
  exact firstT_at (i := i) (by omega) (by rw [hwi]; simpa using h) hb
 simp [s0, s2, s7, s8, s9, s3, s4, e4, frontL, sheetL, spaces]
 refine ⟨_, by kernel_rfl, a84, by simp [boxy], ?_⟩
 by_cases hwide : s.wide < wideI s out es st i
 ·have hwide' : s.wide < wideP s st ((rowI s out es i).map (letS s)) (cutI s es i) := hwide
  have hf := hfirst hwide
  unfold out133
  rw [if_neg (by omega), hf]
  simp [s0, s2, s7, s8, s9, s3, s4, e4, frontL, sheetL, spaces, hwide', ops_panic, fillA]
 ·have hwide' : ¬ s.wide < wideP s st ((rowI s out es i).map (letS s)) (cutI s es i) := hwide
  simp [s0, s2, s7, s8, s9, s3, s4, e4, frontL, sheetL, spaces, hwide', hw, hlt]
  intro j hj hji
  by_cases e : j = i
  ·subst e; rw [hwi]; omega
  ·have := hb j hj (by omega); simpa using this
theorem ac86 (hG : Stable GI) (s : Sheet) (hsh : sheetI s = true) (out : List Int) (ho : out.length < 1000000) (es : List End) (he : es.length < 100000) (g : Good s out es) {st : Int} (h0 : 0 ≤ st) (h1 : st ≤ 10) : AC prog GI 86 [frontA s, settingA out es, .int .i64 st] (.ret (.bool (fitI s out es st))) := by
 have a := ac133 hG s hsh out ho es he g h0 h1
 have e : fitI s out es st = (decide ((es.length : Int) ≤ s.rows) && decide (wide133 s out es st < 0)) := by unfold fitI; rw [fit_wide]
 rw [e]
 refine AC.of_body hG hmix func86 rfl ntmps86 (by simp) (ac := c86) (by kernel_rfl) ?_
 refine awp_cut (fun S H => S 3 = .box 3 0 ∧ S 4 = .box 4 0 ∧ S 5 = .box 5 0 ∧ H 3 = some (frontL s) ∧ H 4 = some [vI out, .slice .view (es.map endA)] ∧ H 5 = some [.int .i64 st]) (by simp [frontA, frontL, sheetL, spaces, settingA, endsA]) ?_
 rintro S H ⟨s3, s4, s5, e3, e4, e5⟩
 by_cases hr : (es.length : Int) ≤ s.rows
 case neg => simp [s3, s4, s5, e3, e4, e5, frontL, sheetL, spaces, hr]
 unfold out133 at a
 by_cases hw : wide133 s out es st < 0
 ·rw [if_pos hw] at a
  have b := ac117 hG (k := 133) (by kernel_rfl) a (.inl ⟨_, rfl, rfl⟩)
  simp [s3, s4, s5, e3, e4, e5, frontL, sheetL, spaces, hr]
  refine ⟨_, by kernel_rfl, b, fun _ => rfl, ?_⟩
  simp [hw]
 ·rw [if_neg hw] at a
  have b := ac117 hG (k := 133) (by kernel_rfl) a (.inr (.inl ⟨_, rfl, rfl⟩))
  simp [s3, s4, s5, e3, e4, e5, frontL, sheetL, spaces, hr]
  refine ⟨_, by kernel_rfl, b, fun _ => rfl, ?_⟩
  simp [hw]
end Go.Proofs.Tryz
namespace Go.AL
end Go.AL
namespace Go.Proofs.Tryz
open Go Go.AL Go.RowKit Go.Proofs
attribute [local simp] awp_all qs_all ops_all dops_all ops_nil dops_nil ops_call ops_callv ops_alloc ops_box dops_call dops_alloc kO_eq kD_eq awanted apure ev Eff.S Eff.H tmpOf upd putD AL.start AV.dem AV.cells AV.storable AV.scells splice scrub abin loadA HR.okB post ares aress ares1 AV.out AV.isData ints_len ints_get fz fz1 AV.vw AV.vw1 boxy vI int undefA assignQ thenQ blockQ seqQ panQ prol prolH allocOf
variable {GI : World → Prop}
theorem frontL_vw (s : Sheet) : (frontL s).map AV.vw1 = frontL s := by
 simp [frontL, sheetL, spaces, vI, ints, AV.vw1]
theorem frontL_len (s : Sheet) : (frontL s).length = 11 := rfl
theorem frontL_take (s : Sheet) : AV.agg ((frontL s).take 10 |>.map AV.vw1) = sheetA s := by
 simp [frontL, sheetL, sheetA, vI, ints, AV.vw1]
theorem sheet_slim {s : Sheet} (h : sheetI s = true) : Slim s := by
 have hF := sheetF h
 refine ⟨by have := hF.wlen; omega, by have := hF.plen; omega, by have := hF.words; omega, fun w hw => ?_, fun w hw => ?_⟩
 ·have := (wordF h hw).len6; omega
 ·have f := wordF h hw
  have := rises_bound f.cuts (by have := f.len1; omega)
  have := f.len6
  omega
theorem it_set (hG : Stable GI) (s : Sheet) (hsh : sheetI s = true) (out : List Int) (ho : out.length ≤ 1000) : IterC prog GI 144 [.ref (frontL s), .ref [vI out]] ((allS s out s.rows.toNat).map (settingA out)) := by
 have hr := (sheetF hsh).rows
 have he := endsL_len hsh out
 refine it144 hG (oE := .view) (all := endsL s out) (rows := s.rows.toNat) (by omega) (by omega) ho (frontL_len s) ?_ ?_ ?_
 ·intro x hx
  simp [frontL, sheetL] at hx
  rcases hx with rfl | rfl | rfl | rfl | rfl | rfl | rfl | rfl | rfl | rfl <;> exact ⟨rfl, rfl, rfl⟩
 ·show some (AV.int .i64 s.rows) = some (.int .i64 (s.rows.toNat : Nat))
  rw [Int.toNat_of_nonneg (by omega)]
 ·rw [frontL_take]
  exact ac145 hG s (sheet_slim hsh) out (by omega)
theorem allS_good {s : Sheet} (hsh : sheetI s = true) {out : List Int} (hout : outI s out = true) {es : List End} (h : es ∈ allS s out s.rows.toNat) : setR s out es = true ∧ es.length ≤ 3 := by
 have hr := (sheetF hsh).rows
 obtain ⟨h1, h2⟩ := (mem_allS hsh hout).1 h
 exact ⟨h1, by omega⟩
theorem ac86s (hG : Stable GI) (s : Sheet) (hsh : sheetI s = true) (out : List Int) (ho : out.length ≤ 1000) (hout : outI s out = true) {es : List End} (h : es ∈ allS s out s.rows.toNat) : AC prog GI 86 [.agg ((frontL s).map AV.vw1), settingA out es, .int .i64 0] (.ret (.bool (fitI s out es 0))) := by
 obtain ⟨h1, h2⟩ := allS_good hsh hout h
 rw [frontL_vw]
 exact ac86 hG s hsh out (by omega) es (by omega) (good_of hsh h1) (by omega) (by omega)
theorem ac107f (hG : Stable GI) (s : Sheet) (hsh : sheetI s = true) (out : List Int) (ho : out.length ≤ 1000) (hout : outI s out = true) : AC prog GI 107 [frontA s, vI out] (.ret (.bool (!(goodS s out).isEmpty))) := by
 have e : (!(goodS s out).isEmpty) = (allS s out s.rows.toNat).any fun es => fitI s out es 0 := by
  unfold goodS
  rw [Bool.eq_iff_iff]
  simp [List.filter_eq_nil_iff]
 rw [e]
 exact ac107 hG (frontL_len s) (by rw [frontL_vw]; exact it_set hG s hsh out ho) (fun es h => ac86s hG s hsh out ho hout h)
end Go.Proofs.Tryz
namespace Go.AL
section
variable {P : Program} {GI : World → Prop}
theorem appVL {S : Slots} {H : Boxes} {t e size cap i j : Nat} {l vs : List AV} {o : Ow} (hi : S i = grow e l) (hj : S j = .slice o vs) (hv : elemsOK size vs = true) (hl : elemsOK size l = true) (hn : l.length + vs.length < 1048576) :
  ∃ dm, (dm = none ∨ dm = some i) ∧ apure S H (.append t e size cap (.t i) (.t j)) = some { v := grow e (l ++ vs), dm := dm } := by
 have ei : ev S (.t i) = grow e l := hi
 have ej : ev S (.t j) = .slice o vs := hj
 cases l with
 | nil =>
  refine ⟨none, .inl rfl, ?_⟩
  simp only [apure]
  rw [ei, ej, grow_nil]
  have hn' : vs.length < 1048576 := by simpa using hn
  simp [hv, grow, hn']
 | cons x l =>
  refine ⟨some i, .inr rfl, ?_⟩
  have hn' : l.length + 1 + vs.length < 1048576 := by simpa using hn
  simp only [apure]
  rw [ei, ej]
  simp [grow, hv, hl, tmpOf, hn']
theorem dops_appL {K : Slots → Boxes → Prop} {S : Slots} {H : Boxes} {t e size cap d i j : Nat} {rest : List AOpr} (l vs : List AV) (o : Ow) (hi : S i = grow e l) (hj : S j = .slice o vs) (hv : elemsOK size vs = true) (hl : elemsOK size l = true) (hn : l.length + vs.length < 1048576)
  (h : ∀ S', S' d = grow e (l ++ vs) → (∀ k, k ≠ d → k ≠ i → S' k = S k) → dops P GI rest K S' H) : dops P GI (⟨some d, none, .append t e size cap (.t i) (.t j)⟩ :: rest) K S H := by
 obtain ⟨dm, hdm, hap⟩ := appVL (t := t) (cap := cap) (H := H) hi hj hv hl hn
 obtain ⟨k1, k2⟩ := eff_keep (S := S) (d := d) hdm (grow e (l ++ vs))
 rw [dops_ap]
 simp only [awanted, hap]
 exact h _ k1 k2
theorem dops_app0 {K : Slots → Boxes → Prop} {S : Slots} {H : Boxes} {t e size cap d j : Nat} {rest : List AOpr} (vs : List AV) (o : Ow) (hj : S j = .slice o vs) (hv : elemsOK size vs = true) (hn : vs.length < 1048576)
  (h : dops P GI rest K (upd S d (grow e vs)) H) : dops P GI (⟨some d, none, .append t e size cap (.c (.slice .nil [])) (.t j)⟩ :: rest) K S H := by
 have ej : ev S (.t j) = .slice o vs := hj
 rw [dops_ap]
 simp only [awanted, apure, ej]
 have e1 : ev S (.c (.slice .nil [])) = .slice .nil [] := rfl
 rw [e1]
 simp only [hv, hn, decide_true, Bool.and_self, if_true]
 have e2 : (if vs.isEmpty = true then Ow.nil else Ow.own e) = (if vs = [] then Ow.nil else Ow.own e) := by simp
 rw [e2]
 exact h
end
end Go.AL
namespace Go.Proofs.Tryz
open Go Go.AL Go.RowKit Go.Proofs
attribute [local simp] awp_all qs_all ops_allN dops_allN ops_nil dops_nil ops_call ops_callv ops_alloc ops_box dops_call dops_alloc kO_eq kD_eq awanted apure ev Eff.S Eff.H tmpOf upd putD AL.start AV.dem AV.cells AV.storable AV.scells splice scrub abin loadA HR.okB post ares aress ares1 AV.out AV.isData ints_len ints_get fz fz1 AV.vw AV.vw1 boxy vI int undefA assignQ thenQ blockQ seqQ panQ prol prolH allocOf
variable {GI : World → Prop}
def vE (l : List End) : AV := .slice .view (l.map endA)
theorem vE_ok1 (l : List (List End)) : elemsOK 1 (l.map vE) = true := elems_map fun a => ⟨rfl, rfl⟩
theorem lp_drop {now all : List End} {m i : Nat} (h : i < all.length) : lp now (all.drop i) m = ch (now ++ [all[i]]) (all.drop (i + 1)) m ++ lp now (all.drop (i + 1)) m := by
 rw [List.drop_eq_getElem_cons h, lp_cons]
set_option maxHeartbeats 1000000 in
theorem ac148 (hG : Stable GI) : ∀ (m : Nat) (now all : List End), m ≤ 3 → now.length + m ≤ 1000 → all.length ≤ 24 → AC prog GI 148 [.slice .view (now.map endA), .slice .view (all.map endA), .int .i64 m] (.ret (.slice .view ((ch now all m).map vE))) := by
 intro m
 induction m with
 | zero =>
  intro now all hm hn hl
  by_cases ha : all = []
  ·subst ha
   have hok : elemsOK 1 [AV.slice .view (now.map endA)] = true := rfl
   have e : (ch now [] 0).map vE = [.slice .view (now.map endA)] := by simp [ch, vE]
   rw [e]
   refine AC.as_view (o := .own 29) ?_
   refine AC.of_body hG hmix func148 rfl ntmps148 (by simp) (ac := c148) (by kernel_rfl) ?_
   simp [c148, ops_ap, dops_ap, hok]
  ·have hn0 : ((all.length : Int) == 0) = false := by have := List.length_pos_iff.2 ha; simp; omega
   refine AC.as_view (o := .nil) ?_
   refine AC.of_body hG hmix func148 rfl ntmps148 (by simp) (ac := c148) (by kernel_rfl) ?_
   simp [c148, ops_ap, dops_ap, ch, ha, hn0]
 | succ m ih =>
  intro now all hm hn hl
  by_cases ha : all = []
  ·subst ha
   have hok : elemsOK 1 [AV.slice .view (now.map endA)] = true := rfl
   have e : (ch now [] (m + 1)).map vE = [.slice .view (now.map endA)] := by simp [ch, vE]
   rw [e]
   refine AC.as_view (o := .own 29) ?_
   refine AC.of_body hG hmix func148 rfl ntmps148 (by simp) (ac := c148) (by kernel_rfl) ?_
   simp [c148, ops_ap, dops_ap, hok]
  have hn0 : ((all.length : Int) == 0) = false := by have := List.length_pos_iff.2 ha; simp; omega
  have hch : ch now all (m + 1) = lp now all m := by unfold ch; rw [if_neg ha]
  have hcl : (ch now all (m + 1)).length ≤ 277 := ch_len hl (by omega)
  rw [hch] at hcl ⊢
  have hm0 : ((m : Int) + 1 == 0) = false := by simp; omega
  have hwm : IntKind.i64.wrap (m : Int) = m := wrapI (by omega)
  refine AC.as_view (o := if lp now all m = [] then .nil else .view) ?_
  refine AC.of_body hG hmix func148 rfl ntmps148 (by simp) (ac := c148) (by kernel_rfl) ?_
  refine awp_cut (fun S H => S 0 = vE now ∧ S 1 = vE all ∧ S 2 = .int .i64 ((m : Int) + 1)) (by simp [ops_ap, dops_ap, vE]) ?_
  rintro S H ⟨s0, s1, s2⟩
  simp [ops_ap, dops_ap, s0, s1, s2, vE, hn0, ha, hm0]
  refine awp_loop 8 all.length (fun i S H => S 0 = vE now ∧ S 1 = vE all ∧ S 2 = .int .i64 ((m : Int) + 1) ∧ S 8 = .int .i64 (i : Nat) ∧ ∃ D, S 7 = grow 29 (D.map vE) ∧ D ++ lp now (all.drop i) m = lp now all m) (fun i S H h => h.2.2.2.1) ⟨by simp [ops_ap, dops_ap, s0, vE], by simp [ops_ap, dops_ap, s1, vE], by simp [ops_ap, dops_ap, s2], by simp [ops_ap, dops_ap], [], by simp [ops_ap, dops_ap, grow], rfl⟩ ?_
  clear s0 s1 s2 S H
  rintro i hi S H ⟨s0, s1, s2, s8, D, s7, hD⟩
  by_cases hlt : i < all.length
  case neg =>
   have hil : i = all.length := by omega
   subst hil
   rw [List.drop_length, lp_nil, List.append_nil] at hD
   subst hD
   by_cases h0 : lp now all m = []
   ·rw [h0] at s7 ⊢
    simp [ops_ap, dops_ap, s0, s1, s2, s8, s7, vE, grow]
   ·have s7' : S 7 = .slice (.own 29) ((lp now all m).map vE) := by rw [s7]; simp [grow, h0]
    simp [ops_ap, dops_ap, s0, s1, s2, s8, s7', vE, h0]
  have hw : IntKind.i64.wrap ((i : Int) + 1) = i + 1 := wrapI (by omega)
  have hlE : lp now (all.drop i) m = ch (now ++ [all[i]]) (all.drop (i + 1)) m ++ lp now (all.drop (i + 1)) m := lp_drop hlt
  have a148 := ih (now ++ [all[i]]) (all.drop (i + 1)) (by omega) (by simp; omega) (by simp; omega)
  have hDl : D.length + (ch (now ++ [all[i]]) (all.drop (i + 1)) m).length ≤ 277 := by
   have := congrArg List.length hD
   rw [hlE] at this
   simp at this; omega
  rw [hlE, ← List.append_assoc] at hD
  have hokn : elemsOK 2 (now.map endA) = true := ends_ok2 now
  have hoka : elemsOK 2 (all.map endA) = true := ends_ok2 all
  have hok1 : elemsOK 2 [endA all[i]] = true := rfl
  have hok2 : elemsOK 1 ((ch (now ++ [all[i]]) (all.drop (i + 1)) m).map vE) = true := vE_ok1 _
  have hT : List.drop (i + 1) (List.take all.length (all.map endA)) = (all.drop (i + 1)).map endA := by rw [List.take_of_length_le (by simp), List.map_drop]
  have hN : (now ++ [all[i]]).map endA = now.map endA ++ [endA all[i]] := by simp
  rw [hN, List.map_drop] at a148
  have hi1 : (0 : Int) ≤ (i : Int) + 1 := by omega
  have hi2 : (i : Int) + 1 ≤ all.length := by omega
  simp [s0, s1, s2, s8, s7, vE, hlt]
  refine dops_app0 (now.map endA) .view (by simp) hokn (by simp; omega) ?_
  simp [s0, s1, s2, s8, s7, vE, hlt, endA]
  refine dops_app (now.map endA) (endA all[i]) (.own 116) (by simp [grow]) (by simp [endA]) hok1 hokn (by simp; omega) ?_
  intro S' sd hk'
  simp [sd, hk', s0, s1, s2, s8, s7, vE, hlt, hw, bound, hoka, hi1, hi2, hwm, grow, hT]
  refine ⟨_, by kernel_rfl, a148, by simp [boxy], ?_⟩
  simp [sd, hk', s0, s1, s2, s8, s7, vE, hlt, hw]
  refine dops_appL (D.map vE) ((ch (now ++ [all[i]]) (all.drop (i + 1)) m).map vE) .view (by simp [hk', s7, vE, grow]) (by simp [vE]) hok2 (vE_ok1 D) (by simp; omega) ?_
  intro S'' sd' hk''
  simp [sd', hk'', sd, hk', s0, s1, s2, s8, vE, hlt, hw]
  exact ⟨D ++ ch (now ++ [all[i]]) (all.drop (i + 1)) m, by simp [grow, vE], hD⟩
end Go.Proofs.Tryz
namespace Go.Proofs.Tryz
open Go Go.AL Go.RowKit Go.Proofs
attribute [local simp] awp_all qs_all ops_allN dops_allN ops_nil dops_nil ops_call ops_callv ops_alloc ops_box dops_call dops_alloc kO_eq kD_eq awanted apure ev Eff.S Eff.H tmpOf upd putD AL.start AV.dem AV.cells AV.storable AV.scells splice scrub abin loadA HR.okB post ares aress ares1 AV.out AV.isData ints_len ints_get fz fz1 AV.vw AV.vw1 boxy vI int undefA assignQ thenQ blockQ seqQ panQ prol prolH allocOf
variable {GI : World → Prop}
theorem endsW_stops {s : Sheet} (hsh : sheetI s = true) {out : List Int} {w : Nat} (hw : w < s.words.length) (hc : out.contains (w : Int) = false) : (stopsN s.words[w] s.words[w].signs.length).map (fun k => ((w : Int), k)) = endsW s out w := by
 have f := wordF hsh (List.getElem_mem hw)
 rw [endsW_at hw hc, stops_all f.len1 f.cuts, List.map_append]; rfl
def endsQ (s : Sheet) (out : List Int) (w n : Nat) (x : Word) : List End := endsP s out w ++ (stopsN x n).map fun k => ((w : Int), k)
theorem endsQ_succ (s : Sheet) (out : List Int) (w n : Nat) (x : Word) : endsQ s out w (n + 1) x = endsQ s out w n x ++ if stopI x (n + 1) then [((w : Int), ((n + 1 : Nat) : Int))] else [] := by
 unfold endsQ
 rw [stopsN_succ, List.map_append, List.append_assoc]
 congr 2
 split <;> rfl
set_option maxHeartbeats 2000000 in
theorem ac149 (hG : Stable GI) (s : Sheet) (hsh : sheetI s = true) (out : List Int) (ho : out.length < 1000000) : AC prog GI 149 [sheetA s, vI out] (.ret (.slice .view ((endsL s out).map endA))) := by
 have hF := sheetF hsh
 have hw4 := hF.words
 have hel := endsL_len hsh out
 refine AC.as_view (o := if endsL s out = [] then .nil else .view) ?_
 refine AC.of_body hG hmix func149 rfl ntmps149 (by simp) (ac := c149) (by kernel_rfl) ?_
 refine awp_cut (fun S H => S 1 = vI out ∧ S 2 = .box 2 0 ∧ H 2 = some (sheetL s)) (by simp [ops_ap, dops_ap, sheetA, sheetL]) ?_
 rintro S H ⟨s1, s2, e2⟩
 simp [ops_ap, dops_ap, s1, s2, e2]
 refine awp_loop 6 s.words.length (fun i S H => S 1 = vI out ∧ S 2 = .box 2 0 ∧ H 2 = some (sheetL s) ∧ S 6 = .int .i64 (i : Nat) ∧ S 5 = grow 116 ((endsP s out i).map endA)) (fun i S H h => h.2.2.2.1) ⟨by simp [ops_ap, dops_ap, s1], by simp [ops_ap, dops_ap, s2], by simp [ops_ap, dops_ap, e2], by simp [ops_ap, dops_ap], by simp [ops_ap, dops_ap, grow, endsP]⟩ ?_
 clear s1 s2 e2 S H
 rintro i hi S H ⟨s1, s2, e2, s6, s5⟩
 by_cases hlt : i < s.words.length
 case neg =>
  have hil : i = s.words.length := by omega
  subst hil
  have hEL : endsP s out s.words.length = endsL s out := rfl
  rw [hEL] at s5
  by_cases h0 : endsL s out = []
  ·rw [h0] at s5 ⊢
   simp [ops_ap, dops_ap, s1, s2, e2, s6, s5, sheetL, grow]
  ·have s5' : S 5 = .slice (.own 116) ((endsL s out).map endA) := by rw [s5]; simp [grow, h0]
   simp [ops_ap, dops_ap, s1, s2, e2, s6, s5', sheetL, h0]
 have hw : IntKind.i64.wrap ((i : Int) + 1) = i + 1 := wrapI (by omega)
 have f := wordF hsh (List.getElem_mem hlt)
 have hl6 := f.len6
 have hcl : s.words[i].cuts.length < 1000000 := by
  have := (sheet_slim hsh).cuts _ (List.getElem_mem hlt); omega
 have hsu := endsP_succ s out i
 cases hct : out.contains (i : Int)
 case true =>
  rw [endsW_out hct, List.append_nil] at hsu
  have a91 := ac91 hG out i (by omega)
  rw [hct] at a91
  have h1l : (1 : Int) ≤ s.words[i].signs.length := by have := f.len1; omega
  simp [ops_ap, dops_ap, s1, s2, e2, s6, s5, sheetL, hlt]
  refine awp_loopF 7 1 1 (fun k S H => S 1 = vI out ∧ S 2 = .box 2 0 ∧ H 2 = some (sheetL s) ∧ S 6 = .int .i64 (i : Nat) ∧ S 5 = grow 116 ((endsP s out i).map endA) ∧ S 7 = .int .i64 (k : Nat)) (by omega) (fun k S H h => h.2.2.2.2.2) ⟨by simp [ops_ap, dops_ap, s1], by simp [ops_ap, dops_ap, s2], by simp [ops_ap, dops_ap, e2, sheetL], by simp [ops_ap, dops_ap, s6], by simp [ops_ap, dops_ap, s5, grow], by simp [ops_ap, dops_ap]⟩ ?_
  clear s1 s2 e2 s6 s5 S H
  rintro k hk1 hk S H ⟨s1, s2, e2, s6, s5, s7⟩
  have hk' : k = 1 := by omega
  subst hk'
  simp [ops_ap, dops_ap, s1, s2, e2, s6, s5, s7, sheetL, hlt, wordA, h1l]
  refine ⟨_, by kernel_rfl, a91, fun _ => rfl, ?_⟩
  simp [ops_ap, dops_ap, s1, s2, e2, s6, s5, s7, sheetL, hlt, hw, hsu, grow]
 rw [← endsW_stops hsh hlt hct] at hsu
 have hq0 : endsP s out i = endsQ s out i 0 s.words[i] := by unfold endsQ stopsN; simp
 have hqn : endsP s out (i + 1) = endsQ s out i s.words[i].signs.length s.words[i] := hsu
 have hql : ∀ n, n ≤ s.words[i].signs.length → (endsQ s out i n s.words[i]).length ≤ 1000 := by
  intro n hn
  unfold endsQ stopsN
  have h1 := endsP_len (sheet_slim hsh) out i
  have h2 := List.length_filter_le (stopI s.words[i]) (List.range' 1 n)
  simp at h2 ⊢
  have h3 : (endsP s out i).length ≤ 24 := by
   have h4 : endsL s out = endsP s out i ++ (List.range' i (s.words.length - i)).flatMap (endsW s out) := by
    show (List.range s.words.length).flatMap (endsW s out) = (List.range i).flatMap (endsW s out) ++ _
    rw [← List.flatMap_append]
    congr 1
    have h5 := List.range'_append_1 (s := 0) (m := i) (n := s.words.length - i)
    rw [List.range_eq_range', List.range_eq_range']
    rw [show i + (s.words.length - i) = s.words.length by omega, Nat.zero_add] at h5
    exact h5.symm
   have := congrArg List.length h4
   rw [List.length_append] at this
   omega
  omega
 rw [hq0] at s5
 rw [hqn]
 generalize hx : s.words[i] = x at *
 simp [ops_ap, dops_ap, s1, s2, e2, s6, s5, sheetL, hlt]
 refine awp_loopF 7 1 (x.signs.length + 1) (fun k S H => S 1 = vI out ∧ S 2 = .box 2 0 ∧ H 2 = some (sheetL s) ∧ S 6 = .int .i64 (i : Nat) ∧ S 7 = .int .i64 (k : Nat) ∧ S 5 = grow 116 ((endsQ s out i (k - 1) x).map endA)) (by omega) (fun k S H h => h.2.2.2.2.1) ⟨by simp [ops_ap, dops_ap, s1], by simp [ops_ap, dops_ap, s2], by simp [ops_ap, dops_ap, e2, sheetL], by simp [ops_ap, dops_ap, s6], by simp [ops_ap, dops_ap], by simp [ops_ap, dops_ap, s5, grow]⟩ ?_
 clear s1 s2 e2 s6 s5 S H
 rintro k hk1 hk S H ⟨s1, s2, e2, s6, s7, s5⟩
 obtain ⟨m, rfl⟩ : ∃ m, k = m + 1 := ⟨k - 1, by omega⟩
 rw [Nat.add_sub_cancel] at s5
 have hxA : wordA s.words[i] = .agg [vI x.signs, vI x.cuts, .bool x.free] := by rw [hx]; rfl
 by_cases hkl : m < x.signs.length
 case neg =>
  have hkl' : m = x.signs.length := by omega
  subst hkl'
  have hn : ¬ ((x.signs.length : Int) + 1 ≤ x.signs.length) := by omega
  simp [ops_ap, dops_ap, s1, s2, e2, s6, s7, s5, sheetL, hlt, hxA, hn, hw, grow]
 have hkl2 : (m : Int) + 1 ≤ x.signs.length := by omega
 have hkw : IntKind.i64.wrap ((m : Int) + 1 + 1) = m + 1 + 1 := wrapI (by omega)
 have a91 := ac91 hG out i (by omega)
 rw [hct] at a91
 have a91c := ac91 hG x.cuts ((m + 1 : Nat) : Int) (by omega)
 have hqs := endsQ_succ s out i m x
 have hqm := hql m (by omega)
 generalize endsQ s out i m x = Q at s5 hqs hqm
 simp [s1, s2, e2, s6, s7, s5, sheetL, hlt, hxA, hkl2]
 refine ⟨_, by kernel_rfl, a91, fun _ => rfl, ?_⟩
 cases he : ((m : Int) + 1 == (x.signs.length : Int))
 ·have he2 : (m + 1 == x.signs.length) = false := by simp at he ⊢; omega
  simp [s1, s2, e2, s6, s7, s5, sheetL, hlt, hxA, hkl2, he]
  refine ⟨_, by kernel_rfl, a91c, fun _ => rfl, ?_⟩
  cases hcc : x.cuts.contains ((m + 1 : Nat) : Int)
  ·have hst : stopI x (m + 1) = false := by unfold stopI; rw [he2, hcc]; rfl
   rw [hst] at hqs
   simp at hqs
   simp [s1, s2, e2, s6, s7, s5, sheetL, hlt, hxA, hkl, hkw, hqs, grow]
  ·have hst : stopI x (m + 1) = true := by unfold stopI; rw [he2, hcc]; rfl
   rw [hst] at hqs
   simp at hqs
   have hok1 : elemsOK 2 [endA ((i : Int), (m : Int) + 1)] = true := rfl
   simp [s1, s2, e2, s6, s7, s5, sheetL, hlt, hxA, hkl, fillA, endA]
   refine aops_app (Q.map endA) (endA ((i : Int), (m : Int) + 1)) (.own 116) (by simp [s5, grow]) (by simp [endA]) hok1 (ends_ok2 _) (by rw [List.length_map]; omega) ?_
   intro S' sd hk'
   simp [sd, hk', s1, s2, e2, s6, s7, sheetL, hlt, hkl, hkw, hqs, grow]
 ·have he2 : (m + 1 == x.signs.length) = true := by simp at he ⊢; omega
  have hst : stopI x (m + 1) = true := by unfold stopI; rw [he2]; rfl
  rw [hst] at hqs
  simp at hqs
  have hok1 : elemsOK 2 [endA ((i : Int), (m : Int) + 1)] = true := rfl
  simp [s1, s2, e2, s6, s7, s5, sheetL, hlt, hxA, hkl, he, fillA, endA]
  refine aops_app (Q.map endA) (endA ((i : Int), (m : Int) + 1)) (.own 116) (by simp [s5, grow]) (by simp [endA]) hok1 (ends_ok2 _) (by rw [List.length_map]; omega) ?_
  intro S' sd hk'
  simp [sd, hk', s1, s2, e2, s6, s7, sheetL, hlt, hkl, hkw, hqs, grow]
end Go.Proofs.Tryz
namespace Go.Proofs.Tryz
open Go Go.AL Go.RowKit Go.Proofs
attribute [local simp] awp_all qs_all ops_allN dops_allN ops_nil dops_nil ops_call ops_callv ops_alloc ops_box dops_call dops_alloc kO_eq kD_eq awanted apure ev Eff.S Eff.H tmpOf upd putD AL.start AV.dem AV.cells AV.storable AV.scells splice scrub abin loadA HR.okB post ares aress ares1 AV.out AV.isData ints_len ints_get fz fz1 AV.vw AV.vw1 boxy vI int undefA assignQ thenQ blockQ seqQ panQ prol prolH allocOf
variable {GI : World → Prop}
theorem setO_ok2 (out : List Int) (l : List (List End)) : elemsOK 2 (l.map (settingA out)) = true := elems_map fun a => ⟨rfl, rfl⟩
theorem setting_eq (out : List Int) (es : List End) : settingA out es = .agg [vI out, .slice .view (es.map endA)] := rfl
set_option maxHeartbeats 1000000 in
theorem ac105 (hG : Stable GI) (s : Sheet) (hsh : sheetI s = true) (out : List Int) (ho : out.length < 1000000) : AC prog GI 105 [sheetA s, vI out] (.ret (.slice .view ((allS s out s.rows.toNat).map (settingA out)))) := by
 have hF := sheetF hsh
 have hr := hF.rows
 have hel := endsL_len hsh out
 have hal := allS_len hsh out (m := s.rows.toNat) (by omega)
 have a149 := ac149 hG s hsh out ho
 have a148 := ac148 hG s.rows.toNat [] (endsL s out) (by omega) (by simp; omega) hel
 have e : ch [] (endsL s out) s.rows.toNat = allS s out s.rows.toNat := rfl
 rw [e, Int.toNat_of_nonneg (by omega)] at a148
 refine AC.as_view (o := if allS s out s.rows.toNat = [] then .nil else .view) ?_
 generalize allS s out s.rows.toNat = A at *
 refine AC.of_body hG hmix func105 rfl ntmps105 (by simp) (ac := c105) (by kernel_rfl) ?_
 refine awp_cut (fun S H => S 1 = vI out ∧ S 2 = .box 2 0 ∧ H 2 = some (sheetL s)) (by simp [ops_ap, dops_ap, sheetA, sheetL]) ?_
 rintro S H ⟨s1, s2, e2⟩
 refine awp_cut (fun S H => S 1 = vI out ∧ S 5 = .slice .view (A.map vE)) ?_ ?_
 ·simp [ops_ap, dops_ap, s1, s2, e2, sheetL]
  refine ⟨_, by kernel_rfl, a149, by simp [boxy], ?_⟩
  simp [ops_ap, dops_ap, s1, s2, e2, sheetL]
  refine ⟨_, by kernel_rfl, a148, by simp [boxy], ?_⟩
  simp [ops_ap, dops_ap, s1]
 clear s1 s2 e2 S H
 rintro S H ⟨s1, s5⟩
 simp [ops_ap, dops_ap, s1, s5]
 refine awp_loop 7 A.length (fun i S H => S 1 = vI out ∧ S 5 = .slice .view (A.map vE) ∧ S 7 = .int .i64 (i : Nat) ∧ S 6 = grow 31 ((A.take i).map (settingA out))) (fun i S H h => h.2.2.1) ⟨by simp [ops_ap, dops_ap, s1], by simp [ops_ap, dops_ap, s5], by simp [ops_ap, dops_ap], by simp [ops_ap, dops_ap, grow]⟩ ?_
 clear s1 s5 S H
 rintro i hi S H ⟨s1, s5, s7, s6⟩
 by_cases hlt : i < A.length
 case neg =>
  have hil : i = A.length := by omega
  subst hil
  rw [List.take_of_length_le (Nat.le_refl _)] at s6
  by_cases h0 : A = []
  ·subst h0
   simp [ops_ap, dops_ap, s1, s5, s7, s6, grow]
  ·have s6' : S 6 = .slice (.own 31) (A.map (settingA out)) := by rw [s6]; simp [grow, h0]
   simp [ops_ap, dops_ap, s1, s5, s7, s6', h0]
 have hw : IntKind.i64.wrap ((i : Int) + 1) = i + 1 := wrapI (by omega)
 have ht : A.take (i + 1) = A.take i ++ [A[i]] := List.take_succ_eq_append_getElem hlt
 have htl : (A.take i).length ≤ 277 := by rw [List.length_take]; omega
 rw [ht]
 generalize A.take i = B at s6 htl ⊢
 have hok1 : elemsOK 2 [settingA out A[i]] = true := rfl
 simp [s1, s5, s7, s6, hlt, vE, fillA]
 refine aops_app (B.map (settingA out)) (settingA out A[i]) (.own 31) (by simp [s6, grow]) (by simp [setting_eq]) hok1 (setO_ok2 _ _) (by rw [List.length_map]; omega) ?_
 intro S' sd hk'
 simp [sd, hk', s1, s5, s7, hlt, hw, vE, grow]
set_option maxHeartbeats 1000000 in
theorem ac101 (hG : Stable GI) (s : Sheet) (hsh : sheetI s = true) (out : List Int) (ho : out.length < 1000000) (hout : outI s out = true) : AC prog GI 101 [sheetA s, vI out] (.ret (.slice .view ((goodS s out).map (settingA out)))) := by
 have hr := (sheetF hsh).rows
 have hal := allS_len hsh out (m := s.rows.toNat) (by omega)
 have a105 := ac105 hG s hsh out ho
 have hA : ∀ es ∈ allS s out s.rows.toNat, AC prog GI 36 [sheetA s, settingA out es, .int .i64 0] (.ret (.bool (fitI s out es 0))) := fun es h => by
  obtain ⟨h1, h2⟩ := allS_good hsh hout h
  exact ac36 hG s (sheet_slim hsh) hsh out ho es (by omega) h1 (by omega) (by omega)
 refine AC.as_view (o := if goodS s out = [] then .nil else .view) ?_
 unfold goodS
 generalize allS s out s.rows.toNat = A at *
 generalize hB : (A.filter fun es => fitI s out es 0) = B
 refine AC.of_body hG hmix func101 rfl ntmps101 (by simp) (ac := c101) (by kernel_rfl) ?_
 refine awp_cut (fun S H => S 1 = vI out ∧ S 2 = .box 2 0 ∧ H 2 = some (sheetL s)) (by simp [ops_ap, dops_ap, sheetA, sheetL]) ?_
 rintro S H ⟨s1, s2, e2⟩
 refine awp_cut (fun S H => S 1 = vI out ∧ S 2 = .box 2 0 ∧ H 2 = some (sheetL s) ∧ S 5 = .slice .view (A.map (settingA out))) ?_ ?_
 ·simp [ops_ap, dops_ap, s1, s2, e2, sheetL]
  refine ⟨_, by kernel_rfl, a105, by simp [boxy], ?_⟩
  simp [ops_ap, dops_ap, s1, s2, e2, sheetL]
 clear s1 s2 e2 S H
 rintro S H ⟨s1, s2, e2, s5⟩
 simp [ops_ap, dops_ap, s1, s2, e2, s5]
 refine awp_loop 7 A.length (fun i S H => S 1 = vI out ∧ S 2 = .box 2 0 ∧ H 2 = some (sheetL s) ∧ S 5 = .slice .view (A.map (settingA out)) ∧ S 7 = .int .i64 (i : Nat) ∧ S 6 = grow 31 (((A.take i).filter fun es => fitI s out es 0).map (settingA out))) (fun i S H h => h.2.2.2.2.1) ⟨by simp [ops_ap, dops_ap, s1], by simp [ops_ap, dops_ap, s2], by simp [ops_ap, dops_ap, e2], by simp [ops_ap, dops_ap, s5], by simp [ops_ap, dops_ap], by simp [ops_ap, dops_ap, grow]⟩ ?_
 clear s1 s2 e2 s5 S H
 rintro i hi S H ⟨s1, s2, e2, s5, s7, s6⟩
 by_cases hlt : i < A.length
 case neg =>
  have hil : i = A.length := by omega
  subst hil
  rw [List.take_of_length_le (Nat.le_refl _)] at s6
  rw [hB] at s6
  by_cases h0 : B = []
  ·subst h0
   simp [ops_ap, dops_ap, s1, s2, e2, s5, s7, s6, grow]
  ·have s6' : S 6 = .slice (.own 31) (B.map (settingA out)) := by rw [s6]; simp [grow, h0]
   simp [ops_ap, dops_ap, s1, s2, e2, s5, s7, s6', h0]
 have hw : IntKind.i64.wrap ((i : Int) + 1) = i + 1 := wrapI (by omega)
 have ht : (A.take (i + 1)).filter (fun es => fitI s out es 0) = (A.take i).filter (fun es => fitI s out es 0) ++ if fitI s out A[i] 0 then [A[i]] else [] := by
  rw [List.take_succ_eq_append_getElem hlt, List.filter_append, List.filter_cons]
  split <;> simp
 have htl : ((A.take i).filter fun es => fitI s out es 0).length ≤ 277 := by
  have := List.length_filter_le (fun es => fitI s out es 0) (A.take i)
  rw [List.length_take] at this; omega
 have a36 := hA A[i] (List.getElem_mem hlt)
 rw [ht]
 clear hB
 generalize (A.take i).filter (fun es => fitI s out es 0) = B at s6 htl ⊢
 have hok1 : elemsOK 2 [settingA out A[i]] = true := rfl
 simp [s1, s2, e2, s5, s7, s6, hlt, sheetL, setting_eq]
 refine ⟨_, by kernel_rfl, a36, by simp [boxy], ?_⟩
 cases fitI s out A[i] 0
 ·simp [s1, s2, e2, s5, s7, s6, hlt, hw, sheetL, setting_eq, grow]
 simp [s1, s2, e2, s5, s7, s6, hlt, sheetL, setting_eq]
 refine aops_app (B.map (settingA out)) (settingA out A[i]) (.own 31) (by simp [s6, grow, setting_eq]) (by simp [setting_eq]) hok1 (setO_ok2 _ _) (by rw [List.length_map]; omega) ?_
 intro S' sd hk'
 simp [sd, hk', s1, s2, e2, s5, s7, hlt, hw, sheetL, setting_eq, grow]
end Go.Proofs.Tryz
namespace Go.Proofs.Tryz
open Go Go.AL Go.RowKit Go.Proofs
attribute [local simp] awp_all qs_all ops_allN dops_allN ops_nil dops_nil ops_call ops_callv ops_alloc ops_box dops_call dops_alloc kO_eq kD_eq awanted apure ev Eff.S Eff.H tmpOf upd putD AL.start AV.dem AV.cells AV.storable AV.scells splice scrub abin loadA HR.okB post ares aress ares1 AV.out AV.isData ints_len ints_get fz fz1 AV.vw AV.vw1 boxy vI int undefA assignQ thenQ blockQ seqQ panQ prol prolH allocOf
variable {GI : World → Prop}
theorem fromL_last {l : List Int} (h : 0 < l.length) (h0 : ∀ x ∈ l, 0 ≤ x) : l[l.length - 1]'(by omega) + 1 = (fromL l : Nat) := by
 unfold fromL
 rw [List.getLast?_eq_getElem?, List.getElem?_eq_getElem (show l.length - 1 < l.length by omega)]
 have := h0 _ (List.getElem_mem (show l.length - 1 < l.length by omega))
 simp only; omega
theorem freeN_eq {s : Sheet} {i : Nat} (h : i < s.words.length) : freeN s i = s.words[i].free := by
 unfold freeN notFree
 rw [Int.toNat_natCast, List.getElem?_eq_getElem h]
 simp
theorem range'_snoc (a k : Nat) (h : a ≤ k) : List.range' a (k + 1 - a) = List.range' a (k - a) ++ [k] := by
 rw [show k + 1 - a = (k - a) + 1 by omega, List.range'_concat]
 simp; omega
theorem vIs_ok1 (l : List (List Int)) : elemsOK 1 (l.map vI) = true := elems_map fun a => ⟨rfl, rfl⟩
set_option maxHeartbeats 2000000 in
theorem ac109 (hG : Stable GI) (s : Sheet) (hsh : sheetI s = true) : ∀ (d : Nat) (now : List Int), d ≤ 4 → now.length + d ≤ 100 → (∀ x ∈ now, 0 ≤ x ∧ x < s.words.length) → AC prog GI 109 [sheetA s, vI now, .int .i64 ((now.length + d : Nat) : Int)] (.ret (.slice .view ((refO s d now).map vI))) := by
 have hw4 := (sheetF hsh).words
 intro d
 induction d with
 | zero =>
  intro now hd hn hx
  have hok : elemsOK 1 [AV.slice .view (ints now)] = true := rfl
  refine AC.as_view (o := .own 22) ?_
  refine AC.of_body hG hmix func109 rfl ntmps109 (by simp) (ac := c109) (by kernel_rfl) ?_
  simp [c109, ops_ap, dops_ap, sheetA, sheetL, refO, hok]
 | succ d ih =>
  intro now hd hn hx
  have hfl := fromL_le hx
  have hne : ((now.length : Int) == (now.length : Int) + ((d : Int) + 1)) = false := by simp; omega
  have hrl := refO_len hw4.2 (d + 1) now
  have h4 : 4 ^ (d + 1) ≤ 4 ^ 4 := Nat.pow_le_pow_right (by omega) (by omega)
  refine AC.as_view (o := if refO s (d + 1) now = [] then .nil else .view) ?_
  have hR : refO s (d + 1) now = (List.range' (fromL now) (s.words.length - fromL now)).flatMap fun i : Nat => if freeN s i then refO s d (now ++ [(i : Int)]) else [] := rfl
  generalize hRg : refO s (d + 1) now = R at *
  refine AC.of_body hG hmix func109 rfl ntmps109 (by simp) (ac := c109) (by kernel_rfl) ?_
  refine awp_cut (fun S H => S 1 = vI now ∧ S 2 = .int .i64 ((now.length + (d + 1) : Nat) : Int) ∧ S 3 = .box 3 0 ∧ H 3 = some (sheetL s)) (by simp [ops_ap, dops_ap, sheetA, sheetL]) ?_
  rintro S H ⟨s1, s2, s3, e3⟩
  refine awp_cut (fun S H => S 1 = vI now ∧ S 2 = .int .i64 ((now.length + (d + 1) : Nat) : Int) ∧ S 3 = .box 3 0 ∧ H 3 = some (sheetL s)) (by simp [ops_ap, dops_ap, s1, s2, s3, e3, hne]) ?_
  clear s1 s2 s3 e3 S H
  rintro S H ⟨s1, s2, s3, e3⟩
  refine awp_cut (fun S H => S 1 = vI now ∧ S 2 = .int .i64 ((now.length + (d + 1) : Nat) : Int) ∧ S 3 = .box 3 0 ∧ H 3 = some (sheetL s) ∧ S 7 = .int .i64 0) (by simp [ops_ap, dops_ap, s1, s2, s3, e3]) ?_
  clear s1 s2 s3 e3 S H
  rintro S H ⟨s1, s2, s3, e3, s7⟩
  refine awp_cut (fun S H => S 1 = vI now ∧ S 2 = .int .i64 ((now.length + (d + 1) : Nat) : Int) ∧ S 3 = .box 3 0 ∧ H 3 = some (sheetL s) ∧ S 7 = .int .i64 (fromL now : Nat)) ?_ ?_
  ·by_cases h0 : now = []
   ·subst h0
    simp [ops_ap, dops_ap, s1, s2, s3, e3, s7, fromL]
   ·have hp := List.length_pos_iff.2 h0
    have hl := fromL_last hp (fun x h => (hx x h).1)
    have hwm : IntKind.i64.wrap ((now.length : Int) - 1) = (now.length - 1 : Nat) := by rw [wrapI (by omega)]; omega
    have hlt : now.length - 1 < now.length := by omega
    have hwf : IntKind.i64.wrap (fromL now : Int) = (fromL now : Nat) := wrapI (by omega)
    simp [ops_ap, dops_ap, s1, s2, s3, e3, s7, hp, hwm, hlt, hl, hwf]
  clear s1 s2 s3 e3 s7 S H
  rintro S H ⟨s1, s2, s3, e3, s7⟩
  simp [ops_ap, dops_ap, s1, s2, s3, e3, s7]
  refine awp_loopF 9 (fromL now) s.words.length (fun i S H => S 1 = vI now ∧ S 2 = .int .i64 ((now.length + (d + 1) : Nat) : Int) ∧ S 3 = .box 3 0 ∧ H 3 = some (sheetL s) ∧ S 9 = .int .i64 (i : Nat) ∧ ∃ D, S 8 = grow 22 (D.map vI) ∧ D ++ ((List.range' i (s.words.length - i)).flatMap fun i : Nat => if freeN s i then refO s d (now ++ [(i : Int)]) else []) = R) hfl (fun i S H h => h.2.2.2.2.1) ⟨by simp [ops_ap, dops_ap, s1], by simp [ops_ap, dops_ap, s2], by simp [ops_ap, dops_ap, s3], by simp [ops_ap, dops_ap, e3], by simp [ops_ap, dops_ap], [], by simp [ops_ap, dops_ap, grow], hR.symm⟩ ?_
  clear s1 s2 s3 e3 s7 S H
  rintro i hif hi S H ⟨s1, s2, s3, e3, s9, D, s8, hD⟩
  by_cases hlt : i < s.words.length
  case neg =>
   have hil : i = s.words.length := by omega
   subst hil
   rw [Nat.sub_self] at hD
   simp at hD
   subst hD
   by_cases h0 : D = []
   ·subst h0
    simp [ops_ap, dops_ap, s1, s2, s3, e3, s9, s8, sheetL, grow]
   ·have s8' : S 8 = .slice (.own 22) (D.map vI) := by rw [s8]; simp [grow, h0]
    simp [ops_ap, dops_ap, s1, s2, s3, e3, s9, s8', sheetL, h0]
  have hw : IntKind.i64.wrap ((i : Int) + 1) = i + 1 := wrapI (by omega)
  rw [show s.words.length - i = (s.words.length - (i + 1)) + 1 by omega, List.range'_succ, List.flatMap_cons, ← List.append_assoc] at hD
  have hfe := freeN_eq hlt
  cases hf : s.words[i].free
  ·rw [hfe, hf] at hD
   simp at hD
   simp [s1, s2, s3, e3, s9, s8, hlt, sheetL, wordA, hf, hw, grow]
   exact ⟨D, ⟨rfl, rfl⟩, by simpa using hD⟩
  rw [hfe, hf, if_pos rfl] at hD
  have a109 := ih (now ++ [(i : Int)]) (by omega) (by simp; omega) (fun x h => by
   rcases List.mem_append.1 h with h | h
   ·exact hx x h
   ·rw [List.mem_singleton] at h; subst h; exact ⟨by omega, by omega⟩)
  have eN : vI (now ++ [(i : Int)]) = .slice .view (ints now ++ [.int .i64 i]) := by simp [vI, ints]
  have eM : (((now ++ [(i : Int)]).length + d : Nat) : Int) = ((now.length + (d + 1) : Nat) : Int) := by simp; omega
  rw [eN, eM] at a109
  have hDl : D.length + (refO s d (now ++ [(i : Int)])).length ≤ 256 := by
   have := congrArg List.length hD
   rw [List.length_append, List.length_append] at this
   omega
  generalize refO s d (now ++ [(i : Int)]) = B at *
  have hokn : elemsOK 1 (ints now) = true := ints_ok1 now
  have hok1 : elemsOK 1 [AV.int .i64 (i : Nat)] = true := rfl
  simp [s1, s2, s3, e3, s9, s8, hlt, sheetL, wordA, hf]
  refine dops_app0 (ints now) .view (by simp) hokn (by simp [ints]; omega) ?_
  simp [s1, s2, s3, e3, s9, s8]
  refine dops_app (ints now) (AV.int .i64 (i : Nat)) (.own 3) (by simp [grow]) (by simp) hok1 hokn (by simp [ints]; omega) ?_
  intro S' sd hk'
  simp [sd, hk', s1, s2, s3, e3, s9, s8, sheetL, grow]
  refine ⟨_, by kernel_rfl, a109, by simp [boxy], ?_⟩
  simp [sd, hk', s1, s2, s3, e3, s9, s8]
  refine dops_appL (D.map vI) (B.map vI) .view (by simp [hk', s8, grow]) (by simp) (vIs_ok1 B) (vIs_ok1 D) (by simp; omega) ?_
  intro S'' sd' hk''
  simp [sd', hk'', sd, hk', s1, s2, s3, e3, s9, hw, hlt, sheetL]
  exact ⟨D ++ B, by simp [grow], hD⟩
theorem flat_pre {α : Type} (f : Nat → List α) {n m : Nat} (h : m < n) : ∃ r, (List.range n).flatMap f = (List.range m).flatMap f ++ (f m ++ r) := by
 have h1 : List.range n = List.range m ++ (m :: List.range' (m + 1) (n - (m + 1))) := by
  have h5 := List.range'_append_1 (s := 0) (m := m) (n := n - m)
  rw [List.range_eq_range', List.range_eq_range', ← List.range'_succ, show n - (m + 1) + 1 = n - m by omega]
  rw [show m + (n - m) = n by omega, Nat.zero_add] at h5
  exact h5.symm
 rw [h1, List.flatMap_append, List.flatMap_cons]
 exact ⟨_, rfl⟩
theorem find_flat {α : Type} {p : α → Bool} (f : Nat → List α) {n m i : Nat} (h : m < n) (hi : i < (f m).length) (hp : p (f m)[i] = true) (h1 : ∀ k, k < m → ∀ x ∈ f k, p x = false) (h2 : ∀ j (hj : j < (f m).length), j < i → p (f m)[j] = false) : ((List.range n).flatMap f).find? p = some (f m)[i] := by
 obtain ⟨r, hr⟩ := flat_pre f h
 rw [hr, List.find?_append, List.find?_append, find_at' hi hp h2]
 have : ((List.range m).flatMap f).find? p = none := by
  rw [List.find?_eq_none]
  intro x hx
  obtain ⟨k, hk, hx⟩ := List.mem_flatMap.1 hx
  rw [h1 k (List.mem_range.1 hk) x hx]; simp
 rw [this]; rfl
def dropR (s : Sheet) : List AV := match dropI s with
 | some l => [vI l, .bool true]
 | none => [vI [], .bool false]
set_option maxHeartbeats 2000000 in
theorem ac51 (hG : Stable GI) (s : Sheet) (hsh : sheetI s = true) : AC prog GI 51 [sheetA s] (.ret (.tup (dropR s))) := by
 have hw4 := (sheetF hsh).words
 have ho := outI_nil hsh
 have hD : dropI s = ((List.range s.words.length).flatMap fun m => refO s m []).find? fun l => !(goodS s l).isEmpty := (drop_eq ho _).symm
 have hOut : ∀ m, m < s.words.length → ∀ l ∈ refO s m [], outI s l = true := fun m hm l hl => by
  rw [refO_eq m ho (by simpa using hm)] at hl
  exact (List.mem_filter.1 hl).2
 unfold dropR
 rw [hD]
 clear hD
 generalize hO : ((List.range s.words.length).flatMap fun m => refO s m []).find? (fun l => !(goodS s l).isEmpty) = o
 refine AC.of_body hG hmix func51 rfl ntmps51 (by simp) (ac := c51) (by kernel_rfl) ?_
 refine awp_cut (fun S H => S 1 = .box 1 0 ∧ H 1 = some (sheetL s)) (by simp [ops_ap, dops_ap, sheetA, sheetL]) ?_
 rintro S H ⟨s1, e1⟩
 simp [ops_ap, dops_ap, s1, e1]
 refine awp_loop 4 s.words.length (fun m S H => S 1 = .box 1 0 ∧ H 1 = some (sheetL s) ∧ S 4 = .int .i64 (m : Nat) ∧ ∀ k, k < m → ∀ l ∈ refO s k [], (!(goodS s l).isEmpty) = false) (fun i S H h => h.2.2.1) ⟨by simp [ops_ap, dops_ap, s1], by simp [ops_ap, dops_ap, e1], by simp [ops_ap, dops_ap], fun k h => absurd h (Nat.not_lt_zero _)⟩ ?_
 clear s1 e1 S H
 rintro m hm S H ⟨s1, e1, s4, hb⟩
 by_cases hlt : m < s.words.length
 case neg =>
  have hml : m = s.words.length := by omega
  subst hml
  have hn : ((List.range s.words.length).flatMap fun m => refO s m []).find? (fun l => !(goodS s l).isEmpty) = none := by
   rw [List.find?_eq_none]
   intro x hx
   obtain ⟨k, hk, hx⟩ := List.mem_flatMap.1 hx
   rw [hb k (List.mem_range.1 hk) x hx]; simp
  rw [hO] at hn
  subst hn
  simp [ops_ap, dops_ap, s1, e1, s4, sheetL, ints]
 have hw : IntKind.i64.wrap ((m : Int) + 1) = m + 1 := wrapI (by omega)
 have a109 := ac109 hG s hsh m [] (by omega) (by simp; omega) (fun x h => (List.not_mem_nil h).elim)
 rw [show (([] : List Int).length + m : Nat) = m by simp] at a109
 have hrl := refO_len hw4.2 m []
 have h4 : 4 ^ m ≤ 4 ^ 4 := Nat.pow_le_pow_right (by omega) (by omega)
 have hff := fun i hi hp h2 => find_flat (p := fun l => !(goodS s l).isEmpty) (fun m => refO s m []) (i := i) hlt hi hp hb h2
 have hOm := hOut m hlt
 simp [ops_ap, dops_ap, s1, e1, s4, hlt, sheetL]
 refine ⟨_, by kernel_rfl, a109, by simp [boxy], ?_⟩
 generalize hRm : refO s m [] = R at *
 simp [ops_ap, dops_ap, s1, e1, s4, hlt, sheetL]
 refine awp_loop 6 R.length (fun i S H => S 1 = .box 1 0 ∧ H 1 = some (sheetL s) ∧ S 4 = .int .i64 (m : Nat) ∧ S 5 = .slice .view (R.map vI) ∧ S 6 = .int .i64 (i : Nat) ∧ ∀ j (hj : j < R.length), j < i → (!(goodS s R[j]).isEmpty) = false) (fun i S H h => h.2.2.2.2.1) ⟨by simp [ops_ap, dops_ap, s1], by simp [ops_ap, dops_ap, e1, sheetL], by simp [ops_ap, dops_ap, s4], by simp [ops_ap, dops_ap], by simp [ops_ap, dops_ap], fun j _ h => absurd h (Nat.not_lt_zero _)⟩ ?_
 clear s1 e1 s4 S H
 rintro i hi S H ⟨s1, e1, s4, s5, s6, hc⟩
 by_cases hil : i < R.length
 case neg =>
  simp [ops_ap, dops_ap, s1, e1, s4, s5, s6, hil, hw, hlt]
  refine ⟨rfl, ?_⟩
  intro k hk l hl
  by_cases e : k = m
  ·subst e
   rw [hRm] at hl
   obtain ⟨j, hj, rfl⟩ := List.getElem_of_mem hl
   simpa using hc j hj (by omega)
  ·simpa using hb k (by omega) l hl
 have hwi : IntKind.i64.wrap ((i : Int) + 1) = i + 1 := wrapI (by omega)
 have hoi := hOm R[i] (List.getElem_mem hil)
 have a101 := ac101 hG s hsh R[i] (by have := (outI_mem hoi).2; omega) hoi
 simp [ops_ap, dops_ap, s1, e1, s4, s5, s6, hil, sheetL]
 refine ⟨_, by kernel_rfl, a101, by simp [boxy], ?_⟩
 cases hg : goodS s R[i] with
 | nil =>
  simp [ops_ap, dops_ap, s1, e1, s4, s5, s6, hil, sheetL, hwi]
  intro j hj hji
  by_cases e : j = i
  ·subst e; exact hg
  ·simpa using hc j hj (by omega)
 | cons x l =>
  have hfind := hff i hil (by rw [hg]; rfl) hc
  rw [hO] at hfind
  subst hfind
  have hp : (0 : Int) < (l.length : Int) + 1 := by omega
  simp [ops_ap, dops_ap, s1, e1, s4, s5, s6, hil, sheetL, hp]
end Go.Proofs.Tryz
namespace Go.Proofs.Tryz
open Go Go.AL Go.RowKit Go.Proofs
attribute [local simp] awp_all qs_all ops_allN dops_allN ops_nil dops_nil ops_call ops_callv ops_alloc ops_box dops_call dops_alloc kO_eq kD_eq awanted apure ev Eff.S Eff.H tmpOf upd putD AL.start AV.dem AV.cells AV.storable AV.scells splice scrub abin loadA HR.okB post ares aress ares1 AV.out AV.isData ints_len ints_get fz fz1 AV.vw AV.vw1 boxy vI int undefA assignQ thenQ blockQ seqQ panQ prol prolH allocOf
variable {GI : World → Prop}
theorem seen_len {s : Sheet} (h : s.words.length ≤ 4) (i : Nat) : (seenQ s i).length ≤ 2000 := by
 obtain ⟨r, hr⟩ := seen_prefix s i
 have := queue_len h
 rw [hr, List.length_append] at this
 omega
def dropO (s : Sheet) : List AV := if sheetI s then match dropI s with
 | some l => [vI l, .int .i64 0]
 | none => [vI [], .int .i64 5]
 else [vI [], .int .i64 2]
theorem queue_short {s : Sheet} {l : List Int} (h : l ∈ queueL s) : l.length ≤ s.words.length := by
 unfold queueL at h
 obtain ⟨m, hm, hl⟩ := List.mem_flatMap.1 h
 rw [lev_len hl]
 have := List.mem_range.1 hm; omega
set_option maxHeartbeats 4000000 in
theorem ac50 (hG : Stable GI) (s : Sheet) (hs : Slim s) : AC prog GI 50 [sheetA s] (.ret (.tup (dropO s))) := by
 unfold dropO
 cases hsh : sheetI s with
 | false =>
  have a96 := ac96 hG s hs
  rw [hsh] at a96
  refine AC.of_body hG hmix func50 rfl ntmps50 (by simp) (ac := c50) (by kernel_rfl) ?_
  refine awp_cut (fun S H => S 1 = .box 1 0 ∧ H 1 = some (sheetL s)) (by simp [ops_ap, dops_ap, sheetA, sheetL]) ?_
  rintro S H ⟨s1, e1⟩
  simp [ops_ap, dops_ap, s1, e1, sheetL]
  refine ⟨_, by kernel_rfl, a96, fun _ => rfl, ?_⟩
  simp [ops_ap, dops_ap, ints]
 | true =>
 have hw4 := (sheetF hsh).words
 have a96 := ac96 hG s hs
 rw [hsh] at a96
 rw [if_pos rfl]
 unfold dropI
 generalize hO : (queueL s).find? (fun l => outI s l && !(goodS s l).isEmpty) = o
 have hql := queue_len hw4.2
 refine AC.of_body hG hmix func50 rfl ntmps50 (by simp) (ac := c50) (by kernel_rfl) ?_
 refine awp_cut (fun S H => S 1 = .box 1 0 ∧ H 1 = some (sheetL s)) (by simp [ops_ap, dops_ap, sheetA, sheetL]) ?_
 rintro S H ⟨s1, e1⟩
 refine awp_cut (fun S H => S 1 = .box 1 0 ∧ H 1 = some (sheetL s)) ?_ ?_
 ·simp [ops_ap, dops_ap, s1, e1, sheetL]
  refine ⟨_, by kernel_rfl, a96, fun _ => rfl, ?_⟩
  simp [ops_ap, dops_ap, s1, e1, sheetL]
 clear s1 e1 S H
 rintro S H ⟨s1, e1⟩
 refine awp_cut (fun S H => S 1 = .box 1 0 ∧ H 1 = some (sheetL s) ∧ S 4 = .box 4 0 ∧ H 4 = some (frontL s)) ?_ ?_
 ·simp [ops_ap, dops_ap, s1, e1, sheetL]
  refine ⟨_, by kernel_rfl, ac80f hG s hsh, by simp [boxy], ?_⟩
  simp [ops_ap, dops_ap, s1, e1, frontA, frontL, sheetL, spaces]
 clear s1 e1 S H
 rintro S H ⟨s1, e1, s4, e4⟩
 refine awp_cut (fun S H => S 1 = .box 1 0 ∧ H 1 = some (sheetL s) ∧ S 4 = .box 4 0 ∧ H 4 = some (frontL s) ∧ S 5 = grow 22 ((seenQ s 0).map vI)) ?_ ?_
 ·have hok : elemsOK 1 [AV.slice .nil []] = true := rfl
  have hok' : elemsOK 1 [AV.slice .view []] = true := rfl
  simp [ops_ap, dops_ap, s1, e1, s4, e4, hok, hok', seenQ, grow, ints]
 clear s1 e1 s4 e4 S H
 rintro S H ⟨s1, e1, s4, e4, s5⟩
 simp [ops_ap, dops_ap, s1, e1, s4, e4, s5]
 refine awp_loop 6 (queueL s).length (fun i S H => S 1 = .box 1 0 ∧ H 1 = some (sheetL s) ∧ S 4 = .box 4 0 ∧ H 4 = some (frontL s) ∧ S 6 = .int .i64 (i : Nat) ∧ S 5 = grow 22 ((seenQ s i).map vI) ∧ ∀ j (hj : j < (queueL s).length), j < i → (outI s (queueL s)[j] && !(goodS s (queueL s)[j]).isEmpty) = false) (fun i S H h => h.2.2.2.2.1) ⟨by simp [ops_ap, dops_ap, s1], by simp [ops_ap, dops_ap, e1], by simp [ops_ap, dops_ap, s4], by simp [ops_ap, dops_ap, e4], by simp [ops_ap, dops_ap], by simp [ops_ap, dops_ap, s5, grow], fun j _ h => absurd h (Nat.not_lt_zero _)⟩ ?_
 clear s1 e1 s4 e4 s5 S H
 rintro i hi S H ⟨s1, e1, s4, e4, s6, s5, hb⟩
 have hsl := seen_len hw4.2 i
 have s5' : S 5 = .slice (.own 22) ((seenQ s i).map vI) := by rw [s5]; simp [grow, seenQ]
 by_cases hlt : i < (seenQ s i).length
 case neg =>
  have hall := seen_all hi (by omega)
  have hn := find_no' (l := queueL s) (p := fun l => outI s l && !(goodS s l).isEmpty) fun j hj => hb j hj (by omega)
  rw [hO] at hn
  subst hn
  have hlt' : ¬ (i : Int) < (seenQ s i).length := by omega
  simp [ops_ap, dops_ap, s1, e1, s4, e4, s6, s5', hlt, ints]
 obtain ⟨hiq, hget⟩ := seen_get hlt
 have hsu := seen_succ hiq
 have hw : IntKind.i64.wrap ((i : Int) + 1) = i + 1 := wrapI (by omega)
 have hqs := queue_short (List.getElem_mem hiq)
 have hgv : (seenQ s i)[i]? = some (queueL s)[i] := by rw [List.getElem?_eq_getElem hlt, hget]
 have hfind := fun h => find_at' (l := queueL s) (p := fun l => outI s l && !(goodS s l).isEmpty) hiq h hb
 rw [hO] at hfind
 have hbn : (outI s (queueL s)[i] && !(goodS s (queueL s)[i]).isEmpty) = false → ∀ j (hj : j < (queueL s).length), j < i + 1 → (outI s (queueL s)[j] && !(goodS s (queueL s)[j]).isEmpty) = false := fun h j hj hji => by
  by_cases e : j = i
  ·subst e; exact h
  ·exact hb j hj (by omega)
 generalize hl : (queueL s)[i] = l at hsu hqs hgv hfind hbn
 generalize hSQ : seenQ s i = Q at s5 s5' hlt hsl hgv hsu
 have hlt' : (i : Int) < Q.length := by omega
 have a106 := ac106 hG s hs l (by omega)
 refine awp_cut (fun S H => S 1 = .box 1 0 ∧ H 1 = some (sheetL s) ∧ S 4 = .box 4 0 ∧ H 4 = some (frontL s) ∧ S 6 = .int .i64 (i : Nat) ∧ S 5 = .slice (.own 22) (Q.map vI)) (by simp [ops_ap, dops_ap, s1, e1, s4, e4, s6, s5', hlt]) ?_
 clear s1 e1 s4 e4 s6 s5 s5' S H
 rintro S H ⟨s1, e1, s4, e4, s6, s5⟩
 refine awp_in ?_
 obtain ⟨hgl, hgv⟩ := List.getElem?_eq_some_iff.1 hgv
 refine awp_cut (fun S H => S 1 = .box 1 0 ∧ H 1 = some (sheetL s) ∧ S 4 = .box 4 0 ∧ H 4 = some (frontL s) ∧ S 6 = .int .i64 (i : Nat) ∧ S 5 = .slice (.own 22) (Q.map vI) ∧ S 7 = vI l) ?_ ?_
 ·simp [ops_ap, dops_ap, s1, e1, s4, e4, s6, s5, hlt, hgv]
 clear s1 e1 s4 e4 s6 s5 S H
 rintro S H ⟨s1, e1, s4, e4, s6, s5, s7⟩
 cases hout : outI s l
 ·rw [hout] at a106
  have hx : extO s l = [] := by unfold extO; rw [hout]; rfl
  rw [hx, List.append_nil] at hsu
  have hbn := hbn (by rw [hout]; rfl)
  simp [ops_ap, dops_ap, s1, e1, s4, e4, s6, s5, s7, sheetL]
  refine ⟨_, by kernel_rfl, a106, fun _ => rfl, ?_⟩
  simp [ops_ap, dops_ap, s1, e1, s4, e4, s6, s5, s7, sheetL, hw, hiq]
  refine ⟨?_, fun j hj hji => by simpa using hbn j hj hji⟩
  rw [hsu]
  simp [grow]
  intro h
  rw [h] at hlt
  simp at hlt
 have hx : extO s l = extL s.words.length l := by unfold extO; rw [hout]; rfl
 rw [hx] at hsu
 rw [hout] at a106
 obtain ⟨hlm, hll⟩ := outI_mem hout
 have a107 := ac107f hG s hsh l (by omega) hout
 have hfl := fromL_le hlm
 refine awp_cut (fun S H => S 1 = .box 1 0 ∧ H 1 = some (sheetL s) ∧ S 4 = .box 4 0 ∧ H 4 = some (frontL s) ∧ S 6 = .int .i64 (i : Nat) ∧ S 5 = .slice (.own 22) (Q.map vI) ∧ S 7 = vI l) ?_ ?_
 ·simp [ops_ap, dops_ap, s1, e1, s4, e4, s6, s5, s7, sheetL]
  refine ⟨_, by kernel_rfl, a106, fun _ => rfl, ?_⟩
  simp [ops_ap, dops_ap, s1, e1, s4, e4, s6, s5, s7, sheetL]
 clear s1 e1 s4 e4 s6 s5 s7 S H
 rintro S H ⟨s1, e1, s4, e4, s6, s5, s7⟩
 cases hg : goodS s l with
 | cons x g =>
  rw [hg] at a107
  have hfind := hfind (by rw [hout, hg]; rfl)
  subst hfind
  simp [ops_ap, dops_ap, s1, e1, s4, e4, s6, s5, s7, frontL, sheetL, spaces]
  refine ⟨_, by kernel_rfl, a107, fun _ => rfl, ?_⟩
  simp [ops_ap, dops_ap, s1, e1, s4, e4, s6, s5, s7]
 | nil =>
 rw [hg] at a107
 have hbn := hbn (by rw [hout, hg]; rfl)
 refine awp_cut (fun S H => S 1 = .box 1 0 ∧ H 1 = some (sheetL s) ∧ S 4 = .box 4 0 ∧ H 4 = some (frontL s) ∧ S 6 = .int .i64 (i : Nat) ∧ S 5 = .slice (.own 22) (Q.map vI) ∧ S 7 = vI l) ?_ ?_
 ·simp [ops_ap, dops_ap, s1, e1, s4, e4, s6, s5, s7, frontL, sheetL, spaces]
  refine ⟨_, by kernel_rfl, a107, fun _ => rfl, ?_⟩
  simp [ops_ap, dops_ap, s1, e1, s4, e4, s6, s5, s7, frontL, sheetL, spaces]
 clear s1 e1 s4 e4 s6 s5 s7 S H
 rintro S H ⟨s1, e1, s4, e4, s6, s5, s7⟩
 refine awp_cut (fun S H => S 1 = .box 1 0 ∧ H 1 = some (sheetL s) ∧ S 4 = .box 4 0 ∧ H 4 = some (frontL s) ∧ S 6 = .int .i64 (i : Nat) ∧ S 5 = .slice (.own 22) (Q.map vI) ∧ S 7 = vI l ∧ S 8 = .int .i64 0) (by simp [ops_ap, dops_ap, s1, e1, s4, e4, s6, s5, s7]) ?_
 clear s1 e1 s4 e4 s6 s5 s7 S H
 rintro S H ⟨s1, e1, s4, e4, s6, s5, s7, s8⟩
 refine awp_cut (fun S H => S 1 = .box 1 0 ∧ H 1 = some (sheetL s) ∧ S 4 = .box 4 0 ∧ H 4 = some (frontL s) ∧ S 6 = .int .i64 (i : Nat) ∧ S 5 = .slice (.own 22) (Q.map vI) ∧ S 7 = vI l ∧ S 8 = .int .i64 (fromL l : Nat)) ?_ ?_
 ·by_cases h0 : l = []
  ·subst h0
   simp [ops_ap, dops_ap, s1, e1, s4, e4, s6, s5, s7, s8, fromL]
  ·have hp := List.length_pos_iff.2 h0
   have hla := fromL_last hp (fun x h => (hlm x h).1)
   have hwm : IntKind.i64.wrap ((l.length : Int) - 1) = (l.length - 1 : Nat) := by rw [wrapI (by omega)]; omega
   have hlz : l.length - 1 < l.length := by omega
   have hwf : IntKind.i64.wrap (fromL l : Int) = (fromL l : Nat) := wrapI (by omega)
   simp [ops_ap, dops_ap, s1, e1, s4, e4, s6, s5, s7, s8, hp, hwm, hlz, hla, hwf]
 clear s1 e1 s4 e4 s6 s5 s7 s8 S H
 rintro S H ⟨s1, e1, s4, e4, s6, s5, s7, s8⟩
 have hQn : Q ≠ [] := by intro h; rw [h] at hlt; simp at hlt
 simp [ops_ap, dops_ap, s1, e1, s4, e4, s6, s5, s7, s8]
 refine awp_loopF 9 (fromL l) s.words.length (fun k S H => S 1 = .box 1 0 ∧ H 1 = some (sheetL s) ∧ S 4 = .box 4 0 ∧ H 4 = some (frontL s) ∧ S 6 = .int .i64 (i : Nat) ∧ S 7 = vI l ∧ S 9 = .int .i64 (k : Nat) ∧ S 5 = grow 22 ((Q ++ (List.range' (fromL l) (k - fromL l)).map fun i : Nat => l ++ [(i : Int)]).map vI)) hfl (fun k S H h => h.2.2.2.2.2.2.1) ⟨by simp [ops_ap, dops_ap, s1], by simp [ops_ap, dops_ap, e1], by simp [ops_ap, dops_ap, s4], by simp [ops_ap, dops_ap, e4], by simp [ops_ap, dops_ap, s6], by simp [ops_ap, dops_ap, s7], by simp [ops_ap, dops_ap], by simp [ops_ap, dops_ap, s5, grow, hQn]⟩ ?_
 clear s1 e1 s4 e4 s6 s5 s7 s8 S H
 rintro k hkf hk S H ⟨s1, e1, s4, e4, s6, s7, s9, s5⟩
 by_cases hkl : k < s.words.length
 case neg =>
  have hkl' : k = s.words.length := by omega
  subst hkl'
  have e : Q ++ (List.range' (fromL l) (s.words.length - fromL l)).map (fun i : Nat => l ++ [(i : Int)]) = seenQ s (i + 1) := hsu.symm
  rw [e] at s5
  have hQ2 : seenQ s (i + 1) ≠ [] := by simp [seenQ]
  simp [ops_ap, dops_ap, s1, e1, s4, e4, s6, s7, s9, s5, sheetL, hw, hiq, grow, hQ2]
  exact fun j hj hji => by simpa using hbn j hj hji
 have hkw : IntKind.i64.wrap ((k : Int) + 1) = k + 1 := wrapI (by omega)
 have a108 := ac108 hG (ints l) (ints_ok1 l) (by simp [ints]; omega)
 have hrs := range'_snoc (fromL l) k hkf
 have hPl : (Q ++ (List.range' (fromL l) (k - fromL l)).map fun i : Nat => l ++ [(i : Int)]).length ≤ 2100 := by simp; omega
 have hrs2 : Q ++ (List.range' (fromL l) (k + 1 - fromL l)).map (fun i : Nat => l ++ [(i : Int)]) = (Q ++ (List.range' (fromL l) (k - fromL l)).map fun i : Nat => l ++ [(i : Int)]) ++ [l ++ [(k : Int)]] := by rw [hrs, List.map_append, List.append_assoc]; rfl
 rw [hrs2]
 clear hrs hrs2
 generalize Q ++ (List.range' (fromL l) (k - fromL l)).map (fun i : Nat => l ++ [(i : Int)]) = P at s5 hPl ⊢
 have hok1 : elemsOK 1 [AV.int .i64 (k : Nat)] = true := rfl
 have hok2 : elemsOK 1 [vI (l ++ [(k : Int)])] = true := rfl
 have hokl : elemsOK 1 (ints l) = true := ints_ok1 l
 simp [s1, e1, s4, e4, s6, s7, s9, s5, hkl, sheetL]
 refine ⟨_, by kernel_rfl, a108, by simp [boxy], ?_⟩
 simp [s1, e1, s4, e4, s6, s7, s9, s5, hkl, hok1]
 refine aops_app (ints l) (AV.int .i64 (k : Nat)) (.own 3) (by simp [grow]) (by simp) hok1 hokl (by simp [ints]; omega) ?_
 intro S' sd hk'
 have hok3 : elemsOK 1 [AV.slice .view (ints l ++ [AV.int .i64 (k : Nat)])] = true := rfl
 simp [sd, hk', s1, e1, s4, e4, s6, s7, s9, s5, grow, hok3]
 refine aops_app (P.map vI) (vI (l ++ [(k : Int)])) (.own 22) (by simp [hk', s5, grow]) (by simp [ints]) hok2 (vIs_ok1 P) (by simp; omega) ?_
 intro S'' sd' hk''
 simp [sd', hk'', hk', s1, e1, s4, e4, s6, s7, s9, hkl, hkw, sheetL, grow]
theorem ac10 (hG : Stable GI) (hML : ML GI) (s : Sheet) : AC prog GI 10 [sheetA s] (.ret (.bool true)) := by
 have hk := ac24 hG hML
 refine AC.of_body hG hmix func10 rfl ntmps10 (by simp) (ac := c10) (by kernel_rfl) ?_
 refine awp_cut (fun S H => S 1 = .box 1 0 ∧ H 1 = some (sheetL s)) (by simp [ops_ap, dops_ap, sheetA, sheetL]) ?_
 rintro S H ⟨s1, e1⟩
 simp [ops_ap, dops_ap, s1, e1, sheetL]
 refine ⟨_, by kernel_rfl, ac29 hG s, fun _ => rfl, ?_⟩
 cases hsI : shortI s
 ·simp [ops_ap, dops_ap, s1, e1, sheetL]
  refine ⟨_, by kernel_rfl, hk, fun _ => rfl, ?_⟩
  simp [ops_ap, dops_ap]
 have hs := shortI_slim hsI
 have a50 := ac50 hG s hs
 unfold dropO at a50
 simp [ops_ap, dops_ap, s1, e1, sheetL]
 cases hsh : sheetI s
 ·rw [hsh] at a50
  refine ⟨_, by kernel_rfl, a50, by simp [boxy], ?_⟩
  simp [ops_ap, dops_ap, s1, e1, sheetL]
  refine ⟨_, by kernel_rfl, ac33 hG s hs, fun _ => rfl, ?_⟩
  rw [hsh]
  simp [ops_ap, dops_ap, s1, e1, sheetL, ints]
  refine ⟨_, by kernel_rfl, hk, fun _ => rfl, ?_⟩
  simp [ops_ap, dops_ap]
 rw [hsh, if_pos rfl] at a50
 have a51 := ac51 hG s hsh
 unfold dropR at a51
 cases hd : dropI s with
 | none =>
  rw [hd] at a50 a51
  refine ⟨_, by kernel_rfl, a50, by simp [boxy], ?_⟩
  simp [ops_ap, dops_ap, s1, e1, sheetL]
  refine ⟨_, by kernel_rfl, ac33 hG s hs, fun _ => rfl, ?_⟩
  rw [hsh]
  simp [ops_ap, dops_ap, s1, e1, sheetL]
  refine ⟨_, by kernel_rfl, a51, by simp [boxy], ?_⟩
  simp [ops_ap, dops_ap, s1, e1, sheetL, ints]
  refine ⟨_, by kernel_rfl, hk, fun _ => rfl, ?_⟩
  simp [ops_ap, dops_ap]
 | some l =>
  rw [hd] at a50 a51
  have hl : l.length < 1000000 := by
   unfold dropI at hd
   have := queue_short (List.mem_of_find?_eq_some hd)
   have := (sheetF hsh).words.2
   omega
  have a52 := ac52 hG l l hl
  refine ⟨_, by kernel_rfl, a50, by simp [boxy], ?_⟩
  simp [ops_ap, dops_ap, s1, e1, sheetL]
  refine ⟨_, by kernel_rfl, ac33 hG s hs, fun _ => rfl, ?_⟩
  rw [hsh]
  simp [ops_ap, dops_ap, s1, e1, sheetL]
  refine ⟨_, by kernel_rfl, a51, by simp [boxy], ?_⟩
  simp [ops_ap, dops_ap, s1, e1, sheetL]
  refine ⟨_, by kernel_rfl, a52, by simp [boxy], ?_⟩
  simp [ops_ap, dops_ap, s1, e1, sheetL]
  refine ⟨_, by kernel_rfl, hk, fun _ => rfl, ?_⟩
  simp [ops_ap, dops_ap]
end Go.Proofs.Tryz
namespace Go.Proofs.YtjdgdinalodjfaaGreatDoor
open Go Go.AL Go.ChangeShapes Go.WideShapes Go.ChangeAt Go.RowKit Go.Proofs.Tryz
set_option maxRecDepth 100000
namespace Drops
abbrev row : OpenClaim := Rows.letterDropsRow
abbrev spec : ChangeSpec := Rows.letterDropsSpec
theorem call (W : World) (base : Nat) (args : Array Value) {H : Type} {enc : TypeId × Value → H} (ds : List (DataW H)) (p : List MemPlace) (hG : GI W) (hval : ∀ (j : Nat) t v, Tryz.f10.params[j]? = some t → args[j]? = some v → Value.okWide Tryz.prog W .any base t v)
  (hA : DataW.TrodAll enc Tryz.prog W 0 (fun _ => true) true Tryz.f10.params.toList args.toList ds p) : Calls Tryz.prog 10 args W fun e W' => e = .returned (.bool true) ∧ Below W.heap.size W W' := by
 rw [Tryz.params10] at hA hval
 obtain ⟨v0, vs0, d0, ds0, p0, q0, e0, rfl, rfl, h0, hr1⟩ := trodAll_cons hA
 obtain ⟨rfl, rfl, rfl⟩ := trodAll_nil hr1
 obtain rfl : args = #[v0] := by
  apply Array.toList_inj.1; rw [e0]
 obtain ⟨x0, g0, a0⟩ := open_sheet (hval 0 28 v0 rfl rfl) h0
 refine calls_of (ac10 gi_stable (fun _ h => h) x0) hG rfl fun i h h' => ?_
 match i, h with
 | 0, _ => exact .data _ _ a0
theorem w1 (os : Os) : ((World.laidAll Tryz.prog os row.laid).forCall (fun _ _ => 0) ⟨#[], #[.agg #[.slice none 0 0, .slice none 0 0, .int .i64 0, .int .i64 0, .int .i64 0, .int .i64 0, .int .i64 0, .slice none 0 0, .int .i64 0, .int .i64 0]], []⟩).Shaped Tryz.checked.prog :=
 World.shaped_of_ZipB (by kernel_rfl) (by kernel_rfl)
theorem lifted (os : Os) (started : os.Started) (H : Type) (enc : TypeId × Value → H) :
  ReturnsInHanded {} Tryz.checked os 10 .any (fun w args => (spec.pre enc Tryz.prog Tryz.f10 row.domain false w args ∧ laidMetH Tryz.prog row.laid w) ∧ sizedMet enc Tryz.prog Tryz.f10 (OpenSpec.ofChange spec) false w args)
   (spec.post enc Tryz.prog Tryz.f10 false true false false) := by
 refine lifted_of 10 Tryz.f10 Tryz.func10 (by kernel_rfl) (by kernel_rfl) spec rfl ?_ ?_ os started _ 12 (w1 os) (by kernel_rfl) (by kernel_rfl) (by kernel_rfl) ?_ (fun W base args ds p => call W base args ds p)
 ·intro ds hl
  rw [show Tryz.f10.params.size = 1 by kernel_rfl] at hl
  match ds, hl with
  | [d0], _ => rfl
 ·rw [Tryz.params10]
  intro t ht
  have : t = 28 := by simpa using ht
  rcases this with rfl
  all_goals exact ⟨by kernel_rfl, of_decide_eq_true (by kernel_rfl)⟩
 ·rw [MakeChecks.laidMetH_plain _ _ _ (by kernel_rfl)]; exact laidMet_laidAll _ (by kernel_rfl) (by kernel_rfl)
theorem f_named : Tryz.prog.funcNamed "mahlstick/mahlsticklaw01.LetterDrops" = some 10 := by kernel_rfl
theorem f_inPlace : (row.inPlace == Tryz.prog.inPlace 10) = true := by kernel_rfl
theorem f_unfollowed : (row.unfollowed == Tryz.prog.unfollowed 10) = true := by kernel_rfl
theorem f_recurses : (row.recurses == Tryz.prog.recurses 10) = true := by kernel_rfl
theorem f_vars : (row.named == Tryz.prog.varsNamed 10) = true := by kernel_rfl
theorem joined : joinedFacts Tryz.prog 10 Tryz.f10 spec row = true :=
 joined_of ⟨rfl, rfl, rfl, rfl, rfl, rfl⟩ (by kernel_rfl) (by kernel_rfl) (by kernel_rfl) f_inPlace f_unfollowed f_recurses f_vars (by kernel_rfl) (by kernel_rfl) (by kernel_rfl) (by kernel_rfl)
theorem instanceOf : Tryz.f10.isInstance Tryz.prog row.origin row.targs := of_decide_eq_true (by kernel_rfl)
theorem wrapperOf : Tryz.f10.isWrapper Tryz.prog row.wrapper row.mainSum := by
 unfold Func.isWrapper
 rw [if_neg (by decide +kernel)]
 exact ⟨rfl, rfl⟩
theorem holds : Rows.LetterDropsSaid :=
 OpenClaim.holds_of_wide 10 Tryz.f10 rfl rfl rfl rfl rfl rfl rfl ⟨rfl, rfl, rfl, rfl, rfl⟩ rfl rfl rfl rfl rfl f_named Tryz.func10 joined instanceOf wrapperOf (fun os started H enc _ => lifted os started H enc)
theorem f_wf : row.wfByText (OpenSpec.ofChange spec) = true := by kernel_rfl
theorem f_goes : false = row.goesBy Tryz.prog := by kernel_rfl
theorem f_stand : ([28].all fun u => !Tryz.prog.wantsStandIn u) = true := by kernel_rfl
theorem f_main : Tryz.prog.mainIs = some (true, "c6c35c26350f8f1001e286baba07dbfbfaca16fe3311917b4f7043a2b45b2948".toList) := by rw [p_mainIs, p_sum]
theorem card : Rows.LetterDropsCardSaid :=
 Claim7.holds_tied_plain_at .later [] [.data, .data, .data, .data, .pinned] true (true, "c6c35c26350f8f1001e286baba07dbfbfaca16fe3311917b4f7043a2b45b2948") true holds (fun _ h => by cases h) f_wf (fun _ h => by cases h) letterDrops_row_tie rfl ⟨rfl, rfl⟩ f_main rfl
  (fun f fn hf hfn => by
   obtain rfl : f = 10 := Option.some.inj (f_named.symm.trans hf) |>.symm
   obtain rfl : fn = Tryz.f10 := (Option.some.inj (Tryz.func10.symm.trans hfn)).symm
   refine ⟨p_looks, fun j t ht => ?_⟩
   rw [Tryz.params10] at ht
   have hm : t ∈ [28] := by
    simpa using Array.mem_of_getElem? ht
   exact (show Tryz.prog.wantsStandIn t = false by simpa using List.all_eq_true.1 f_stand t hm))
  f_goes
end Drops
#print axioms Drops.card
end Go.Proofs.YtjdgdinalodjfaaGreatDoor
