/-
  The statement's function LetterOvers returns true and leaves its argument as it is, for every sheet; no condition. The texts before this one hold the layer of abstract values, the code of the functions that are reached, and their contracts.
-/
import Derived.Test.YtjdgdinalodjfaaGreatDoorA3
import Derived.Test.YtjdgdinalodjfaaGreatDoorP1
import Derived.Test.YtjdgdinalodjfaaGreatDoorQ1
set_option linter.all false
set_option linter.unusedVariables false
set_option linter.unusedSimpArgs false
set_option linter.deprecated false
namespace Go.AL
theorem ops_panic {P : Program} {GI : World → Prop} (x d rest K Qp S H) : aops P GI (⟨d, none, .panic x⟩ :: rest) K Qp S H = (match ev S x with
  | .iface t v => Qp (.iface t v)
  | _ => False) := rfl
end Go.AL
namespace Go.Proofs.Tryz
open Go Go.AL Go.RowKit Go.Proofs
attribute [local simp] awp_all qs_all ops_all dops_all ops_nil dops_nil ops_call ops_callv ops_alloc ops_box dops_call dops_alloc kO_eq kD_eq awanted apure ev Eff.S Eff.H tmpOf upd putD AL.start AV.dem AV.cells AV.storable AV.scells splice scrub abin loadA HR.okB post ares aress ares1 AV.out AV.isData ints_len ints_get fz fz1 AV.vw AV.vw1 boxy vI int undefA assignQ thenQ blockQ seqQ panQ prol prolH allocOf
variable {GI : World → Prop}
def wide133 (s : Sheet) (out : List Int) (es : List End) (st : Int) : Int := firstT (fun n => decide (s.wide < n)) (widthsI s out es st)
theorem fit_wide {s : Sheet} {out : List Int} {es : List End} {st : Int} : ((widthsI s out es st).all fun n => decide (n ≤ s.wide)) = decide (wide133 s out es st < 0) := by
 have h := firstT_any (p := fun n => decide (s.wide < n)) (l := widthsI s out es st)
 have e : ((widthsI s out es st).all fun n => decide (n ≤ s.wide)) = !((widthsI s out es st).any fun n => decide (s.wide < n)) := by
  rw [Bool.eq_iff_iff]
  simp
 rw [e, ← h]
 unfold wide133
 by_cases hz : 0 ≤ firstT (fun n => decide (s.wide < n)) (widthsI s out es st)
 ·have : ¬ firstT (fun n => decide (s.wide < n)) (widthsI s out es st) < 0 := by omega
  simp [hz, this]
 ·have : firstT (fun n => decide (s.wide < n)) (widthsI s out es st) < 0 := by omega
  simp [hz, this]
def out133 (s : Sheet) (out : List Int) (es : List End) (st : Int) : AOut := if wide133 s out es st < 0 then .ret (.tup []) else .panic (.iface 161 (.agg [.int .i64 (wide133 s out es st)]))
set_option maxHeartbeats 2000000 in
theorem ac133 (hG : Stable GI) (s : Sheet) (hsh : sheetI s = true) (out : List Int) (ho : out.length < 1000000) (es : List End) (he : es.length < 100000) (g : Good s out es) {st : Int} (h0 : 0 ≤ st) (h1 : st ≤ 10) : AC prog GI 133 [.ref (frontL s), .ref [vI out, .slice .view (es.map endA)], .ref [.int .i64 st]] (out133 s out es st) := by
 have hlw := widthsI_len s out es st
 refine AC.of_body hG hmix func133 rfl ntmps133 (by simp) (ac := c133) (by kernel_rfl) ?_
 refine awp_cut (fun S H => S 0 = .ref (frontL s) ∧ S 2 = .ref [.int .i64 st] ∧ S 7 = .slice .view (linesL s out es es.length) ∧ S 8 = .int .i64 es.length ∧ S 9 = .int .i64 0) ?_ ?_
 ·simp [frontL, sheetL, spaces]
  refine ⟨_, by kernel_rfl, ac81 hG s hsh out ho es he g, by simp [boxy], ?_⟩
  simp [linesL_len]
 rintro S H ⟨s0, s2, s7, s8, s9⟩
 simp [s0, s2, s7, s8, s9]
 refine awp_loop 9 es.length (fun i S H => S 0 = .ref (frontL s) ∧ S 2 = .ref [.int .i64 st] ∧ S 7 = .slice .view (linesL s out es es.length) ∧ S 8 = .int .i64 es.length ∧ S 9 = .int .i64 (i : Nat) ∧ ∀ j (hj : j < (widthsI s out es st).length), j < i → decide (s.wide < (widthsI s out es st)[j]) = false) (fun i S H h => h.2.2.2.2.1) ⟨by simp [s0], by simp [s2], by simp [s7], by simp [s8], by simp [s9], fun j _ hj => absurd hj (Nat.not_lt_zero _)⟩ ?_
 clear s0 s2 s7 s8 s9 S H
 rintro i hi S H ⟨s0, s2, s7, s8, s9, hb⟩
 by_cases hlt : i < es.length
 case neg =>
  have hn : wide133 s out es st < 0 := by
   unfold wide133
   rw [firstT_none fun j hj => hb j hj (by omega)]; decide
  unfold out133
  rw [if_pos hn]
  simp [s0, s2, s7, s8, s9, hlt]
 have hw : IntKind.i64.wrap ((i : Int) + 1) = i + 1 := wrapI (by omega)
 have hln : (linesL s out es es.length)[i]? = some (.agg [.slice .view ((rowI s out es i).map gA), .bool (cutI s es i)]) := by
  unfold linesL
  rw [List.getElem?_map, List.getElem?_range hlt]; rfl
 have hwi : (widthsI s out es st)[i]'(by omega) = wideI s out es st i := by unfold widthsI; simp
 refine awp_cut (fun S H => S 0 = .ref (frontL s) ∧ S 2 = .ref [.int .i64 st] ∧ S 7 = .slice .view (linesL s out es es.length) ∧ S 8 = .int .i64 es.length ∧ S 9 = .int .i64 (i : Nat) ∧ S 10 = .bool true) (by simp [s0, s2, s7, s8, s9, hlt]) ?_
 clear s0 s2 s7 s8 s9 S H
 rintro S H ⟨s0, s2, s7, s8, s9, s10⟩
 refine awp_go (by simp [s10]) ?_
 refine awp_in ?_
 refine awp_cut (fun S H => S 0 = .ref (frontL s) ∧ S 2 = .ref [.int .i64 st] ∧ S 7 = .slice .view (linesL s out es es.length) ∧ S 8 = .int .i64 es.length ∧ S 9 = .int .i64 (i : Nat) ∧ S 3 = .int .i64 (i : Nat) ∧ S 4 = .box 4 0 ∧ H 4 = some [.slice .view ((rowI s out es i).map gA), .bool (cutI s es i)]) (by simp [s0, s2, s7, s8, s9, hlt, hln]) ?_
 clear s0 s2 s7 s8 s9 s10 S H
 rintro S H ⟨s0, s2, s7, s8, s9, s3, s4, e4⟩
 have a84 := ac84 hG s hsh (rowI_ne g hlt) (rowI_len hsh g i) (fun x hx => rowI_mem g hx) (cutI s es i) h0 h1
 have hfirst : s.wide < wideI s out es st i → wide133 s out es st = i := fun h => by
  unfold wide133
  exact firstT_at (i := i) (by omega) (by rw [hwi]; simpa using h) hb
 simp [s0, s2, s7, s8, s9, s3, s4, e4, frontL, sheetL, spaces]
 refine ⟨_, by kernel_rfl, a84, by simp [boxy], ?_⟩
 by_cases hwide : s.wide < wideI s out es st i
 ·have hwide' : s.wide < wideP s st ((rowI s out es i).map (letS s)) (cutI s es i) := hwide
  have hf := hfirst hwide
  unfold out133
  rw [if_neg (by omega), hf]
  simp [s0, s2, s7, s8, s9, s3, s4, e4, frontL, sheetL, spaces, hwide', ops_panic, fillA]
 ·have hwide' : ¬ s.wide < wideP s st ((rowI s out es i).map (letS s)) (cutI s es i) := hwide
  simp [s0, s2, s7, s8, s9, s3, s4, e4, frontL, sheetL, spaces, hwide', hw, hlt]
  intro j hj hji
  by_cases e : j = i
  ·subst e; rw [hwi]; omega
  ·have := hb j hj (by omega); simpa using this
theorem ac86 (hG : Stable GI) (s : Sheet) (hsh : sheetI s = true) (out : List Int) (ho : out.length < 1000000) (es : List End) (he : es.length < 100000) (g : Good s out es) {st : Int} (h0 : 0 ≤ st) (h1 : st ≤ 10) : AC prog GI 86 [frontA s, settingA out es, .int .i64 st] (.ret (.bool (fitI s out es st))) := by
 have a := ac133 hG s hsh out ho es he g h0 h1
 have e : fitI s out es st = (decide ((es.length : Int) ≤ s.rows) && decide (wide133 s out es st < 0)) := by unfold fitI; rw [fit_wide]
 rw [e]
 refine AC.of_body hG hmix func86 rfl ntmps86 (by simp) (ac := c86) (by kernel_rfl) ?_
 refine awp_cut (fun S H => S 3 = .box 3 0 ∧ S 4 = .box 4 0 ∧ S 5 = .box 5 0 ∧ H 3 = some (frontL s) ∧ H 4 = some [vI out, .slice .view (es.map endA)] ∧ H 5 = some [.int .i64 st]) (by simp [frontA, frontL, sheetL, spaces, settingA, endsA]) ?_
 rintro S H ⟨s3, s4, s5, e3, e4, e5⟩
 by_cases hr : (es.length : Int) ≤ s.rows
 case neg => simp [s3, s4, s5, e3, e4, e5, frontL, sheetL, spaces, hr]
 unfold out133 at a
 by_cases hw : wide133 s out es st < 0
 ·rw [if_pos hw] at a
  have b := ac117 hG (k := 133) (by kernel_rfl) a (.inl ⟨_, rfl, rfl⟩)
  simp [s3, s4, s5, e3, e4, e5, frontL, sheetL, spaces, hr]
  refine ⟨_, by kernel_rfl, b, fun _ => rfl, ?_⟩
  simp [hw]
 ·rw [if_neg hw] at a
  have b := ac117 hG (k := 133) (by kernel_rfl) a (.inr (.inl ⟨_, rfl, rfl⟩))
  simp [s3, s4, s5, e3, e4, e5, frontL, sheetL, spaces, hr]
  refine ⟨_, by kernel_rfl, b, fun _ => rfl, ?_⟩
  simp [hw]
end Go.Proofs.Tryz
namespace Go.AL
end Go.AL
namespace Go.Proofs.Tryz
open Go Go.AL Go.RowKit Go.Proofs
attribute [local simp] awp_all qs_all ops_all dops_all ops_nil dops_nil ops_call ops_callv ops_alloc ops_box dops_call dops_alloc kO_eq kD_eq awanted apure ev Eff.S Eff.H tmpOf upd putD AL.start AV.dem AV.cells AV.storable AV.scells splice scrub abin loadA HR.okB post ares aress ares1 AV.out AV.isData ints_len ints_get fz fz1 AV.vw AV.vw1 boxy vI int undefA assignQ thenQ blockQ seqQ panQ prol prolH allocOf
variable {GI : World → Prop}
theorem frontL_vw (s : Sheet) : (frontL s).map AV.vw1 = frontL s := by
 simp [frontL, sheetL, spaces, vI, ints, AV.vw1]
theorem frontL_len (s : Sheet) : (frontL s).length = 11 := rfl
theorem frontL_take (s : Sheet) : AV.agg ((frontL s).take 10 |>.map AV.vw1) = sheetA s := by
 simp [frontL, sheetL, sheetA, vI, ints, AV.vw1]
theorem sheet_slim {s : Sheet} (h : sheetI s = true) : Slim s := by
 have hF := sheetF h
 refine ⟨by have := hF.wlen; omega, by have := hF.plen; omega, by have := hF.words; omega, fun w hw => ?_, fun w hw => ?_⟩
 ·have := (wordF h hw).len6; omega
 ·have f := wordF h hw
  have := rises_bound f.cuts (by have := f.len1; omega)
  have := f.len6
  omega
theorem it_set (hG : Stable GI) (s : Sheet) (hsh : sheetI s = true) (out : List Int) (ho : out.length ≤ 1000) : IterC prog GI 144 [.ref (frontL s), .ref [vI out]] ((allS s out s.rows.toNat).map (settingA out)) := by
 have hr := (sheetF hsh).rows
 have he := endsL_len hsh out
 refine it144 hG (oE := .view) (all := endsL s out) (rows := s.rows.toNat) (by omega) (by omega) ho (frontL_len s) ?_ ?_ ?_
 ·intro x hx
  simp [frontL, sheetL] at hx
  rcases hx with rfl | rfl | rfl | rfl | rfl | rfl | rfl | rfl | rfl | rfl <;> exact ⟨rfl, rfl, rfl⟩
 ·show some (AV.int .i64 s.rows) = some (.int .i64 (s.rows.toNat : Nat))
  rw [Int.toNat_of_nonneg (by omega)]
 ·rw [frontL_take]
  exact ac145 hG s (sheet_slim hsh) out (by omega)
theorem allS_good {s : Sheet} (hsh : sheetI s = true) {out : List Int} (hout : outI s out = true) {es : List End} (h : es ∈ allS s out s.rows.toNat) : setR s out es = true ∧ es.length ≤ 3 := by
 have hr := (sheetF hsh).rows
 obtain ⟨h1, h2⟩ := (mem_allS hsh hout).1 h
 exact ⟨h1, by omega⟩
theorem ac86s (hG : Stable GI) (s : Sheet) (hsh : sheetI s = true) (out : List Int) (ho : out.length ≤ 1000) (hout : outI s out = true) {es : List End} (h : es ∈ allS s out s.rows.toNat) : AC prog GI 86 [.agg ((frontL s).map AV.vw1), settingA out es, .int .i64 0] (.ret (.bool (fitI s out es 0))) := by
 obtain ⟨h1, h2⟩ := allS_good hsh hout h
 rw [frontL_vw]
 exact ac86 hG s hsh out (by omega) es (by omega) (good_of hsh h1) (by omega) (by omega)
theorem ac107f (hG : Stable GI) (s : Sheet) (hsh : sheetI s = true) (out : List Int) (ho : out.length ≤ 1000) (hout : outI s out = true) : AC prog GI 107 [frontA s, vI out] (.ret (.bool (!(goodS s out).isEmpty))) := by
 have e : (!(goodS s out).isEmpty) = (allS s out s.rows.toNat).any fun es => fitI s out es 0 := by
  unfold goodS
  rw [Bool.eq_iff_iff]
  simp [List.filter_eq_nil_iff]
 rw [e]
 exact ac107 hG (frontL_len s) (by rw [frontL_vw]; exact it_set hG s hsh out ho) (fun es h => ac86s hG s hsh out ho hout h)
theorem bestL_mem {α : Type} (better : α → α → Bool) : ∀ (l : List α) (x : α), bestL better x l ∈ x :: l
 | [], x => List.mem_cons_self
 | a :: l, x => by
  show bestL better (if better a x then a else x) l ∈ _
  have := bestL_mem better l (if better a x then a else x)
  rcases List.mem_cons.1 this with e | h
  ·rw [e]; split <;> simp
  ·exact List.mem_cons_of_mem _ (List.mem_cons_of_mem _ h)
theorem good_ok {s : Sheet} (hsh : sheetI s = true) {a : List End} (h : a ∈ goodS s []) : setR s [] a = true ∧ a.length ≤ 3 ∧ fitI s [] a 0 = true := by
 have hr := (sheetF hsh).rows
 obtain ⟨h1, h2⟩ := (mem_goodS hsh (outI_nil hsh)).1 h
 refine ⟨h1, ?_, h2⟩
 unfold fitI at h2
 simp only [Bool.and_eq_true, decide_eq_true_eq] at h2
 omega
end Go.Proofs.Tryz
namespace Go.AL
section
variable {P : Program} {GI : World → Prop}
theorem appVL {S : Slots} {H : Boxes} {t e size cap i j : Nat} {l vs : List AV} {o : Ow} (hi : S i = grow e l) (hj : S j = .slice o vs) (hv : elemsOK size vs = true) (hl : elemsOK size l = true) (hn : l.length + vs.length < 1048576) :
  ∃ dm, (dm = none ∨ dm = some i) ∧ apure S H (.append t e size cap (.t i) (.t j)) = some { v := grow e (l ++ vs), dm := dm } := by
 have ei : ev S (.t i) = grow e l := hi
 have ej : ev S (.t j) = .slice o vs := hj
 cases l with
 | nil =>
  refine ⟨none, .inl rfl, ?_⟩
  simp only [apure]
  rw [ei, ej, grow_nil]
  have hn' : vs.length < 1048576 := by simpa using hn
  simp [hv, grow, hn']
 | cons x l =>
  refine ⟨some i, .inr rfl, ?_⟩
  have hn' : l.length + 1 + vs.length < 1048576 := by simpa using hn
  simp only [apure]
  rw [ei, ej]
  simp [grow, hv, hl, tmpOf, hn']
theorem dops_appL {K : Slots → Boxes → Prop} {S : Slots} {H : Boxes} {t e size cap d i j : Nat} {rest : List AOpr} (l vs : List AV) (o : Ow) (hi : S i = grow e l) (hj : S j = .slice o vs) (hv : elemsOK size vs = true) (hl : elemsOK size l = true) (hn : l.length + vs.length < 1048576)
  (h : ∀ S', S' d = grow e (l ++ vs) → (∀ k, k ≠ d → k ≠ i → S' k = S k) → dops P GI rest K S' H) : dops P GI (⟨some d, none, .append t e size cap (.t i) (.t j)⟩ :: rest) K S H := by
 obtain ⟨dm, hdm, hap⟩ := appVL (t := t) (cap := cap) (H := H) hi hj hv hl hn
 obtain ⟨k1, k2⟩ := eff_keep (S := S) (d := d) hdm (grow e (l ++ vs))
 rw [dops_ap]
 simp only [awanted, hap]
 exact h _ k1 k2
theorem dops_app0 {K : Slots → Boxes → Prop} {S : Slots} {H : Boxes} {t e size cap d j : Nat} {rest : List AOpr} (vs : List AV) (o : Ow) (hj : S j = .slice o vs) (hv : elemsOK size vs = true) (hn : vs.length < 1048576)
  (h : dops P GI rest K (upd S d (grow e vs)) H) : dops P GI (⟨some d, none, .append t e size cap (.c (.slice .nil [])) (.t j)⟩ :: rest) K S H := by
 have ej : ev S (.t j) = .slice o vs := hj
 rw [dops_ap]
 simp only [awanted, apure, ej]
 have e1 : ev S (.c (.slice .nil [])) = .slice .nil [] := rfl
 rw [e1]
 simp only [hv, hn, decide_true, Bool.and_self, if_true]
 have e2 : (if vs.isEmpty = true then Ow.nil else Ow.own e) = (if vs = [] then Ow.nil else Ow.own e) := by simp
 rw [e2]
 exact h
end
end Go.AL
namespace Go.Proofs.Tryz
open Go Go.AL Go.RowKit Go.Proofs
attribute [local simp] awp_all qs_all ops_allN dops_allN ops_nil dops_nil ops_call ops_callv ops_alloc ops_box dops_call dops_alloc kO_eq kD_eq awanted apure ev Eff.S Eff.H tmpOf upd putD AL.start AV.dem AV.cells AV.storable AV.scells splice scrub abin loadA HR.okB post ares aress ares1 AV.out AV.isData ints_len ints_get fz fz1 AV.vw AV.vw1 boxy vI int undefA assignQ thenQ blockQ seqQ panQ prol prolH allocOf
variable {GI : World → Prop}
def vE (l : List End) : AV := .slice .view (l.map endA)
theorem vE_ok1 (l : List (List End)) : elemsOK 1 (l.map vE) = true := elems_map fun a => ⟨rfl, rfl⟩
theorem lp_drop {now all : List End} {m i : Nat} (h : i < all.length) : lp now (all.drop i) m = ch (now ++ [all[i]]) (all.drop (i + 1)) m ++ lp now (all.drop (i + 1)) m := by
 rw [List.drop_eq_getElem_cons h, lp_cons]
set_option maxHeartbeats 1000000 in
theorem ac148 (hG : Stable GI) : ∀ (m : Nat) (now all : List End), m ≤ 3 → now.length + m ≤ 1000 → all.length ≤ 24 → AC prog GI 148 [.slice .view (now.map endA), .slice .view (all.map endA), .int .i64 m] (.ret (.slice .view ((ch now all m).map vE))) := by
 intro m
 induction m with
 | zero =>
  intro now all hm hn hl
  by_cases ha : all = []
  ·subst ha
   have hok : elemsOK 1 [AV.slice .view (now.map endA)] = true := rfl
   have e : (ch now [] 0).map vE = [.slice .view (now.map endA)] := by simp [ch, vE]
   rw [e]
   refine AC.as_view (o := .own 29) ?_
   refine AC.of_body hG hmix func148 rfl ntmps148 (by simp) (ac := c148) (by kernel_rfl) ?_
   simp [c148, ops_ap, dops_ap, hok]
  ·have hn0 : ((all.length : Int) == 0) = false := by have := List.length_pos_iff.2 ha; simp; omega
   refine AC.as_view (o := .nil) ?_
   refine AC.of_body hG hmix func148 rfl ntmps148 (by simp) (ac := c148) (by kernel_rfl) ?_
   simp [c148, ops_ap, dops_ap, ch, ha, hn0]
 | succ m ih =>
  intro now all hm hn hl
  by_cases ha : all = []
  ·subst ha
   have hok : elemsOK 1 [AV.slice .view (now.map endA)] = true := rfl
   have e : (ch now [] (m + 1)).map vE = [.slice .view (now.map endA)] := by simp [ch, vE]
   rw [e]
   refine AC.as_view (o := .own 29) ?_
   refine AC.of_body hG hmix func148 rfl ntmps148 (by simp) (ac := c148) (by kernel_rfl) ?_
   simp [c148, ops_ap, dops_ap, hok]
  have hn0 : ((all.length : Int) == 0) = false := by have := List.length_pos_iff.2 ha; simp; omega
  have hch : ch now all (m + 1) = lp now all m := by unfold ch; rw [if_neg ha]
  have hcl : (ch now all (m + 1)).length ≤ 277 := ch_len hl (by omega)
  rw [hch] at hcl ⊢
  have hm0 : ((m : Int) + 1 == 0) = false := by simp; omega
  have hwm : IntKind.i64.wrap (m : Int) = m := wrapI (by omega)
  refine AC.as_view (o := if lp now all m = [] then .nil else .view) ?_
  refine AC.of_body hG hmix func148 rfl ntmps148 (by simp) (ac := c148) (by kernel_rfl) ?_
  refine awp_cut (fun S H => S 0 = vE now ∧ S 1 = vE all ∧ S 2 = .int .i64 ((m : Int) + 1)) (by simp [ops_ap, dops_ap, vE]) ?_
  rintro S H ⟨s0, s1, s2⟩
  simp [ops_ap, dops_ap, s0, s1, s2, vE, hn0, ha, hm0]
  refine awp_loop 8 all.length (fun i S H => S 0 = vE now ∧ S 1 = vE all ∧ S 2 = .int .i64 ((m : Int) + 1) ∧ S 8 = .int .i64 (i : Nat) ∧ ∃ D, S 7 = grow 29 (D.map vE) ∧ D ++ lp now (all.drop i) m = lp now all m) (fun i S H h => h.2.2.2.1) ⟨by simp [ops_ap, dops_ap, s0, vE], by simp [ops_ap, dops_ap, s1, vE], by simp [ops_ap, dops_ap, s2], by simp [ops_ap, dops_ap], [], by simp [ops_ap, dops_ap, grow], rfl⟩ ?_
  clear s0 s1 s2 S H
  rintro i hi S H ⟨s0, s1, s2, s8, D, s7, hD⟩
  by_cases hlt : i < all.length
  case neg =>
   have hil : i = all.length := by omega
   subst hil
   rw [List.drop_length, lp_nil, List.append_nil] at hD
   subst hD
   by_cases h0 : lp now all m = []
   ·rw [h0] at s7 ⊢
    simp [ops_ap, dops_ap, s0, s1, s2, s8, s7, vE, grow]
   ·have s7' : S 7 = .slice (.own 29) ((lp now all m).map vE) := by rw [s7]; simp [grow, h0]
    simp [ops_ap, dops_ap, s0, s1, s2, s8, s7', vE, h0]
  have hw : IntKind.i64.wrap ((i : Int) + 1) = i + 1 := wrapI (by omega)
  have hlE : lp now (all.drop i) m = ch (now ++ [all[i]]) (all.drop (i + 1)) m ++ lp now (all.drop (i + 1)) m := lp_drop hlt
  have a148 := ih (now ++ [all[i]]) (all.drop (i + 1)) (by omega) (by simp; omega) (by simp; omega)
  have hDl : D.length + (ch (now ++ [all[i]]) (all.drop (i + 1)) m).length ≤ 277 := by
   have := congrArg List.length hD
   rw [hlE] at this
   simp at this; omega
  rw [hlE, ← List.append_assoc] at hD
  have hokn : elemsOK 2 (now.map endA) = true := ends_ok2 now
  have hoka : elemsOK 2 (all.map endA) = true := ends_ok2 all
  have hok1 : elemsOK 2 [endA all[i]] = true := rfl
  have hok2 : elemsOK 1 ((ch (now ++ [all[i]]) (all.drop (i + 1)) m).map vE) = true := vE_ok1 _
  have hT : List.drop (i + 1) (List.take all.length (all.map endA)) = (all.drop (i + 1)).map endA := by rw [List.take_of_length_le (by simp), List.map_drop]
  have hN : (now ++ [all[i]]).map endA = now.map endA ++ [endA all[i]] := by simp
  rw [hN, List.map_drop] at a148
  have hi1 : (0 : Int) ≤ (i : Int) + 1 := by omega
  have hi2 : (i : Int) + 1 ≤ all.length := by omega
  simp [s0, s1, s2, s8, s7, vE, hlt]
  refine dops_app0 (now.map endA) .view (by simp) hokn (by simp; omega) ?_
  simp [s0, s1, s2, s8, s7, vE, hlt, endA]
  refine dops_app (now.map endA) (endA all[i]) (.own 116) (by simp [grow]) (by simp [endA]) hok1 hokn (by simp; omega) ?_
  intro S' sd hk'
  simp [sd, hk', s0, s1, s2, s8, s7, vE, hlt, hw, bound, hoka, hi1, hi2, hwm, grow, hT]
  refine ⟨_, by kernel_rfl, a148, by simp [boxy], ?_⟩
  simp [sd, hk', s0, s1, s2, s8, s7, vE, hlt, hw]
  refine dops_appL (D.map vE) ((ch (now ++ [all[i]]) (all.drop (i + 1)) m).map vE) .view (by simp [hk', s7, vE, grow]) (by simp [vE]) hok2 (vE_ok1 D) (by simp; omega) ?_
  intro S'' sd' hk''
  simp [sd', hk'', sd, hk', s0, s1, s2, s8, vE, hlt, hw]
  exact ⟨D ++ ch (now ++ [all[i]]) (all.drop (i + 1)) m, by simp [grow, vE], hD⟩
end Go.Proofs.Tryz
namespace Go.Proofs.Tryz
open Go Go.AL Go.RowKit Go.Proofs
attribute [local simp] awp_all qs_all ops_allN dops_allN ops_nil dops_nil ops_call ops_callv ops_alloc ops_box dops_call dops_alloc kO_eq kD_eq awanted apure ev Eff.S Eff.H tmpOf upd putD AL.start AV.dem AV.cells AV.storable AV.scells splice scrub abin loadA HR.okB post ares aress ares1 AV.out AV.isData ints_len ints_get fz fz1 AV.vw AV.vw1 boxy vI int undefA assignQ thenQ blockQ seqQ panQ prol prolH allocOf
variable {GI : World → Prop}
theorem endsW_stops {s : Sheet} (hsh : sheetI s = true) {out : List Int} {w : Nat} (hw : w < s.words.length) (hc : out.contains (w : Int) = false) : (stopsN s.words[w] s.words[w].signs.length).map (fun k => ((w : Int), k)) = endsW s out w := by
 have f := wordF hsh (List.getElem_mem hw)
 rw [endsW_at hw hc, stops_all f.len1 f.cuts, List.map_append]; rfl
def endsQ (s : Sheet) (out : List Int) (w n : Nat) (x : Word) : List End := endsP s out w ++ (stopsN x n).map fun k => ((w : Int), k)
theorem endsQ_succ (s : Sheet) (out : List Int) (w n : Nat) (x : Word) : endsQ s out w (n + 1) x = endsQ s out w n x ++ if stopI x (n + 1) then [((w : Int), ((n + 1 : Nat) : Int))] else [] := by
 unfold endsQ
 rw [stopsN_succ, List.map_append, List.append_assoc]
 congr 2
 split <;> rfl
set_option maxHeartbeats 2000000 in
theorem ac149 (hG : Stable GI) (s : Sheet) (hsh : sheetI s = true) (out : List Int) (ho : out.length < 1000000) : AC prog GI 149 [sheetA s, vI out] (.ret (.slice .view ((endsL s out).map endA))) := by
 have hF := sheetF hsh
 have hw4 := hF.words
 have hel := endsL_len hsh out
 refine AC.as_view (o := if endsL s out = [] then .nil else .view) ?_
 refine AC.of_body hG hmix func149 rfl ntmps149 (by simp) (ac := c149) (by kernel_rfl) ?_
 refine awp_cut (fun S H => S 1 = vI out ∧ S 2 = .box 2 0 ∧ H 2 = some (sheetL s)) (by simp [ops_ap, dops_ap, sheetA, sheetL]) ?_
 rintro S H ⟨s1, s2, e2⟩
 simp [ops_ap, dops_ap, s1, s2, e2]
 refine awp_loop 6 s.words.length (fun i S H => S 1 = vI out ∧ S 2 = .box 2 0 ∧ H 2 = some (sheetL s) ∧ S 6 = .int .i64 (i : Nat) ∧ S 5 = grow 116 ((endsP s out i).map endA)) (fun i S H h => h.2.2.2.1) ⟨by simp [ops_ap, dops_ap, s1], by simp [ops_ap, dops_ap, s2], by simp [ops_ap, dops_ap, e2], by simp [ops_ap, dops_ap], by simp [ops_ap, dops_ap, grow, endsP]⟩ ?_
 clear s1 s2 e2 S H
 rintro i hi S H ⟨s1, s2, e2, s6, s5⟩
 by_cases hlt : i < s.words.length
 case neg =>
  have hil : i = s.words.length := by omega
  subst hil
  have hEL : endsP s out s.words.length = endsL s out := rfl
  rw [hEL] at s5
  by_cases h0 : endsL s out = []
  ·rw [h0] at s5 ⊢
   simp [ops_ap, dops_ap, s1, s2, e2, s6, s5, sheetL, grow]
  ·have s5' : S 5 = .slice (.own 116) ((endsL s out).map endA) := by rw [s5]; simp [grow, h0]
   simp [ops_ap, dops_ap, s1, s2, e2, s6, s5', sheetL, h0]
 have hw : IntKind.i64.wrap ((i : Int) + 1) = i + 1 := wrapI (by omega)
 have f := wordF hsh (List.getElem_mem hlt)
 have hl6 := f.len6
 have hcl : s.words[i].cuts.length < 1000000 := by
  have := (sheet_slim hsh).cuts _ (List.getElem_mem hlt); omega
 have hsu := endsP_succ s out i
 cases hct : out.contains (i : Int)
 case true =>
  rw [endsW_out hct, List.append_nil] at hsu
  have a91 := ac91 hG out i (by omega)
  rw [hct] at a91
  have h1l : (1 : Int) ≤ s.words[i].signs.length := by have := f.len1; omega
  simp [ops_ap, dops_ap, s1, s2, e2, s6, s5, sheetL, hlt]
  refine awp_loopF 7 1 1 (fun k S H => S 1 = vI out ∧ S 2 = .box 2 0 ∧ H 2 = some (sheetL s) ∧ S 6 = .int .i64 (i : Nat) ∧ S 5 = grow 116 ((endsP s out i).map endA) ∧ S 7 = .int .i64 (k : Nat)) (by omega) (fun k S H h => h.2.2.2.2.2) ⟨by simp [ops_ap, dops_ap, s1], by simp [ops_ap, dops_ap, s2], by simp [ops_ap, dops_ap, e2, sheetL], by simp [ops_ap, dops_ap, s6], by simp [ops_ap, dops_ap, s5, grow], by simp [ops_ap, dops_ap]⟩ ?_
  clear s1 s2 e2 s6 s5 S H
  rintro k hk1 hk S H ⟨s1, s2, e2, s6, s5, s7⟩
  have hk' : k = 1 := by omega
  subst hk'
  simp [ops_ap, dops_ap, s1, s2, e2, s6, s5, s7, sheetL, hlt, wordA, h1l]
  refine ⟨_, by kernel_rfl, a91, fun _ => rfl, ?_⟩
  simp [ops_ap, dops_ap, s1, s2, e2, s6, s5, s7, sheetL, hlt, hw, hsu, grow]
 rw [← endsW_stops hsh hlt hct] at hsu
 have hq0 : endsP s out i = endsQ s out i 0 s.words[i] := by unfold endsQ stopsN; simp
 have hqn : endsP s out (i + 1) = endsQ s out i s.words[i].signs.length s.words[i] := hsu
 have hql : ∀ n, n ≤ s.words[i].signs.length → (endsQ s out i n s.words[i]).length ≤ 1000 := by
  intro n hn
  unfold endsQ stopsN
  have h1 := endsP_len (sheet_slim hsh) out i
  have h2 := List.length_filter_le (stopI s.words[i]) (List.range' 1 n)
  simp at h2 ⊢
  have h3 : (endsP s out i).length ≤ 24 := by
   have h4 : endsL s out = endsP s out i ++ (List.range' i (s.words.length - i)).flatMap (endsW s out) := by
    show (List.range s.words.length).flatMap (endsW s out) = (List.range i).flatMap (endsW s out) ++ _
    rw [← List.flatMap_append]
    congr 1
    have h5 := List.range'_append_1 (s := 0) (m := i) (n := s.words.length - i)
    rw [List.range_eq_range', List.range_eq_range']
    rw [show i + (s.words.length - i) = s.words.length by omega, Nat.zero_add] at h5
    exact h5.symm
   have := congrArg List.length h4
   rw [List.length_append] at this
   omega
  omega
 rw [hq0] at s5
 rw [hqn]
 generalize hx : s.words[i] = x at *
 simp [ops_ap, dops_ap, s1, s2, e2, s6, s5, sheetL, hlt]
 refine awp_loopF 7 1 (x.signs.length + 1) (fun k S H => S 1 = vI out ∧ S 2 = .box 2 0 ∧ H 2 = some (sheetL s) ∧ S 6 = .int .i64 (i : Nat) ∧ S 7 = .int .i64 (k : Nat) ∧ S 5 = grow 116 ((endsQ s out i (k - 1) x).map endA)) (by omega) (fun k S H h => h.2.2.2.2.1) ⟨by simp [ops_ap, dops_ap, s1], by simp [ops_ap, dops_ap, s2], by simp [ops_ap, dops_ap, e2, sheetL], by simp [ops_ap, dops_ap, s6], by simp [ops_ap, dops_ap], by simp [ops_ap, dops_ap, s5, grow]⟩ ?_
 clear s1 s2 e2 s6 s5 S H
 rintro k hk1 hk S H ⟨s1, s2, e2, s6, s7, s5⟩
 obtain ⟨m, rfl⟩ : ∃ m, k = m + 1 := ⟨k - 1, by omega⟩
 rw [Nat.add_sub_cancel] at s5
 have hxA : wordA s.words[i] = .agg [vI x.signs, vI x.cuts, .bool x.free] := by rw [hx]; rfl
 by_cases hkl : m < x.signs.length
 case neg =>
  have hkl' : m = x.signs.length := by omega
  subst hkl'
  have hn : ¬ ((x.signs.length : Int) + 1 ≤ x.signs.length) := by omega
  simp [ops_ap, dops_ap, s1, s2, e2, s6, s7, s5, sheetL, hlt, hxA, hn, hw, grow]
 have hkl2 : (m : Int) + 1 ≤ x.signs.length := by omega
 have hkw : IntKind.i64.wrap ((m : Int) + 1 + 1) = m + 1 + 1 := wrapI (by omega)
 have a91 := ac91 hG out i (by omega)
 rw [hct] at a91
 have a91c := ac91 hG x.cuts ((m + 1 : Nat) : Int) (by omega)
 have hqs := endsQ_succ s out i m x
 have hqm := hql m (by omega)
 generalize endsQ s out i m x = Q at s5 hqs hqm
 simp [s1, s2, e2, s6, s7, s5, sheetL, hlt, hxA, hkl2]
 refine ⟨_, by kernel_rfl, a91, fun _ => rfl, ?_⟩
 cases he : ((m : Int) + 1 == (x.signs.length : Int))
 ·have he2 : (m + 1 == x.signs.length) = false := by simp at he ⊢; omega
  simp [s1, s2, e2, s6, s7, s5, sheetL, hlt, hxA, hkl2, he]
  refine ⟨_, by kernel_rfl, a91c, fun _ => rfl, ?_⟩
  cases hcc : x.cuts.contains ((m + 1 : Nat) : Int)
  ·have hst : stopI x (m + 1) = false := by unfold stopI; rw [he2, hcc]; rfl
   rw [hst] at hqs
   simp at hqs
   simp [s1, s2, e2, s6, s7, s5, sheetL, hlt, hxA, hkl, hkw, hqs, grow]
  ·have hst : stopI x (m + 1) = true := by unfold stopI; rw [he2, hcc]; rfl
   rw [hst] at hqs
   simp at hqs
   have hok1 : elemsOK 2 [endA ((i : Int), (m : Int) + 1)] = true := rfl
   simp [s1, s2, e2, s6, s7, s5, sheetL, hlt, hxA, hkl, fillA, endA]
   refine aops_app (Q.map endA) (endA ((i : Int), (m : Int) + 1)) (.own 116) (by simp [s5, grow]) (by simp [endA]) hok1 (ends_ok2 _) (by rw [List.length_map]; omega) ?_
   intro S' sd hk'
   simp [sd, hk', s1, s2, e2, s6, s7, sheetL, hlt, hkl, hkw, hqs, grow]
 ·have he2 : (m + 1 == x.signs.length) = true := by simp at he ⊢; omega
  have hst : stopI x (m + 1) = true := by unfold stopI; rw [he2]; rfl
  rw [hst] at hqs
  simp at hqs
  have hok1 : elemsOK 2 [endA ((i : Int), (m : Int) + 1)] = true := rfl
  simp [s1, s2, e2, s6, s7, s5, sheetL, hlt, hxA, hkl, he, fillA, endA]
  refine aops_app (Q.map endA) (endA ((i : Int), (m : Int) + 1)) (.own 116) (by simp [s5, grow]) (by simp [endA]) hok1 (ends_ok2 _) (by rw [List.length_map]; omega) ?_
  intro S' sd hk'
  simp [sd, hk', s1, s2, e2, s6, s7, sheetL, hlt, hkl, hkw, hqs, grow]
end Go.Proofs.Tryz
namespace Go.Proofs.Tryz
open Go Go.AL Go.RowKit Go.Proofs
attribute [local simp] awp_all qs_all ops_allN dops_allN ops_nil dops_nil ops_call ops_callv ops_alloc ops_box dops_call dops_alloc kO_eq kD_eq awanted apure ev Eff.S Eff.H tmpOf upd putD AL.start AV.dem AV.cells AV.storable AV.scells splice scrub abin loadA HR.okB post ares aress ares1 AV.out AV.isData ints_len ints_get fz fz1 AV.vw AV.vw1 boxy vI int undefA assignQ thenQ blockQ seqQ panQ prol prolH allocOf
variable {GI : World → Prop}
theorem setO_ok2 (out : List Int) (l : List (List End)) : elemsOK 2 (l.map (settingA out)) = true := elems_map fun a => ⟨rfl, rfl⟩
theorem setting_eq (out : List Int) (es : List End) : settingA out es = .agg [vI out, .slice .view (es.map endA)] := rfl
set_option maxHeartbeats 1000000 in
theorem ac105 (hG : Stable GI) (s : Sheet) (hsh : sheetI s = true) (out : List Int) (ho : out.length < 1000000) : AC prog GI 105 [sheetA s, vI out] (.ret (.slice .view ((allS s out s.rows.toNat).map (settingA out)))) := by
 have hF := sheetF hsh
 have hr := hF.rows
 have hel := endsL_len hsh out
 have hal := allS_len hsh out (m := s.rows.toNat) (by omega)
 have a149 := ac149 hG s hsh out ho
 have a148 := ac148 hG s.rows.toNat [] (endsL s out) (by omega) (by simp; omega) hel
 have e : ch [] (endsL s out) s.rows.toNat = allS s out s.rows.toNat := rfl
 rw [e, Int.toNat_of_nonneg (by omega)] at a148
 refine AC.as_view (o := if allS s out s.rows.toNat = [] then .nil else .view) ?_
 generalize allS s out s.rows.toNat = A at *
 refine AC.of_body hG hmix func105 rfl ntmps105 (by simp) (ac := c105) (by kernel_rfl) ?_
 refine awp_cut (fun S H => S 1 = vI out ∧ S 2 = .box 2 0 ∧ H 2 = some (sheetL s)) (by simp [ops_ap, dops_ap, sheetA, sheetL]) ?_
 rintro S H ⟨s1, s2, e2⟩
 refine awp_cut (fun S H => S 1 = vI out ∧ S 5 = .slice .view (A.map vE)) ?_ ?_
 ·simp [ops_ap, dops_ap, s1, s2, e2, sheetL]
  refine ⟨_, by kernel_rfl, a149, by simp [boxy], ?_⟩
  simp [ops_ap, dops_ap, s1, s2, e2, sheetL]
  refine ⟨_, by kernel_rfl, a148, by simp [boxy], ?_⟩
  simp [ops_ap, dops_ap, s1]
 clear s1 s2 e2 S H
 rintro S H ⟨s1, s5⟩
 simp [ops_ap, dops_ap, s1, s5]
 refine awp_loop 7 A.length (fun i S H => S 1 = vI out ∧ S 5 = .slice .view (A.map vE) ∧ S 7 = .int .i64 (i : Nat) ∧ S 6 = grow 31 ((A.take i).map (settingA out))) (fun i S H h => h.2.2.1) ⟨by simp [ops_ap, dops_ap, s1], by simp [ops_ap, dops_ap, s5], by simp [ops_ap, dops_ap], by simp [ops_ap, dops_ap, grow]⟩ ?_
 clear s1 s5 S H
 rintro i hi S H ⟨s1, s5, s7, s6⟩
 by_cases hlt : i < A.length
 case neg =>
  have hil : i = A.length := by omega
  subst hil
  rw [List.take_of_length_le (Nat.le_refl _)] at s6
  by_cases h0 : A = []
  ·subst h0
   simp [ops_ap, dops_ap, s1, s5, s7, s6, grow]
  ·have s6' : S 6 = .slice (.own 31) (A.map (settingA out)) := by rw [s6]; simp [grow, h0]
   simp [ops_ap, dops_ap, s1, s5, s7, s6', h0]
 have hw : IntKind.i64.wrap ((i : Int) + 1) = i + 1 := wrapI (by omega)
 have ht : A.take (i + 1) = A.take i ++ [A[i]] := List.take_succ_eq_append_getElem hlt
 have htl : (A.take i).length ≤ 277 := by rw [List.length_take]; omega
 rw [ht]
 generalize A.take i = B at s6 htl ⊢
 have hok1 : elemsOK 2 [settingA out A[i]] = true := rfl
 simp [s1, s5, s7, s6, hlt, vE, fillA]
 refine aops_app (B.map (settingA out)) (settingA out A[i]) (.own 31) (by simp [s6, grow]) (by simp [setting_eq]) hok1 (setO_ok2 _ _) (by rw [List.length_map]; omega) ?_
 intro S' sd hk'
 simp [sd, hk', s1, s5, s7, hlt, hw, vE, grow]
set_option maxHeartbeats 1000000 in
theorem ac101 (hG : Stable GI) (s : Sheet) (hsh : sheetI s = true) (out : List Int) (ho : out.length < 1000000) (hout : outI s out = true) : AC prog GI 101 [sheetA s, vI out] (.ret (.slice .view ((goodS s out).map (settingA out)))) := by
 have hr := (sheetF hsh).rows
 have hal := allS_len hsh out (m := s.rows.toNat) (by omega)
 have a105 := ac105 hG s hsh out ho
 have hA : ∀ es ∈ allS s out s.rows.toNat, AC prog GI 36 [sheetA s, settingA out es, .int .i64 0] (.ret (.bool (fitI s out es 0))) := fun es h => by
  obtain ⟨h1, h2⟩ := allS_good hsh hout h
  exact ac36 hG s (sheet_slim hsh) hsh out ho es (by omega) h1 (by omega) (by omega)
 refine AC.as_view (o := if goodS s out = [] then .nil else .view) ?_
 unfold goodS
 generalize allS s out s.rows.toNat = A at *
 generalize hB : (A.filter fun es => fitI s out es 0) = B
 refine AC.of_body hG hmix func101 rfl ntmps101 (by simp) (ac := c101) (by kernel_rfl) ?_
 refine awp_cut (fun S H => S 1 = vI out ∧ S 2 = .box 2 0 ∧ H 2 = some (sheetL s)) (by simp [ops_ap, dops_ap, sheetA, sheetL]) ?_
 rintro S H ⟨s1, s2, e2⟩
 refine awp_cut (fun S H => S 1 = vI out ∧ S 2 = .box 2 0 ∧ H 2 = some (sheetL s) ∧ S 5 = .slice .view (A.map (settingA out))) ?_ ?_
 ·simp [ops_ap, dops_ap, s1, s2, e2, sheetL]
  refine ⟨_, by kernel_rfl, a105, by simp [boxy], ?_⟩
  simp [ops_ap, dops_ap, s1, s2, e2, sheetL]
 clear s1 s2 e2 S H
 rintro S H ⟨s1, s2, e2, s5⟩
 simp [ops_ap, dops_ap, s1, s2, e2, s5]
 refine awp_loop 7 A.length (fun i S H => S 1 = vI out ∧ S 2 = .box 2 0 ∧ H 2 = some (sheetL s) ∧ S 5 = .slice .view (A.map (settingA out)) ∧ S 7 = .int .i64 (i : Nat) ∧ S 6 = grow 31 (((A.take i).filter fun es => fitI s out es 0).map (settingA out))) (fun i S H h => h.2.2.2.2.1) ⟨by simp [ops_ap, dops_ap, s1], by simp [ops_ap, dops_ap, s2], by simp [ops_ap, dops_ap, e2], by simp [ops_ap, dops_ap, s5], by simp [ops_ap, dops_ap], by simp [ops_ap, dops_ap, grow]⟩ ?_
 clear s1 s2 e2 s5 S H
 rintro i hi S H ⟨s1, s2, e2, s5, s7, s6⟩
 by_cases hlt : i < A.length
 case neg =>
  have hil : i = A.length := by omega
  subst hil
  rw [List.take_of_length_le (Nat.le_refl _)] at s6
  rw [hB] at s6
  by_cases h0 : B = []
  ·subst h0
   simp [ops_ap, dops_ap, s1, s2, e2, s5, s7, s6, grow]
  ·have s6' : S 6 = .slice (.own 31) (B.map (settingA out)) := by rw [s6]; simp [grow, h0]
   simp [ops_ap, dops_ap, s1, s2, e2, s5, s7, s6', h0]
 have hw : IntKind.i64.wrap ((i : Int) + 1) = i + 1 := wrapI (by omega)
 have ht : (A.take (i + 1)).filter (fun es => fitI s out es 0) = (A.take i).filter (fun es => fitI s out es 0) ++ if fitI s out A[i] 0 then [A[i]] else [] := by
  rw [List.take_succ_eq_append_getElem hlt, List.filter_append, List.filter_cons]
  split <;> simp
 have htl : ((A.take i).filter fun es => fitI s out es 0).length ≤ 277 := by
  have := List.length_filter_le (fun es => fitI s out es 0) (A.take i)
  rw [List.length_take] at this; omega
 have a36 := hA A[i] (List.getElem_mem hlt)
 rw [ht]
 clear hB
 generalize (A.take i).filter (fun es => fitI s out es 0) = B at s6 htl ⊢
 have hok1 : elemsOK 2 [settingA out A[i]] = true := rfl
 simp [s1, s2, e2, s5, s7, s6, hlt, sheetL, setting_eq]
 refine ⟨_, by kernel_rfl, a36, by simp [boxy], ?_⟩
 cases fitI s out A[i] 0
 ·simp [s1, s2, e2, s5, s7, s6, hlt, hw, sheetL, setting_eq, grow]
 simp [s1, s2, e2, s5, s7, s6, hlt, sheetL, setting_eq]
 refine aops_app (B.map (settingA out)) (settingA out A[i]) (.own 31) (by simp [s6, grow, setting_eq]) (by simp [setting_eq]) hok1 (setO_ok2 _ _) (by rw [List.length_map]; omega) ?_
 intro S' sd hk'
 simp [sd, hk', s1, s2, e2, s5, s7, hlt, hw, sheetL, setting_eq, grow]
theorem minLen_take {A : List (List End)} {i : Nat} (h : i < A.length) : minLen List.length (A.take (i + 1)) = if minLen List.length (A.take i) = 0 ∨ A[i].length < minLen List.length (A.take i) then A[i].length else minLen List.length (A.take i) := by
 unfold minLen
 rw [List.take_succ_eq_append_getElem h, List.foldl_append]; rfl
set_option maxHeartbeats 1000000 in
theorem ac43 (hG : Stable GI) (s : Sheet) (hsh : sheetI s = true) : AC prog GI 43 [sheetA s] (.ret (.int .i64 (minLen List.length (goodS s []) : Nat))) := by
 have a101 := ac101 hG s hsh [] (by simp) (outI_nil hsh)
 have hgl := goodS_len hsh []
 have hg3 : ∀ a ∈ goodS s [], a.length ≤ 3 := fun a h => (good_ok hsh h).2.1
 generalize goodS s [] = A at *
 refine AC.of_body hG hmix func43 rfl ntmps43 (by simp) (ac := c43) (by kernel_rfl) ?_
 refine awp_cut (fun S H => S 1 = .box 1 0 ∧ H 1 = some (sheetL s)) (by simp [ops_ap, dops_ap, sheetA, sheetL]) ?_
 rintro S H ⟨s1, e1⟩
 refine awp_cut (fun S H => S 3 = .slice .view (A.map (settingA []))) ?_ ?_
 ·simp [ops_ap, dops_ap, s1, e1, sheetL]
  refine ⟨_, by kernel_rfl, a101, by simp [boxy], ?_⟩
  simp [ops_ap, dops_ap]
 clear s1 e1 S H
 rintro S H s3
 simp [ops_ap, dops_ap, s3]
 refine awp_loop 5 A.length (fun i S H => S 3 = .slice .view (A.map (settingA [])) ∧ S 5 = .int .i64 (i : Nat) ∧ S 4 = .int .i64 (minLen List.length (A.take i) : Nat)) (fun i S H h => h.2.1) ⟨by simp [ops_ap, dops_ap, s3], by simp [ops_ap, dops_ap], by simp [ops_ap, dops_ap, minLen]⟩ ?_
 clear s3 S H
 rintro i hi S H ⟨s3, s5, s4⟩
 by_cases hlt : i < A.length
 case neg =>
  have hil : i = A.length := by omega
  subst hil
  rw [List.take_of_length_le (Nat.le_refl _)] at s4
  simp [ops_ap, dops_ap, s3, s5, s4]
 have hw : IntKind.i64.wrap ((i : Int) + 1) = i + 1 := wrapI (by omega)
 rw [minLen_take hlt]
 generalize minLen List.length (A.take i) = m at s4 ⊢
 have h3 := hg3 A[i] (List.getElem_mem hlt)
 by_cases hm : m = 0
 ·subst hm
  simp [ops_ap, dops_ap, s3, s5, s4, hlt, setting_eq, hw]
 have hm0 : ((m : Int) == 0) = false := by simp; omega
 by_cases hl : A[i].length < m
 ·have hl' : (A[i].length : Int) < m := by omega
  simp [ops_ap, dops_ap, s3, s5, s4, hlt, setting_eq, hw, hm0, hm, hl, hl']
 ·have hl' : ¬ (A[i].length : Int) < m := by omega
  simp [ops_ap, dops_ap, s3, s5, s4, hlt, setting_eq, hw, hm0, hm, hl, hl']
end Go.Proofs.Tryz
namespace Go.Proofs.Tryz
open Go Go.AL Go.RowKit Go.Proofs
attribute [local simp] awp_all qs_all ops_all dops_all ops_nil dops_nil ops_call ops_callv ops_alloc ops_box dops_call dops_alloc kO_eq kD_eq awanted apure ev Eff.S Eff.H tmpOf upd putD AL.start AV.dem AV.cells AV.storable AV.scells splice scrub abin loadA HR.okB post ares aress ares1 AV.out AV.isData ints_len ints_get fz fz1 AV.vw AV.vw1 boxy vI int undefA assignQ thenQ blockQ seqQ panQ prol prolH allocOf
variable {GI : World → Prop}
end Go.Proofs.Tryz
namespace Go.Proofs.Tryz
open Go Go.AL Go.RowKit Go.Proofs
attribute [local simp] awp_all qs_all ops_all dops_all ops_nil dops_nil ops_call ops_callv ops_alloc ops_box dops_call dops_alloc kO_eq kD_eq awanted apure ev Eff.S Eff.H tmpOf upd putD AL.start AV.dem AV.cells AV.storable AV.scells splice scrub abin loadA HR.okB post ares aress ares1 AV.out AV.isData ints_len ints_get fz fz1 AV.vw AV.vw1 boxy vI int undefA assignQ thenQ blockQ seqQ panQ prol prolH allocOf
variable {GI : World → Prop}
end Go.Proofs.Tryz
namespace Go.Proofs.Tryz
open Go Go.AL Go.RowKit Go.Proofs
attribute [local simp] awp_all qs_all ops_all dops_all ops_nil dops_nil ops_call ops_callv ops_alloc ops_box dops_call dops_alloc kO_eq kD_eq awanted apure ev Eff.S Eff.H tmpOf upd putD AL.start AV.dem AV.cells AV.storable AV.scells splice scrub abin loadA HR.okB post ares aress ares1 AV.out AV.isData ints_len ints_get fz fz1 AV.vw AV.vw1 boxy vI int undefA assignQ thenQ blockQ seqQ panQ prol prolH allocOf
variable {GI : World → Prop}
end Go.Proofs.Tryz
namespace Go.Proofs.Tryz
open Go Go.AL Go.RowKit Go.Proofs
attribute [local simp] awp_all qs_all ops_allN dops_allN ops_nil dops_nil ops_call ops_callv ops_alloc ops_box dops_call dops_alloc kO_eq kD_eq awanted apure ev Eff.S Eff.H tmpOf upd putD AL.start AV.dem AV.cells AV.storable AV.scells splice scrub abin loadA HR.okB post ares aress ares1 AV.out AV.isData ints_len ints_get fz fz1 AV.vw AV.vw1 boxy vI int undefA assignQ thenQ blockQ seqQ panQ prol prolH allocOf
variable {GI : World → Prop}
end Go.Proofs.Tryz
namespace Go.Proofs.Tryz
open Go Go.AL Go.RowKit Go.Proofs
attribute [local simp] awp_all qs_all ops_allN dops_allN ops_nil dops_nil ops_call ops_callv ops_alloc ops_box dops_call dops_alloc kO_eq kD_eq awanted apure ev Eff.S Eff.H tmpOf upd putD AL.start AV.dem AV.cells AV.storable AV.scells splice scrub abin loadA HR.okB post ares aress ares1 AV.out AV.isData ints_len ints_get fz fz1 AV.vw AV.vw1 boxy vI int undefA assignQ thenQ blockQ seqQ panQ prol prolH allocOf
variable {GI : World → Prop}
end Go.Proofs.Tryz
namespace Go.Proofs.Tryz
open Go Go.AL Go.RowKit Go.Proofs
attribute [local simp] awp_all qs_all ops_allN dops_allN ops_nil dops_nil ops_call ops_callv ops_alloc ops_box dops_call dops_alloc kO_eq kD_eq awanted apure ev Eff.S Eff.H tmpOf upd putD AL.start AV.dem AV.cells AV.storable AV.scells splice scrub abin loadA HR.okB post ares aress ares1 AV.out AV.isData ints_len ints_get fz fz1 AV.vw AV.vw1 boxy vI int undefA assignQ thenQ blockQ seqQ panQ prol prolH allocOf
variable {GI : World → Prop}
def sheetW (s : Sheet) (x : AV) : List AV := [vI s.widths, .slice .view (s.pairs.map pairA), .int .i64 s.olo, .int .i64 s.ohi, .int .i64 s.glo, .int .i64 s.ghi, .int .i64 s.hyphen, x, .int .i64 s.wide, .int .i64 s.rows]
theorem word_ok3 (l : List Word) : elemsOK 3 (l.map wordA) = true := elems_map fun a => ⟨rfl, rfl⟩
end Go.Proofs.Tryz
namespace Go.Proofs.Tryz
open Go Go.AL Go.RowKit Go.Proofs
attribute [local simp] awp_all qs_all ops_allN dops_allN ops_nil dops_nil ops_call ops_callv ops_alloc ops_box dops_call dops_alloc kO_eq kD_eq awanted apure ev Eff.S Eff.H tmpOf upd putD AL.start AV.dem AV.cells AV.storable AV.scells splice scrub abin loadA HR.okB post ares aress ares1 AV.out AV.isData ints_len ints_get fz fz1 AV.vw AV.vw1 boxy vI int undefA assignQ thenQ blockQ seqQ panQ prol prolH allocOf
variable {GI : World → Prop}
theorem ac58 (hG : Stable GI) (s : Sheet) (h1 : s.words.length < 1000) (h2 : ∀ w ∈ s.words, w.signs.length < 1000) : AC prog GI 58 [sheetA s] (.ret (.int .i64 (letsN s.words : Nat))) := by
 have hb : ∀ i, i ≤ s.words.length → letsN (s.words.take i) ≤ 1000 * 1000 := fun i hi => by
  have := letsN_bound (l := s.words.take i) (b := 1000) fun w hw => by have := h2 w (List.mem_of_mem_take hw); omega
  rw [List.length_take] at this
  have : 1000 * min i s.words.length ≤ 1000 * 1000 := Nat.mul_le_mul_left _ (by omega)
  omega
 refine AC.of_body hG hmix func58 rfl ntmps58 (by simp) (ac := c58) (by kernel_rfl) ?_
 refine awp_cut (fun S H => S 1 = .box 1 0 ∧ H 1 = some (sheetL s)) (by simp [ops_ap, dops_ap, sheetA, sheetL]) ?_
 rintro S H ⟨s1, e1⟩
 simp [ops_ap, dops_ap, s1, e1]
 refine awp_loop 4 s.words.length (fun i S H => S 1 = .box 1 0 ∧ H 1 = some (sheetL s) ∧ S 4 = .int .i64 (i : Nat) ∧ S 3 = .int .i64 (letsN (s.words.take i) : Nat)) (fun i S H h => h.2.2.1) ⟨by simp [ops_ap, dops_ap, s1], by simp [ops_ap, dops_ap, e1], by simp [ops_ap, dops_ap], by simp [ops_ap, dops_ap, letsN]⟩ ?_
 clear s1 e1 S H
 rintro i hi S H ⟨s1, e1, s4, s3⟩
 by_cases hlt : i < s.words.length
 case neg =>
  have hil : i = s.words.length := by omega
  subst hil
  rw [List.take_of_length_le (Nat.le_refl _)] at s3
  simp [ops_ap, dops_ap, s1, e1, s4, s3, sheetL]
 have hw : IntKind.i64.wrap ((i : Int) + 1) = i + 1 := wrapI (by omega)
 have hbi := hb i hi
 have hsi := h2 _ (List.getElem_mem hlt)
 rw [letsN_take hlt]
 generalize letsN (s.words.take i) = m at *
 have hwm : IntKind.i64.wrap ((m : Int) + (s.words[i].signs.length : Int)) = (m : Int) + (s.words[i].signs.length : Int) := wrapI (by omega)
 simp [ops_ap, dops_ap, s1, e1, s4, s3, sheetL, hlt, hw, wordA, hwm]
theorem filter_take {l : List Int} {n : Nat} {i : Nat} (h : i < l.length) : (l.take (i + 1)).filter (fun c => !decide ((n : Int) ≤ c)) = (l.take i).filter (fun c => !decide ((n : Int) ≤ c)) ++ if l[i] < n then [l[i]] else [] := by
 rw [List.take_succ_eq_append_getElem h, List.filter_append, List.filter_cons]
 by_cases hc : l[i] < n
 ·have : ¬ (n : Int) ≤ l[i] := by omega
  simp [hc]
 ·have : (n : Int) ≤ l[i] := by omega
  simp [hc, this]
theorem shorterW_drop {l : List Word} {i k : Nat} (h : i < l.length) (hk : k ≠ 0) : shorterW (l.drop i) k = { signs := l[i].signs.take (min k l[i].signs.length), cuts := l[i].cuts.filter fun c => !decide (((min k l[i].signs.length : Nat) : Int) ≤ c), free := l[i].free } :: shorterW (l.drop (i + 1)) (k - min k l[i].signs.length) := by
 rw [List.drop_eq_getElem_cons h, shorterW_cons _ _ hk]
set_option maxHeartbeats 4000000 in
theorem ac59 (hG : Stable GI) (s : Sheet) (hs : Slim s) {k : Nat} (hk : k ≤ letsN s.words) : AC prog GI 59 [sheetA s, .int .i64 (k : Nat)] (.ret (sheetA (lessS s (letsN s.words - k)))) := by
 obtain ⟨it, hit, hsz⟩ := info_size (P := prog) (t := 28) (s := 10) (by kernel_rfl)
 have q3 := hs.words
 have hLb : letsN s.words ≤ 1000 * 1000 := by
  have := letsN_bound (l := s.words) (b := 1000) fun w hw => by have := hs.signs w hw; omega
  have : 1000 * s.words.length ≤ 1000 * 1000 := Nat.mul_le_mul_left _ (by omega)
  omega
 have a58 := ac58 hG ⟨[], [], 0, 0, 0, 0, 0, s.words, 0, 0⟩ q3 hs.signs
 simp only at a58
 obtain ⟨L, hL⟩ : ∃ L, letsN s.words - k = L := ⟨_, rfl⟩
 have hwL : IntKind.i64.wrap ((letsN s.words : Int) - (k : Int)) = (L : Nat) := by rw [wrapI (by omega)]; omega
 rw [hL]
 have e : sheetA (lessS s L) = .agg (sheetW s (.slice .view ((shorterW s.words L).map wordA))) := rfl
 rw [e]
 have hsl := shorter_length (l := s.words) (k := L)
 generalize hR : shorterW s.words L = R at *
 refine AC.of_body hG hmix func59 rfl ntmps59 (by simp) (ac := c59) (by kernel_rfl) ?_
 refine awp_cut (fun S H => S 1 = .int .i64 (k : Nat) ∧ S 2 = .box 2 0 ∧ H 2 = some (sheetL s) ∧ S 4 = .box 4 0 ∧ H 4 = some [.slice .nil [], .slice .nil [], .int .i64 0, .int .i64 0, .int .i64 0, .int .i64 0, .int .i64 0, .slice .nil [], .int .i64 0, .int .i64 0]) (by simp [ops_ap, dops_ap, sheetA, sheetL]) ?_
 rintro S H ⟨s1, s2, e2, s4, e4⟩
 refine awp_cut (fun S H => S 1 = .int .i64 (k : Nat) ∧ S 2 = .box 2 0 ∧ H 2 = some (sheetL s) ∧ S 4 = .box 4 0 ∧ H 4 = some [.slice .nil [], .slice .nil [], .int .i64 0, .int .i64 0, .int .i64 0, .int .i64 0, .int .i64 0, .slice .nil [], .int .i64 0, .int .i64 0] ∧ S 5 = .slice .view (s.words.map wordA)) (by simp [ops_ap, dops_ap, s1, s2, e2, s4, e4, sheetL]) ?_
 clear s1 s2 e2 s4 e4 S H
 rintro S H ⟨s1, s2, e2, s4, e4, s5⟩
 refine awp_cut (fun S H => S 1 = .int .i64 (k : Nat) ∧ S 2 = .box 2 0 ∧ H 2 = some (sheetW s (.slice .nil [])) ∧ S 4 = .box 4 0 ∧ H 4 = some [.slice .nil [], .slice .nil [], .int .i64 0, .int .i64 0, .int .i64 0, .int .i64 0, .int .i64 0, .slice .nil [], .int .i64 0, .int .i64 0] ∧ S 5 = .slice .view (s.words.map wordA)) (by simp [ops_ap, dops_ap, s1, s2, e2, s4, e4, s5, sheetL, sheetW]) ?_
 clear s1 s2 e2 s4 e4 s5 S H
 rintro S H ⟨s1, s2, e2, s4, e4, s5⟩
 refine awp_cut (fun S H => S 2 = .box 2 0 ∧ H 2 = some (sheetW s (.slice .nil [])) ∧ S 4 = .box 4 0 ∧ H 4 = some [.slice .nil [], .slice .nil [], .int .i64 0, .int .i64 0, .int .i64 0, .int .i64 0, .int .i64 0, .slice .nil [], .int .i64 0, .int .i64 0] ∧ S 5 = .slice .view (s.words.map wordA) ∧ S 6 = .int .i64 (L : Nat)) ?_ ?_
 ·simp [ops_ap, dops_ap, s1, s2, e2, s4, e4, s5, fillA]
  refine ⟨_, by kernel_rfl, a58, by simp [boxy], ?_⟩
  simp [ops_ap, dops_ap, s1, s2, e2, s4, e4, s5, hwL]
 clear s1 s2 e2 s4 e4 s5 S H
 rintro S H ⟨s2, e2, s4, e4, s5, s6⟩
 refine awp_cut (fun S H => S 2 = .box 2 0 ∧ H 2 = some (sheetW s (grow 77 (R.map wordA))) ∧ S 4 = .box 4 0 ∧ H 4 = some [.slice .nil [], .slice .nil [], .int .i64 0, .int .i64 0, .int .i64 0, .int .i64 0, .int .i64 0, .slice .nil [], .int .i64 0, .int .i64 0]) ?_ ?_
 ·simp [ops_ap, dops_ap, s2, e2, s4, e4, s5, s6]
  refine awp_loop 7 s.words.length (fun i S H => S 2 = .box 2 0 ∧ S 4 = .box 4 0 ∧ H 4 = some [.slice .nil [], .slice .nil [], .int .i64 0, .int .i64 0, .int .i64 0, .int .i64 0, .int .i64 0, .slice .nil [], .int .i64 0, .int .i64 0] ∧ S 5 = .slice .view (s.words.map wordA) ∧ S 7 = .int .i64 (i : Nat) ∧ ∃ (D : List Word) (l : Nat), H 2 = some (sheetW s (grow 77 (D.map wordA))) ∧ S 6 = .int .i64 (l : Nat) ∧ l ≤ L ∧ D ++ shorterW (s.words.drop i) l = R) (fun i S H h => h.2.2.2.2.1) ⟨by simp [ops_ap, dops_ap, s2], by simp [ops_ap, dops_ap, s4], by simp [ops_ap, dops_ap, e4], by simp [ops_ap, dops_ap, s5], by simp [ops_ap, dops_ap], [], L, by simp [ops_ap, dops_ap, e2, grow], by simp [ops_ap, dops_ap, s6], Nat.le_refl _, by simpa using hR⟩ ?_
  clear s2 e2 s4 e4 s5 s6 S H
  rintro i hi S H ⟨s2, s4, e4, s5, s7, D, l, e2, s6, hlL, hD⟩
  by_cases hlt : i < s.words.length
  case neg =>
   have hil : i = s.words.length := by omega
   subst hil
   rw [List.drop_length] at hD
   have : shorterW [] l = [] := rfl
   rw [this, List.append_nil] at hD
   subst hD
   simp [ops_ap, dops_ap, s2, s4, e4, s5, s7, e2, s6]
  by_cases hl0 : l = 0
  ·subst hl0
   rw [shorterW_zero, List.append_nil] at hD
   subst hD
   simp [ops_ap, dops_ap, s2, s4, e4, s5, s7, e2, s6, hlt]
  have hw : IntKind.i64.wrap ((i : Int) + 1) = i + 1 := wrapI (by omega)
  have hlp : (0 : Int) < l := by omega
  have hlp2 : 0 < l := by omega
  rw [shorterW_drop hlt hl0] at hD
  have hsg := hs.signs _ (List.getElem_mem hlt)
  have hct := hs.cuts _ (List.getElem_mem hlt)
  have hDl : D.length ≤ 1000 := by
   have := congrArg List.length hD
   rw [List.length_append] at this; omega
  obtain ⟨x, hx⟩ : ∃ x, s.words[i] = x := ⟨_, rfl⟩
  rw [hx] at hsg hct hD
  obtain ⟨m, hm⟩ : ∃ m, min l x.signs.length = m := ⟨_, rfl⟩
  rw [hm] at hD
  have hmi : min (l : Int) (x.signs.length : Int) = (m : Nat) := by omega
  have hml : m ≤ x.signs.length := by omega
  have hxA : wordA s.words[i] = .agg [vI x.signs, vI x.cuts, .bool x.free] := by rw [hx]; rfl
  have hgx : ((s.words.map wordA))[i]? = some (.agg [vI x.signs, vI x.cuts, .bool x.free]) := by rw [List.getElem?_map, List.getElem?_eq_getElem hlt]; exact congrArg some hxA
  obtain ⟨hgl, hgx⟩ := List.getElem?_eq_some_iff.1 hgx
  refine awp_cut (fun S H => S 2 = .box 2 0 ∧ S 4 = .box 4 0 ∧ H 4 = some [.slice .nil [], .slice .nil [], .int .i64 0, .int .i64 0, .int .i64 0, .int .i64 0, .int .i64 0, .slice .nil [], .int .i64 0, .int .i64 0] ∧ S 5 = .slice .view (s.words.map wordA) ∧ S 7 = .int .i64 (i : Nat) ∧ H 2 = some (sheetW s (grow 77 (D.map wordA))) ∧ S 6 = .int .i64 (l : Nat)) (by simp [ops_ap, dops_ap, s2, s4, e4, s5, s7, e2, s6, hlt, hlp, hlp2]) ?_
  clear s2 s4 e4 s5 s7 e2 s6 S H
  rintro S H ⟨s2, s4, e4, s5, s7, e2, s6⟩
  refine awp_in ?_
  refine awp_cut (fun S H => S 2 = .box 2 0 ∧ S 4 = .box 4 0 ∧ H 4 = some [.slice .nil [], .slice .nil [], .int .i64 0, .int .i64 0, .int .i64 0, .int .i64 0, .int .i64 0, .slice .nil [], .int .i64 0, .int .i64 0] ∧ S 5 = .slice .view (s.words.map wordA) ∧ S 7 = .int .i64 (i : Nat) ∧ H 2 = some (sheetW s (grow 77 (D.map wordA))) ∧ S 6 = .int .i64 (l : Nat) ∧ S 8 = .box 8 0 ∧ H 8 = some [.slice .nil [], .slice .nil [], .bool x.free]) (by simp [ops_ap, dops_ap, s2, s4, e4, s5, s7, e2, s6, hlt, hxA, fillA]) ?_
  clear s2 s4 e4 s5 s7 e2 s6 S H
  rintro S H ⟨s2, s4, e4, s5, s7, e2, s6, s8, e8⟩
  refine awp_cut (fun S H => S 2 = .box 2 0 ∧ S 4 = .box 4 0 ∧ H 4 = some [.slice .nil [], .slice .nil [], .int .i64 0, .int .i64 0, .int .i64 0, .int .i64 0, .int .i64 0, .slice .nil [], .int .i64 0, .int .i64 0] ∧ S 5 = .slice .view (s.words.map wordA) ∧ S 7 = .int .i64 (i : Nat) ∧ H 2 = some (sheetW s (grow 77 (D.map wordA))) ∧ S 6 = .int .i64 (l : Nat) ∧ S 8 = .box 8 0 ∧ H 8 = some [.slice .nil [], .slice .nil [], .bool x.free] ∧ S 9 = .int .i64 (m : Nat)) (by simp [ops_ap, dops_ap, s2, s4, e4, s5, s7, e2, s6, s8, e8, hlt, hxA, hmi]) ?_
  clear s2 s4 e4 s5 s7 e2 s6 s8 e8 S H
  rintro S H ⟨s2, s4, e4, s5, s7, e2, s6, s8, e8, s9⟩
  refine awp_cut (fun S H => S 2 = .box 2 0 ∧ S 4 = .box 4 0 ∧ H 4 = some [.slice .nil [], .slice .nil [], .int .i64 0, .int .i64 0, .int .i64 0, .int .i64 0, .int .i64 0, .slice .nil [], .int .i64 0, .int .i64 0] ∧ S 5 = .slice .view (s.words.map wordA) ∧ S 7 = .int .i64 (i : Nat) ∧ H 2 = some (sheetW s (grow 77 (D.map wordA))) ∧ S 6 = .int .i64 (l : Nat) ∧ S 8 = .box 8 0 ∧ H 8 = some [grow 3 (ints (x.signs.take m)), .slice .nil [], .bool x.free] ∧ S 9 = .int .i64 (m : Nat)) ?_ ?_
  ·have hokx : elemsOK 1 (ints x.signs) = true := ints_ok1 _
   have hokt : elemsOK 1 (ints (x.signs.take m)) = true := ints_ok1 _
   have hit : List.take m (ints x.signs) = ints (x.signs.take m) := by unfold ints; rw [List.map_take]
   have hm0 : (0 : Int) ≤ (m : Int) := by omega
   simp [s2, s4, e4, s5, s7, e2, s6, s8, e8, s9, hlt, hxA, bound, hokx, hml, hit]
   refine dops_appL [] (ints (x.signs.take m)) .view (by simp [grow]) (by simp) hokt rfl (by simp [ints]; omega) ?_
   intro S' sd hk'
   simp [sd, hk', s2, s4, e4, s5, s7, e2, s6, s8, e8, s9, grow]
  clear s2 s4 e4 s5 s7 e2 s6 s8 e8 s9 S H
  rintro S H ⟨s2, s4, e4, s5, s7, e2, s6, s8, e8, s9⟩
  refine awp_cut (fun S H => S 2 = .box 2 0 ∧ S 4 = .box 4 0 ∧ H 4 = some [.slice .nil [], .slice .nil [], .int .i64 0, .int .i64 0, .int .i64 0, .int .i64 0, .int .i64 0, .slice .nil [], .int .i64 0, .int .i64 0] ∧ S 5 = .slice .view (s.words.map wordA) ∧ S 7 = .int .i64 (i : Nat) ∧ H 2 = some (sheetW s (grow 77 (D.map wordA))) ∧ S 6 = .int .i64 (l : Nat) ∧ S 8 = .box 8 0 ∧ H 8 = some [grow 3 (ints (x.signs.take m)), grow 3 (ints (x.cuts.filter fun c => !decide ((m : Int) ≤ c))), .bool x.free] ∧ S 9 = .int .i64 (m : Nat)) ?_ ?_
  ·simp [ops_ap, dops_ap, s2, s4, e4, s5, s7, e2, s6, s8, e8, s9]
   refine awp_loop 10 x.cuts.length (fun j S H => S 2 = .box 2 0 ∧ S 4 = .box 4 0 ∧ H 4 = some [.slice .nil [], .slice .nil [], .int .i64 0, .int .i64 0, .int .i64 0, .int .i64 0, .int .i64 0, .slice .nil [], .int .i64 0, .int .i64 0] ∧ S 5 = .slice .view (s.words.map wordA) ∧ S 7 = .int .i64 (i : Nat) ∧ H 2 = some (sheetW s (grow 77 (D.map wordA))) ∧ S 6 = .int .i64 (l : Nat) ∧ S 8 = .box 8 0 ∧ S 9 = .int .i64 (m : Nat) ∧ S 10 = .int .i64 (j : Nat) ∧ H 8 = some [grow 3 (ints (x.signs.take m)), grow 3 (ints ((x.cuts.take j).filter fun c => !decide ((m : Int) ≤ c))), .bool x.free]) (fun i S H h => h.2.2.2.2.2.2.2.2.2.1) ⟨by simp [ops_ap, dops_ap, s2], by simp [ops_ap, dops_ap, s4], by simp [ops_ap, dops_ap, e4], by simp [ops_ap, dops_ap, s5], by simp [ops_ap, dops_ap, s7], by simp [ops_ap, dops_ap, e2], by simp [ops_ap, dops_ap, s6], by simp [ops_ap, dops_ap, s8], by simp [ops_ap, dops_ap, s9], by simp [ops_ap, dops_ap], by simp [ops_ap, dops_ap, e8, grow, ints]⟩ ?_
   clear s2 s4 e4 s5 s7 e2 s6 s8 e8 s9 S H
   rintro j hj S H ⟨s2, s4, e4, s5, s7, e2, s6, s8, s9, s10, e8⟩
   by_cases hjl : j < x.cuts.length
   case neg =>
    have hjl' : j = x.cuts.length := by omega
    subst hjl'
    rw [List.take_of_length_le (Nat.le_refl _)] at e8
    simp [ops_ap, dops_ap, s2, s4, e4, s5, s7, e2, s6, s8, e8, s9, s10, hlt, hxA]
   have hwj : IntKind.i64.wrap ((j : Int) + 1) = j + 1 := wrapI (by omega)
   have hft := filter_take (n := m) hjl
   have hfl : ((x.cuts.take j).filter fun c => !decide ((m : Int) ≤ c)).length ≤ 1000 := by
    have := List.length_filter_le (fun c : Int => !decide ((m : Int) ≤ c)) (x.cuts.take j)
    rw [List.length_take] at this; omega
   rw [hft]
   generalize (x.cuts.take j).filter (fun c => !decide ((m : Int) ≤ c)) = B at e8 hfl ⊢
   have hok1 : elemsOK 1 [AV.int .i64 x.cuts[j]] = true := rfl
   by_cases hcm : x.cuts[j] < m
   ·simp [s2, s4, e4, s5, s7, e2, s6, s8, e8, s9, s10, hlt, hxA, hjl, hcm]
    refine dops_app (ints B) (AV.int .i64 x.cuts[j]) (.own 3) (by simp [grow]) (by simp) hok1 (ints_ok1 B) (by simp [ints]; omega) ?_
    intro S' sd hk'
    simp [sd, hk', s2, s4, e4, s5, s7, e2, s6, s8, e8, s9, s10, hjl, hwj, grow, ints]
   ·simp [s2, s4, e4, s5, s7, e2, s6, s8, e8, s9, s10, hlt, hxA, hjl, hcm, hwj]
  clear s2 s4 e4 s5 s7 e2 s6 s8 e8 s9 S H
  rintro S H ⟨s2, s4, e4, s5, s7, e2, s6, s8, e8, s9⟩
  have hlm : l - m ≤ L := by omega
  have hwl : IntKind.i64.wrap ((l : Int) - (m : Int)) = (l - m : Nat) := by rw [wrapI (by omega)]; omega
  generalize hX : (⟨x.signs.take m, x.cuts.filter fun c => !decide ((m : Int) ≤ c), x.free⟩ : Word) = X at hD
  have hXA : wordA X = .agg [vI (x.signs.take m), vI (x.cuts.filter fun c => !decide ((m : Int) ≤ c)), .bool x.free] := by rw [← hX]; rfl
  generalize x.signs.take m = u at *
  generalize (x.cuts.filter fun c => !decide ((m : Int) ≤ c)) = v at *
  have hok3 : elemsOK 3 [wordA X] = true := rfl
  have hok4 : elemsOK 3 [AV.agg [AV.slice .view (ints u), AV.slice .view (ints v), AV.bool x.free]] = true := rfl
  obtain ⟨ou, hou, hgu⟩ : ∃ o, (o = Ow.nil ∨ o = Ow.own 3) ∧ grow 3 (ints u) = .slice o (ints u) := ⟨_, by split <;> simp, rfl⟩
  obtain ⟨ov, hov, hgv⟩ : ∃ o, (o = Ow.nil ∨ o = Ow.own 3) ∧ grow 3 (ints v) = .slice o (ints v) := ⟨_, by split <;> simp, rfl⟩
  rw [hgu, hgv] at e8
  have hokD : elemsOK 3 (D.map wordA) = true := word_ok3 D
  refine awp_cut (fun S H => S 2 = .box 2 0 ∧ S 4 = .box 4 0 ∧ H 4 = some [.slice .nil [], .slice .nil [], .int .i64 0, .int .i64 0, .int .i64 0, .int .i64 0, .int .i64 0, .slice .nil [], .int .i64 0, .int .i64 0] ∧ S 5 = .slice .view (s.words.map wordA) ∧ S 7 = .int .i64 (i : Nat) ∧ H 2 = some (sheetW s (grow 77 ((D ++ [X]).map wordA))) ∧ S 6 = .int .i64 (l : Nat) ∧ S 9 = .int .i64 (m : Nat)) ?_ ?_
  ·rcases hou with rfl | rfl <;> rcases hov with rfl | rfl
   all_goals
    simp [s2, s4, e4, s5, s7, e2, s6, s8, e8, s9, sheetW, hok4]
    refine aops_app (D.map wordA) (wordA X) (.own 77) (by simp [grow]) (by simp [hXA]) hok3 hokD (by simp; omega) ?_
    intro S' sd hk'
    simp [sd, hk', s2, s4, e4, s5, s7, s6, s9, sheetW, grow]
  clear s2 s4 e4 s5 s7 e2 s6 s8 e8 s9 S H
  rintro S H ⟨s2, s4, e4, s5, s7, e2, s6, s9⟩
  simp [ops_ap, dops_ap, s2, s4, e4, s5, s7, e2, s6, s9, hw, hlt, hwl]
  exact ⟨D ++ [X], by simp, l - m, rfl, hlm, by rw [List.append_assoc]; exact hD⟩
 clear s2 e2 s4 e4 s5 s6 S H
 rintro S H ⟨s2, e2, s4, e4⟩
 simp [ops_ap, dops_ap, s2, e2, s4, e4, sheetW, hit, hsz, aggT, grow]
 by_cases h0 : R = []
 ·subst h0; rfl
 ·rw [if_neg h0]
end Go.Proofs.Tryz
namespace Go.Proofs.Tryz
open Go Go.AL Go.RowKit Go.Proofs
attribute [local simp] awp_all qs_all ops_all dops_all ops_nil dops_nil ops_call ops_callv ops_alloc ops_box dops_call dops_alloc kO_eq kD_eq awanted apure ev Eff.S Eff.H tmpOf upd putD AL.start AV.dem AV.cells AV.storable AV.scells splice scrub abin loadA HR.okB post ares aress ares1 AV.out AV.isData ints_len ints_get fz fz1 AV.vw AV.vw1 boxy vI int undefA assignQ thenQ blockQ seqQ panQ prol prolH allocOf
variable {GI : World → Prop}
theorem ac110f (hG : Stable GI) (s : Sheet) (hs : Slim s) {L : Nat} (hL : L < 4611686018427387904) : AC prog GI 110 [sheetA s, .int .i64 (L : Nat)] (.ret (sheetA (lessS s L))) := by
 have h := ac110 hG (sA := sheetL s) (ws := s.words) (L := L) rfl rfl (by
  intro x hx
  simp [sheetL] at hx
  rcases hx with rfl | rfl | rfl | rfl | rfl | rfl | rfl | rfl | rfl | rfl <;> rfl) (by have := hs.words; omega) (fun w hw => by have := hs.signs w hw; have := hs.cuts w hw; omega) hL
 have e : AV.agg (((sheetL s).set 7 (.slice .view ((shorterW s.words L).map wordA))).map AV.vw1) = sheetA (lessS s L) := by
  simp [sheetL, sheetA, lessS, vI, ints, AV.vw1]
 rw [e] at h
 exact h
def overO (s : Sheet) : List AV := if sheetI s then [.int .i64 (overI s : Nat), .int .i64 0] else [.int .i64 0, .int .i64 2]
set_option maxHeartbeats 2000000 in
theorem ac56 (hG : Stable GI) (s : Sheet) (hs : Slim s) : AC prog GI 56 [sheetA s] (.ret (.tup (overO s))) := by
 unfold overO
 have a96 := ac96 hG s hs
 cases hsh : sheetI s with
 | false =>
  rw [hsh] at a96
  refine AC.of_body hG hmix func56 rfl ntmps56 (by simp) (ac := c56) (by kernel_rfl) ?_
  refine awp_cut (fun S H => S 1 = .box 1 0 ∧ H 1 = some (sheetL s)) (by simp [sheetA, sheetL]) ?_
  rintro S H ⟨s1, e1⟩
  simp [s1, e1, sheetL]
  refine ⟨_, by kernel_rfl, a96, fun _ => rfl, ?_⟩
  simp
 | true =>
 rw [hsh] at a96
 rw [if_pos rfl]
 have hN := letsN_sheet hsh
 obtain ⟨N, hNe⟩ : ∃ N, letsN s.words = N := ⟨_, rfl⟩
 have hover_at := fun n (h : n < N) hp hb => over_at (s := s) (n := n) (by omega) hp hb
 have hover_all := over_all (s := s)
 rw [hNe] at hover_all hN
 refine AC.of_body hG hmix func56 rfl ntmps56 (by simp) (ac := c56) (by kernel_rfl) ?_
 refine awp_cut (fun S H => S 1 = .box 1 0 ∧ H 1 = some (sheetL s)) (by simp [sheetA, sheetL]) ?_
 rintro S H ⟨s1, e1⟩
 refine awp_cut (fun S H => S 1 = .box 1 0 ∧ H 1 = some (sheetL s)) ?_ ?_
 ·simp [s1, e1, sheetL]
  refine ⟨_, by kernel_rfl, a96, fun _ => rfl, ?_⟩
  simp [s1, e1, sheetL]
 clear s1 e1 S H
 rintro S H ⟨s1, e1⟩
 refine awp_cut (fun S H => S 1 = .box 1 0 ∧ H 1 = some (sheetL s) ∧ S 4 = .int .i64 0) (by simp [s1, e1]) ?_
 clear s1 e1 S H
 rintro S H ⟨s1, e1, s4⟩
 refine awp_cut (fun S H => S 1 = .box 1 0 ∧ H 1 = some (sheetL s) ∧ S 4 = .int .i64 (N : Nat)) ?_ ?_
 ·simp [s1, e1, s4, sheetL]
  refine awp_loop 14 s.words.length (fun i S H => S 1 = .box 1 0 ∧ H 1 = some (sheetL s) ∧ S 12 = .slice .view (s.words.map wordA) ∧ S 13 = .int .i64 s.words.length ∧ S 14 = .int .i64 (i : Nat) ∧ S 4 = .int .i64 (letsN (s.words.take i) : Nat)) (fun i S H h => h.2.2.2.2.1) ⟨by simp [s1], by simp [e1, sheetL], by simp, by simp, by simp, by simp [s4, letsN]⟩ ?_
  clear s1 e1 s4 S H
  rintro i hi S H ⟨s1, e1, s12, s13, s14, s4⟩
  by_cases hlt : i < s.words.length
  case neg =>
   have hil : i = s.words.length := by omega
   subst hil
   rw [List.take_of_length_le (Nat.le_refl _), hNe] at s4
   simp [s1, e1, s12, s13, s14, s4, sheetL]
  have hw4 := (sheetF hsh).words
  have hw : IntKind.i64.wrap ((i : Int) + 1) = i + 1 := wrapI (by omega)
  have hbi : letsN (s.words.take i) ≤ 24 := by
   have := letsN_bound (l := s.words.take i) (b := 6) fun w hw => (wordF hsh (List.mem_of_mem_take hw)).len6
   rw [List.length_take] at this
   omega
  have hsi := (wordF hsh (List.getElem_mem hlt)).len6
  rw [letsN_take hlt]
  generalize letsN (s.words.take i) = m at *
  have hwm : IntKind.i64.wrap ((m : Int) + (s.words[i].signs.length : Int)) = (m : Int) + (s.words[i].signs.length : Int) := wrapI (by omega)
  simp [s1, e1, s12, s13, s14, s4, hlt, wordA, hw, hwm, sheetL]
 clear s1 e1 s4 S H
 rintro S H ⟨s1, e1, s4⟩
 simp [s1, e1, s4]
 refine awp_loop 25 N (fun n S H => S 1 = .box 1 0 ∧ H 1 = some (sheetL s) ∧ S 4 = .int .i64 (N : Nat) ∧ S 24 = .int .i64 (N : Nat) ∧ S 25 = .int .i64 (n : Nat) ∧ ∀ j, j < n → shortFits s j = false) (fun i S H h => h.2.2.2.2.1) ⟨by simp [s1], by simp [e1], by simp [s4], by simp, by simp, fun j h => absurd h (Nat.not_lt_zero _)⟩ ?_
 clear s1 e1 s4 S H
 rintro n hn S H ⟨s1, e1, s4, s24, s25, hb⟩
 by_cases hlt : n < N
 case neg =>
  have hnl : n = N := by omega
  subst hnl
  rw [hover_all hb]
  simp [s1, e1, s4, s24, s25]
 have hw : IntKind.i64.wrap ((n : Int) + 1) = n + 1 := wrapI (by omega)
 have hws : IntKind.i64.wrap ((N : Int) - (n : Int)) = (N - n : Nat) := by rw [wrapI (by omega)]; omega
 have a110 := ac110f hG s hs (L := N - n) (by omega)
 have hxs := lessS_sheet hsh (k := N - n) (by omega)
 have a80 := ac80f hG (lessS s (N - n)) hxs
 have a107 := ac107f hG (lessS s (N - n)) hxs [] (by simp) (outI_nil hxs)
 have hp : shortFits s n = !(goodS (lessS s (N - n)) []).isEmpty := by unfold shortFits; rw [hNe]
 rw [← hp] at a107
 simp [s1, e1, s4, s24, s25, hlt, sheetL, hws]
 refine ⟨_, by kernel_rfl, a110, by simp [boxy], ?_⟩
 simp [s1, e1, s4, s24, s25, hlt, sheetA, sheetL]
 refine ⟨_, by kernel_rfl, a80, by simp [boxy], ?_⟩
 simp [s1, e1, s4, s24, s25, hlt, frontA, frontL, sheetL, spaces]
 refine ⟨_, by kernel_rfl, a107, by simp [boxy], ?_⟩
 cases hf : shortFits s n
 ·simp [s1, e1, s4, s24, s25, hlt, hw]
  refine ⟨rfl, ?_⟩
  intro j hj
  rcases Nat.lt_or_ge j n with h | h
  ·exact hb j h
  ·rw [show j = n by omega]; exact hf
 ·rw [hover_at n hlt hf hb]
  simp [s1, e1, s4, s24, s25, hlt]
theorem minLen_zero {s : Sheet} (hsh : sheetI s = true) : (((minLen List.length (goodS s []) : Nat) : Int) == 0) = (goodS s []).isEmpty := by
 cases hg : goodS s [] with
 | nil => rfl
 | cons x l =>
  have hB := better_best (len := List.length) (most := mostI s []) x l
  have h1 : ∀ y ∈ x :: l, 1 ≤ y.length := fun y hy => List.length_pos_iff.2 (setR_parts (good_ok hsh (by rw [hg]; exact hy)).1).2.1
  have e := minLen_best hB h1
  have := h1 _ (bestL_mem (betterB List.length (mostI s [])) l x)
  rw [e]
  simp
  intro h
  rw [h] at this
  simp at this
set_option maxHeartbeats 1000000 in
theorem ac57 (hG : Stable GI) (s : Sheet) (hs : Slim s) (hsh : sheetI s = true) : AC prog GI 57 [sheetA s] (.ret (.int .i64 (overI s : Nat))) := by
 have hN := letsN_sheet hsh
 obtain ⟨N, hNe⟩ : ∃ N, letsN s.words = N := ⟨_, rfl⟩
 have hover_at := fun n (h : n < N) hp hb => over_at (s := s) (n := n) (by omega) hp hb
 have hover_all := over_all (s := s)
 have a58 := ac58 hG s hs.words hs.signs
 rw [hNe] at hover_all hN a58
 refine AC.of_body hG hmix func57 rfl ntmps57 (by simp) (ac := c57) (by kernel_rfl) ?_
 refine awp_cut (fun S H => S 1 = .box 1 0 ∧ H 1 = some (sheetL s)) (by simp [sheetA, sheetL]) ?_
 rintro S H ⟨s1, e1⟩
 simp [s1, e1]
 refine awp_loop 3 N (fun n S H => S 1 = .box 1 0 ∧ H 1 = some (sheetL s) ∧ S 3 = .int .i64 (n : Nat) ∧ ∀ j, j < n → shortFits s j = false) (fun i S H h => h.2.2.1) ⟨by simp [s1], by simp [e1], by simp, fun j h => absurd h (Nat.not_lt_zero _)⟩ ?_
 clear s1 e1 S H
 rintro n hn S H ⟨s1, e1, s3, hb⟩
 by_cases hlt : n < N
 case neg =>
  have hnl : n = N := by omega
  subst hnl
  rw [hover_all hb]
  simp [s1, e1, s3, sheetL]
  refine ⟨_, by kernel_rfl, a58, by simp [boxy], ?_⟩
  simp [s1, e1, s3]
 have hw : IntKind.i64.wrap ((n : Int) + 1) = n + 1 := wrapI (by omega)
 have a59 := ac59 hG s hs (k := n) (by omega)
 rw [hNe] at a59
 have hxs := lessS_sheet hsh (k := N - n) (by omega)
 have a43 := ac43 hG (lessS s (N - n)) hxs
 have hz := minLen_zero hxs
 have hp : shortFits s n = !(goodS (lessS s (N - n)) []).isEmpty := by unfold shortFits; rw [hNe]
 simp [s1, e1, s3, sheetL]
 refine ⟨_, by kernel_rfl, a58, by simp [boxy], ?_⟩
 simp [s1, e1, s3, sheetL, hlt]
 refine ⟨_, by kernel_rfl, a59, by simp [boxy], ?_⟩
 simp [s1, e1, s3, sheetA, sheetL]
 refine ⟨_, by kernel_rfl, a43, by simp [boxy], ?_⟩
 generalize ((minLen List.length (goodS (lessS s (N - n)) []) : Nat) : Int) = r at *
 cases hf : shortFits s n
 ·rw [hf] at hp
  have hz : (r == 0) = true := by rw [hz]; simpa using hp.symm
  simp [s1, e1, s3, hz, hw, hlt]
  refine ⟨rfl, ?_⟩
  intro j hj
  rcases Nat.lt_or_ge j n with h | h
  ·exact hb j h
  ·rw [show j = n by omega]; exact hf
 ·rw [hf] at hp
  have hz : (r == 0) = false := by rw [hz]; simpa using hp.symm
  rw [hover_at n hlt hf hb]
  simp [s1, e1, s3, hz]
theorem ac12 (hG : Stable GI) (hML : ML GI) (s : Sheet) : AC prog GI 12 [sheetA s] (.ret (.bool true)) := by
 have hk := ac24 hG hML
 refine AC.of_body hG hmix func12 rfl ntmps12 (by simp) (ac := c12) (by kernel_rfl) ?_
 refine awp_cut (fun S H => S 1 = .box 1 0 ∧ H 1 = some (sheetL s)) (by simp [sheetA, sheetL]) ?_
 rintro S H ⟨s1, e1⟩
 simp [s1, e1, sheetL]
 refine ⟨_, by kernel_rfl, ac29 hG s, fun _ => rfl, ?_⟩
 cases hsI : shortI s
 ·simp [s1, e1, sheetL]
  refine ⟨_, by kernel_rfl, hk, fun _ => rfl, ?_⟩
  simp
 have hs := shortI_slim hsI
 have a56 := ac56 hG s hs
 unfold overO at a56
 simp [s1, e1, sheetL]
 cases hsh : sheetI s
 ·rw [hsh] at a56
  refine ⟨_, by kernel_rfl, a56, by simp [boxy], ?_⟩
  simp [s1, e1, sheetL]
  refine ⟨_, by kernel_rfl, ac33 hG s hs, fun _ => rfl, ?_⟩
  rw [hsh]
  simp [s1, e1, sheetL]
  refine ⟨_, by kernel_rfl, hk, fun _ => rfl, ?_⟩
  simp
 rw [hsh, if_pos rfl] at a56
 refine ⟨_, by kernel_rfl, a56, by simp [boxy], ?_⟩
 simp [s1, e1, sheetL]
 refine ⟨_, by kernel_rfl, ac33 hG s hs, fun _ => rfl, ?_⟩
 rw [hsh]
 simp [s1, e1, sheetL]
 refine ⟨_, by kernel_rfl, ac57 hG s hs hsh, by simp [boxy], ?_⟩
 simp [s1, e1, sheetL]
 refine ⟨_, by kernel_rfl, hk, fun _ => rfl, ?_⟩
 simp
end Go.Proofs.Tryz
namespace Go.Proofs.YtjdgdinalodjfaaGreatDoor
open Go Go.AL Go.ChangeShapes Go.WideShapes Go.ChangeAt Go.RowKit Go.Proofs.Tryz
set_option maxRecDepth 100000
namespace Overs
abbrev row : OpenClaim := Rows.letterOversRow
abbrev spec : ChangeSpec := Rows.letterOversSpec
theorem call (W : World) (base : Nat) (args : Array Value) {H : Type} {enc : TypeId × Value → H} (ds : List (DataW H)) (p : List MemPlace) (hG : GI W) (hval : ∀ (j : Nat) t v, Tryz.f12.params[j]? = some t → args[j]? = some v → Value.okWide Tryz.prog W .any base t v)
  (hA : DataW.TrodAll enc Tryz.prog W 0 (fun _ => true) true Tryz.f12.params.toList args.toList ds p) : Calls Tryz.prog 12 args W fun e W' => e = .returned (.bool true) ∧ Below W.heap.size W W' := by
 rw [Tryz.params12] at hA hval
 obtain ⟨v0, vs0, d0, ds0, p0, q0, e0, rfl, rfl, h0, hr1⟩ := trodAll_cons hA
 obtain ⟨rfl, rfl, rfl⟩ := trodAll_nil hr1
 obtain rfl : args = #[v0] := by
  apply Array.toList_inj.1; rw [e0]
 obtain ⟨x0, g0, a0⟩ := open_sheet (hval 0 28 v0 rfl rfl) h0
 refine calls_of (ac12 gi_stable (fun _ h => h) x0) hG rfl fun i h h' => ?_
 match i, h with
 | 0, _ => exact .data _ _ a0
theorem w1 (os : Os) : ((World.laidAll Tryz.prog os row.laid).forCall (fun _ _ => 0) ⟨#[], #[.agg #[.slice none 0 0, .slice none 0 0, .int .i64 0, .int .i64 0, .int .i64 0, .int .i64 0, .int .i64 0, .slice none 0 0, .int .i64 0, .int .i64 0]], []⟩).Shaped Tryz.checked.prog :=
 World.shaped_of_ZipB (by kernel_rfl) (by kernel_rfl)
theorem lifted (os : Os) (started : os.Started) (H : Type) (enc : TypeId × Value → H) :
  ReturnsInHanded {} Tryz.checked os 12 .any (fun w args => (spec.pre enc Tryz.prog Tryz.f12 row.domain false w args ∧ laidMetH Tryz.prog row.laid w) ∧ sizedMet enc Tryz.prog Tryz.f12 (OpenSpec.ofChange spec) false w args)
   (spec.post enc Tryz.prog Tryz.f12 false true false false) := by
 refine lifted_of 12 Tryz.f12 Tryz.func12 (by kernel_rfl) (by kernel_rfl) spec rfl ?_ ?_ os started _ 12 (w1 os) (by kernel_rfl) (by kernel_rfl) (by kernel_rfl) ?_ (fun W base args ds p => call W base args ds p)
 ·intro ds hl
  rw [show Tryz.f12.params.size = 1 by kernel_rfl] at hl
  match ds, hl with
  | [d0], _ => rfl
 ·rw [Tryz.params12]
  intro t ht
  have : t = 28 := by simpa using ht
  rcases this with rfl
  all_goals exact ⟨by kernel_rfl, of_decide_eq_true (by kernel_rfl)⟩
 ·rw [MakeChecks.laidMetH_plain _ _ _ (by kernel_rfl)]; exact laidMet_laidAll _ (by kernel_rfl) (by kernel_rfl)
theorem f_named : Tryz.prog.funcNamed "mahlstick/mahlsticklaw01.LetterOvers" = some 12 := by kernel_rfl
theorem f_inPlace : (row.inPlace == Tryz.prog.inPlace 12) = true := by kernel_rfl
theorem f_unfollowed : (row.unfollowed == Tryz.prog.unfollowed 12) = true := by kernel_rfl
theorem f_recurses : (row.recurses == Tryz.prog.recurses 12) = true := by kernel_rfl
theorem f_vars : (row.named == Tryz.prog.varsNamed 12) = true := by kernel_rfl
theorem joined : joinedFacts Tryz.prog 12 Tryz.f12 spec row = true :=
 joined_of ⟨rfl, rfl, rfl, rfl, rfl, rfl⟩ (by kernel_rfl) (by kernel_rfl) (by kernel_rfl) f_inPlace f_unfollowed f_recurses f_vars (by kernel_rfl) (by kernel_rfl) (by kernel_rfl) (by kernel_rfl)
theorem instanceOf : Tryz.f12.isInstance Tryz.prog row.origin row.targs := of_decide_eq_true (by kernel_rfl)
theorem wrapperOf : Tryz.f12.isWrapper Tryz.prog row.wrapper row.mainSum := by
 unfold Func.isWrapper
 rw [if_neg (by decide +kernel)]
 exact ⟨rfl, rfl⟩
theorem holds : Rows.LetterOversSaid :=
 OpenClaim.holds_of_wide 12 Tryz.f12 rfl rfl rfl rfl rfl rfl rfl ⟨rfl, rfl, rfl, rfl, rfl⟩ rfl rfl rfl rfl rfl f_named Tryz.func12 joined instanceOf wrapperOf (fun os started H enc _ => lifted os started H enc)
theorem f_wf : row.wfByText (OpenSpec.ofChange spec) = true := by kernel_rfl
theorem f_goes : false = row.goesBy Tryz.prog := by kernel_rfl
theorem f_stand : ([28].all fun u => !Tryz.prog.wantsStandIn u) = true := by kernel_rfl
theorem f_main : Tryz.prog.mainIs = some (true, "c6c35c26350f8f1001e286baba07dbfbfaca16fe3311917b4f7043a2b45b2948".toList) := by rw [p_mainIs, p_sum]
theorem card : Rows.LetterOversCardSaid :=
 Claim7.holds_tied_plain_at .later [] [.data, .data, .data, .data, .pinned] true (true, "c6c35c26350f8f1001e286baba07dbfbfaca16fe3311917b4f7043a2b45b2948") true holds (fun _ h => by cases h) f_wf (fun _ h => by cases h) letterOvers_row_tie rfl ⟨rfl, rfl⟩ f_main rfl
  (fun f fn hf hfn => by
   obtain rfl : f = 12 := Option.some.inj (f_named.symm.trans hf) |>.symm
   obtain rfl : fn = Tryz.f12 := (Option.some.inj (Tryz.func12.symm.trans hfn)).symm
   refine ⟨p_looks, fun j t ht => ?_⟩
   rw [Tryz.params12] at ht
   have hm : t ∈ [28] := by
    simpa using Array.mem_of_getElem? ht
   exact (show Tryz.prog.wantsStandIn t = false by simpa using List.all_eq_true.1 f_stand t hm))
  f_goes
end Overs
#print axioms Overs.card
end Go.Proofs.YtjdgdinalodjfaaGreatDoor
