/-
  The statement's function LetterPlaced returns true and leaves its arguments as they are, for every sheet, setting and stretch; no condition. The texts before this one hold the layer of abstract values, the code of the functions that are reached, and their contracts.
-/
import Derived.Test.YtjdgdinalodjfaaGreatDoorP1
import Derived.Test.YtjdgdinalodjfaaGreatDoorQ1
set_option linter.all false
set_option linter.unusedVariables false
set_option linter.unusedSimpArgs false
set_option linter.deprecated false
namespace Go.Proofs.Tryz
open Go Go.AL Go.RowKit Go.Proofs
attribute [local simp] awp_all qs_all ops_all dops_all ops_nil dops_nil ops_call ops_callv ops_alloc ops_box dops_call dops_alloc kO_eq kD_eq awanted apure ev Eff.S Eff.H tmpOf upd putD AL.start AV.dem AV.cells AV.storable AV.scells splice scrub abin loadA HR.okB post ares aress ares1 AV.out AV.isData ints_len ints_get fz fz1 AV.vw AV.vw1 boxy vI int undefA assignQ thenQ blockQ seqQ panQ prol prolH allocOf
variable {GI : World → Prop}
theorem placedF {s : Sheet} {out : List Int} {es : List End} (hs : sheetI s = true) (g : Good s out es) (st : Int) {i : Nat} (h : i < es.length) : ∃ L cut, L ≠ [] ∧ L.length ≤ 24 ∧ (∀ a ∈ L, okL s a) ∧ (∃ w, refRow s out es i = withH L cut w) ∧ rowP s out es st i = (List.range L.length).map (posL s st L) ∧ wideI s out es st i = wideP s st L cut := by
 refine ⟨(rowI s out es i).map (letS s), cutI s es i, rowL_ne g h, by rw [List.length_map]; exact rowI_len hs g i, rowL_ok hs g, ⟨_, rfl⟩, ?_, rfl⟩
 unfold rowP
 rw [List.length_map]
theorem widthsI_get {s : Sheet} {out : List Int} {es : List End} {st : Int} {i : Nat} (h : i < es.length) : (widthsI s out es st)[i]? = some (wideI s out es st i) := by
 unfold widthsI
 rw [List.getElem?_map, List.getElem?_range h]; rfl
theorem placesI_get {s : Sheet} {out : List Int} {es : List End} {st : Int} {i n : Nat} (h : i < n) : ((placesI s out es st n).map vI)[i]? = some (vI (rowP s out es st i)) := by
 unfold placesI
 rw [List.getElem?_map, List.getElem?_map, List.getElem?_range h]; rfl
set_option maxHeartbeats 4000000 in
theorem ac3 (hG : Stable GI) (hML : ML GI) (s : Sheet) (x : List Int × List End) (st : Int) : AC prog GI 3 [sheetA s, settingA x.1 x.2, .int .i64 st] (.ret (.bool true)) := by
 obtain ⟨out, es⟩ := x
 have hk := ac24 hG hML
 refine AC.of_body hG hmix func3 rfl ntmps3 (by simp) (ac := c3) (by kernel_rfl) ?_
 refine awp_cut (fun S H => S 3 = .box 3 0 ∧ S 4 = .box 4 0 ∧ S 2 = .int .i64 st ∧ H 3 = some (sheetL s) ∧ H 4 = some [vI out, .slice .view (es.map endA)]) (by simp [sheetA, sheetL, settingA, endsA]) ?_
 rintro S H ⟨s3, s4, s2, e3, e4⟩
 simp [s2, s3, s4, e3, e4, sheetL]
 refine ⟨_, by kernel_rfl, ac22 hG s out es, fun _ => rfl, ?_⟩
 cases hr : rightI s out es
 ·simp [s2, s3, s4, e3, e4, sheetL]
  refine ⟨_, by kernel_rfl, hk, fun _ => rfl, ?_⟩
  simp
 simp [s2, s3, s4, e3, e4, sheetL]
 refine ⟨_, by kernel_rfl, ac23 hG st, fun _ => rfl, ?_⟩
 cases hst : inI st 0 10
 ·simp [s2, s3, s4, e3, e4, sheetL]
  refine ⟨_, by kernel_rfl, hk, fun _ => rfl, ?_⟩
  simp
 have h01 : 0 ≤ st ∧ st ≤ 10 := by simpa [inI] using hst
 obtain ⟨h0, h1⟩ := h01
 unfold rightI at hr
 simp only [Bool.and_eq_true] at hr
 obtain ⟨hsI, hxI, hsh, hset⟩ := hr
 have hs := shortI_slim hsI
 obtain ⟨ho, he⟩ := slimI_len hxI
 have g := good_of hsh hset
 have hF := sheetF hsh
 simp [s2, s3, s4, e3, e4, sheetL]
 refine ⟨_, by kernel_rfl, ac25_ok hG s hs hsh out (by omega) es (by omega) hset h0 h1, by simp [boxy], ?_⟩
 simp [s2, s3, s4, e3, e4, sheetL]
 refine ⟨_, by kernel_rfl, ac26_ok hG s hs hsh out (by omega) es (by omega) hset h0 h1, by simp [boxy], ?_⟩
 simp [s2, s3, s4, e3, e4, sheetL]
 refine ⟨_, by kernel_rfl, ac27 hG s hsh out (by omega) es (by omega) g, by simp [boxy], ?_⟩
 have hlen1 := placesI_len s out es st es.length
 have hlen2 := widthsI_len s out es st
 have hlen3 := linesR_len s out es es.length
 simp [s2, s3, s4, e3, e4, sheetL, hlen1, hlen2, hlen3]
 refine awp_loop 12 es.length (fun i S H => S 2 = .int .i64 st ∧ S 3 = .box 3 0 ∧ H 3 = some (sheetL s) ∧ S 7 = .slice .view ((placesI s out es st es.length).map vI) ∧ S 9 = vI (widthsI s out es st) ∧ S 11 = .slice .view (linesR s out es es.length) ∧ S 12 = .int .i64 (i : Nat)) (fun i S H h => h.2.2.2.2.2.2) ⟨by simp [s2], by simp [s3], by simp [e3, sheetL], by simp, by simp, by simp, by simp⟩ ?_
 clear s2 s3 s4 e3 e4 S H
 rintro i hi S H ⟨s2, s3, e3, s7, s9, s11, s12⟩
 by_cases hlt : i < es.length
 case neg =>
  have hil : i = es.length := by omega
  subst hil
  simp [s2, s3, e3, s7, s9, s11, s12, hlen3]
  refine ⟨_, by kernel_rfl, hk, fun _ => rfl, ?_⟩
  simp
 have hw : IntKind.i64.wrap ((i : Int) + 1) = i + 1 := wrapI (by omega)
 obtain ⟨L, cut, hLn, hLl, hLo, ⟨w0, hR⟩, hP, hW⟩ := placedF hsh g st hlt
 have g1 := placesI_get (s := s) (out := out) (es := es) (st := st) hlt
 have g2 := widthsI_get (s := s) (out := out) (es := es) (st := st) hlt
 have g3 := linesR_get s out es hlt
 rw [hP] at g1
 rw [hW] at g2
 rw [hR] at g3
 clear hR hP hW
 have hlen1' : ((placesI s out es st es.length).map vI).length = es.length := by rw [List.length_map]; exact hlen1
 generalize (placesI s out es st es.length).map vI = PA at s7 g1 hlen1' ⊢
 generalize linesR s out es es.length = RA at s11 g3 hlen3 ⊢
 generalize widthsI s out es st = WA at s9 g2 hlen2 ⊢
 replace g1 := List.getElem?_eq_some_iff.1 g1
 obtain ⟨g1l, g1⟩ := g1
 replace g2 := List.getElem?_eq_some_iff.1 g2
 obtain ⟨g2l, g2⟩ := g2
 replace g3 := List.getElem?_eq_some_iff.1 g3
 obtain ⟨g3l, g3⟩ := g3
 have hLp := List.length_pos_iff.2 hLn
 have hend := placed_end (s := s) (st := st) hLn cut
 have hPl : ((List.range L.length).map (posL s st L)).length = L.length := by simp
 have hPg : ∀ k, k < L.length → ((List.range L.length).map (posL s st L))[k]? = some (posL s st L k) := fun k hk => by simp [hk]
 have hpos : ∀ k, k < L.length → 0 ≤ posL s st L k ∧ posL s st L k ≤ 1000 := fun k hk => by
  have := posH_bounds hF h0 h1 (l := L) (fun a ha => .inr (hLo a ha)) (i := k) hk
  omega
 have hp0 : posL s st L 0 = 0 := rfl
 generalize (List.range L.length).map (posL s st L) = P at g1 hPl hPg
 have hWb : wideP s st L cut ≤ 10000 ∧ 0 ≤ wideP s st L cut := by
  have := wideP_bounds hF h0 h1 hLn hLo hLl cut
  omega
 have hwdL : ∀ k (h : k < L.length), ∃ q : Nat, L[k].2 = q ∧ ∃ h' : q < s.widths.length, wdL s L[k] = s.widths[q] := fun k h => by
  obtain ⟨h2, h3⟩ := hLo _ (List.getElem_mem h)
  refine ⟨L[k].2.toNat, by omega, by omega, ?_⟩
  unfold wdL
  rw [if_neg (by omega), List.getElem?_eq_getElem (by omega)]; rfl
 have hwdb : ∀ k (h : k < L.length), 1 ≤ wdL s L[k] ∧ wdL s L[k] ≤ 20 := fun k h => wdL_bounds hF (hLo _ (List.getElem_mem h))
 have hbo := betw_bounds hF.o.2.1 h0 h1
 have hRl : ((withH L cut w0).map ltA).length = L.length + (if cut then 1 else 0) := by cases cut <;> simp [withH]
 have hRk : ∀ k (h : k < L.length), ((withH L cut w0).map ltA)[k]? = some (ltA L[k]) := fun k h => by
  cases cut
  ·simp [withH, h]
  ·rw [withH, if_pos rfl, List.map_append, List.getElem?_append_left (by simpa using h)]; simp [h]
 have hLz : L.length - 1 < L.length := by omega
 have hRz : ((withH L cut w0).map ltA)[L.length + (if cut then 1 else 0) - 1]? = some (ltA (if cut then (w0, -1) else L[L.length - 1]'hLz)) := by
  cases cut
  ·simp [withH, List.getElem?_eq_getElem (show L.length - 1 < L.length by omega)]
  ·simp [withH]
 generalize (withH L cut w0).map ltA = R at g3 hRl hRk hRz
 refine awp_cut (fun S H => S 2 = .int .i64 st ∧ S 3 = .box 3 0 ∧ H 3 = some (sheetL s) ∧ S 7 = .slice .view PA ∧ S 9 = vI WA ∧ S 11 = .slice .view RA ∧ S 12 = .int .i64 (i : Nat)) (by simp [s2, s3, e3, s7, s9, s11, s12, hlen3, hlt]) ?_
 clear s2 s3 e3 s7 s9 s11 s12 S H
 rintro S H ⟨s2, s3, e3, s7, s9, s11, s12⟩
 refine awp_in ?_
 have hm1 : IntKind.i64.wrap ((L.length : Int) + 1 - 1) = L.length := by rw [wrapI (by omega)]; omega
 have hm2 : IntKind.i64.wrap ((L.length : Int) - 1) = (L.length - 1 : Nat) := by rw [wrapI (by omega)]; omega
 refine awp_cut (fun S H => S 2 = .int .i64 st ∧ S 3 = .box 3 0 ∧ H 3 = some (sheetL s) ∧ S 7 = .slice .view PA ∧ S 9 = vI WA ∧ S 11 = .slice .view RA ∧ S 12 = .int .i64 (i : Nat) ∧ S 13 = .int .i64 R.length) (by simp [s2, s3, e3, s7, s9, s11, s12, g1, g2, g3, g1l, g2l, g3l]) ?_
 clear s2 s3 e3 s7 s9 s11 s12 S H
 rintro S H ⟨s2, s3, e3, s7, s9, s11, s12, s13⟩
 refine awp_cut (fun S H => S 2 = .int .i64 st ∧ S 3 = .box 3 0 ∧ H 3 = some (sheetL s) ∧ S 7 = .slice .view PA ∧ S 9 = vI WA ∧ S 11 = .slice .view RA ∧ S 12 = .int .i64 (i : Nat) ∧ S 13 = .int .i64 R.length ∧ S 14 = .bool cut) ?_ ?_
 ·cases cut with
  | false =>
   obtain ⟨q, hq, _⟩ := hwdL (L.length - 1) (by omega)
   have hRg := hRk (L.length - 1) (by omega)
   have hq0 : ¬ (q : Int) < 0 := by omega
   simp at hRl
   simp [s2, s3, e3, s7, s9, s11, s12, s13, g1, g2, g3, g1l, g2l, g3l, hRl, hm2, hRg, ltA, hq, hq0, hLp]
  | true =>
   obtain ⟨_, hRg⟩ := List.getElem?_eq_some_iff.1 (show R[L.length]? = some (ltA (w0, -1)) by simpa using hRz)
   simp at hRl
   have hw1 : IntKind.i64.wrap (L.length : Int) = L.length := wrapI (by omega)
   simp [s2, s3, e3, s7, s9, s11, s12, s13, g1, g2, g3, g1l, g2l, g3l, hRl, hRg, ltA, hw1]
 clear s2 s3 e3 s7 s9 s11 s12 s13 S H
 rintro S H ⟨s2, s3, e3, s7, s9, s11, s12, s13, s14⟩
 refine awp_cut (fun S H => S 2 = .int .i64 st ∧ S 3 = .box 3 0 ∧ H 3 = some (sheetL s) ∧ S 7 = .slice .view PA ∧ S 9 = vI WA ∧ S 11 = .slice .view RA ∧ S 12 = .int .i64 (i : Nat) ∧ S 13 = .int .i64 L.length ∧ S 14 = .bool cut) ?_ ?_
 ·cases cut with
  | false => simp at hRl; simp [s2, s3, e3, s7, s9, s11, s12, s13, s14, hRl]
  | true =>
   have hw1 : IntKind.i64.wrap (L.length : Int) = L.length := wrapI (by omega)
   simp at hRl; simp [s2, s3, e3, s7, s9, s11, s12, s13, s14, hRl, hw1]
 clear s2 s3 e3 s7 s9 s11 s12 s13 s14 S H
 rintro S H ⟨s2, s3, e3, s7, s9, s11, s12, s13, s14⟩
 have hPg0 := hPg 0 hLp
 rw [hp0] at hPg0
 obtain ⟨hP0l, hPg0⟩ := List.getElem?_eq_some_iff.1 hPg0
 refine awp_cut (fun S H => S 2 = .int .i64 st ∧ S 3 = .box 3 0 ∧ H 3 = some (sheetL s) ∧ S 7 = .slice .view PA ∧ S 9 = vI WA ∧ S 11 = .slice .view RA ∧ S 12 = .int .i64 (i : Nat) ∧ S 13 = .int .i64 L.length ∧ S 14 = .bool cut) (by simp [s2, s3, e3, s7, s9, s11, s12, s13, s14, g1, g2, g3, g1l, g2l, g3l, hPl, hPg0, hLp]) ?_
 clear s2 s3 e3 s7 s9 s11 s12 s13 s14 S H
 rintro S H ⟨s2, s3, e3, s7, s9, s11, s12, s13, s14⟩
 refine awp_cut (fun S H => S 2 = .int .i64 st ∧ S 3 = .box 3 0 ∧ H 3 = some (sheetL s) ∧ S 7 = .slice .view PA ∧ S 9 = vI WA ∧ S 11 = .slice .view RA ∧ S 12 = .int .i64 (i : Nat) ∧ S 13 = .int .i64 L.length ∧ S 14 = .bool cut) ?_ ?_
 ·have hlo := fun a b => spanS_bounds hF a b
  simp [s2, s3, e3, s7, s9, s11, s12, s13, s14]
  refine awp_loopF 15 1 L.length (fun k S H => S 2 = .int .i64 st ∧ S 3 = .box 3 0 ∧ H 3 = some (sheetL s) ∧ S 7 = .slice .view PA ∧ S 9 = vI WA ∧ S 11 = .slice .view RA ∧ S 12 = .int .i64 (i : Nat) ∧ S 13 = .int .i64 L.length ∧ S 14 = .bool cut ∧ S 15 = .int .i64 (k : Nat)) (by omega) (fun k S H h => h.2.2.2.2.2.2.2.2.2) ⟨by simp [s2], by simp [s3], by simp [e3, sheetL], by simp [s7], by simp [s9], by simp [s11], by simp [s12], by simp [s13], by simp [s14], by simp⟩ ?_
  clear s2 s3 e3 s7 s9 s11 s12 s13 s14 S H
  rintro k hk1 hk S H ⟨s2, s3, e3, s7, s9, s11, s12, s13, s14, s15⟩
  by_cases hkl : k < L.length
  case neg =>
   have hkl' : k = L.length := by omega
   subst hkl'
   simp [s2, s3, e3, s7, s9, s11, s12, s13, s14, s15]
  refine awp_cut (fun S H => S 2 = .int .i64 st ∧ S 3 = .box 3 0 ∧ H 3 = some (sheetL s) ∧ S 7 = .slice .view PA ∧ S 9 = vI WA ∧ S 11 = .slice .view RA ∧ S 12 = .int .i64 (i : Nat) ∧ S 13 = .int .i64 L.length ∧ S 14 = .bool cut ∧ S 15 = .int .i64 (k : Nat)) (by simp [s2, s3, e3, s7, s9, s11, s12, s13, s14, s15, hkl]) ?_
  clear s2 s3 e3 s7 s9 s11 s12 s13 s14 s15 S H
  rintro S H ⟨s2, s3, e3, s7, s9, s11, s12, s13, s14, s15⟩
  obtain ⟨m, rfl⟩ : ∃ m, k = m + 1 := ⟨k - 1, by omega⟩
  have hml : m < L.length := by omega
  have hwm : IntKind.i64.wrap ((m : Int) + 1 - 1) = m := by rw [wrapI (by omega)]; omega
  have hwm' : IntKind.i64.wrap (m : Int) = m := wrapI (by omega)
  have hw2 : IntKind.i64.wrap ((m : Int) + 1 + 1) = m + 1 + 1 := wrapI (by omega)
  have hp00 : (0 : Int) ≤ (m : Int) + 1 := by omega
  have hlt' : (m : Int) + 1 < L.length := by omega
  have hgap := placed_gap (s := s) (st := st) hkl
  have hP1 := hPg m hml
  obtain ⟨hP1l, hP1⟩ := List.getElem?_eq_some_iff.1 hP1
  have hP2 := hPg (m + 1) hkl
  obtain ⟨hP2l, hP2⟩ := List.getElem?_eq_some_iff.1 hP2
  have hR1 := hRk m hml
  have hR2 := hRk (m + 1) hkl
  obtain ⟨hR1l, hR1⟩ := List.getElem?_eq_some_iff.1 hR1
  obtain ⟨hR2l, hR2⟩ := List.getElem?_eq_some_iff.1 hR2
  obtain ⟨q, hq, hql, hwd⟩ := hwdL m hml
  have hwb := hwdb m hml
  have hp1 := hpos m hml
  have hp2 := hpos (m + 1) hkl
  have hsb := hlo L[m] L[m + 1]
  have hbb := betw_bounds (lo := (spanS s L[m] L[m + 1]).1) (hi := (spanS s L[m] L[m + 1]).2) hsb.2.1 h0 h1
  have a28 := ac28 hG s hs L[m] L[m + 1]
  rw [hwd] at hgap hwb
  have hz0 : st = 0 → posL s st L (m + 1) - posL s st L m - s.widths[q] = (spanS s L[m] L[m + 1]).1 := fun e => by rw [hgap, e, betw_zero]
  have hz1 : st = 10 → posL s st L (m + 1) - posL s st L m - s.widths[q] = (spanS s L[m] L[m + 1]).2 := fun e => by rw [hgap, e, betw_ten]
  generalize spanS s L[m] L[m + 1] = sp at hgap hsb hbb a28 hz0 hz1
  obtain ⟨lo, hi'⟩ := sp
  simp only at hgap hsb hbb hz0 hz1
  generalize posL s st L m = pa at hP1 hgap hp1 hz0 hz1
  generalize posL s st L (m + 1) = pb at hP2 hgap hp2 hz0 hz1
  have hwa : IntKind.i64.wrap (pb - pa) = pb - pa := wrapI (by omega)
  have hwc : IntKind.i64.wrap (pb - pa - s.widths[q]) = pb - pa - s.widths[q] := wrapI (by omega)
  generalize hN : pb - pa - s.widths[q] = N at hgap hz0 hz1 hwc
  have c1 : ¬ N < lo := by omega
  have c2 : ¬ hi' < N := by omega
  refine awp_in ?_
  refine awp_cut (fun S H => S 2 = .int .i64 st ∧ S 3 = .box 3 0 ∧ H 3 = some (sheetL s) ∧ S 7 = .slice .view PA ∧ S 9 = vI WA ∧ S 11 = .slice .view RA ∧ S 12 = .int .i64 (i : Nat) ∧ S 13 = .int .i64 L.length ∧ S 14 = .bool cut ∧ S 15 = .int .i64 ((m + 1 : Nat) : Int) ∧ S 16 = .box 16 0 ∧ H 16 = some [.int .i64 lo, .int .i64 hi']) ?_ ?_
  ·simp [s2, s3, e3, s7, s9, s11, s12, s13, s14, s15, g1, g2, g3, g1l, g2l, g3l, hkl, hlt', hwm, hwm', hR1, hR2, hR1l, hR2l, hp00, sheetL, ltA]
   refine ⟨_, by kernel_rfl, a28, by simp [boxy], ?_⟩
   simp [s2, s3, e3, s7, s9, s11, s12, s13, s14, s15, sheetL, pA2]
  clear s2 s3 e3 s7 s9 s11 s12 s13 s14 s15 S H
  rintro S H ⟨s2, s3, e3, s7, s9, s11, s12, s13, s14, s15, s16, e16⟩
  refine awp_cut (fun S H => S 2 = .int .i64 st ∧ S 3 = .box 3 0 ∧ H 3 = some (sheetL s) ∧ S 7 = .slice .view PA ∧ S 9 = vI WA ∧ S 11 = .slice .view RA ∧ S 12 = .int .i64 (i : Nat) ∧ S 13 = .int .i64 L.length ∧ S 14 = .bool cut ∧ S 15 = .int .i64 ((m + 1 : Nat) : Int) ∧ S 16 = .box 16 0 ∧ H 16 = some [.int .i64 lo, .int .i64 hi'] ∧ S 17 = .int .i64 N) ?_ ?_
  ·simp [s2, s3, e3, s7, s9, s11, s12, s13, s14, s15, s16, e16, g1, g2, g3, g1l, g2l, g3l, hPl, hkl, hlt', hml, hwm, hwm', hR1, hR2, hR1l, hR2l, hP1, hP2, hp00, hq, hql, hwa, hN, hwc, sheetL, ltA]
  clear s2 s3 e3 s7 s9 s11 s12 s13 s14 s15 s16 e16 S H
  rintro S H ⟨s2, s3, e3, s7, s9, s11, s12, s13, s14, s15, s16, e16, s17⟩
  by_cases hs0 : st = 0
  ·have e := hz0 hs0
   subst hs0
   have hle : ¬ hi' < lo := by omega
   subst e
   simp [s2, s3, e3, s7, s9, s11, s12, s13, s14, s15, s16, e16, s17, hle, hw2, hkl, hlt', hk1, sheetL]
  ·have hs0' : (st == 0) = false := by simpa using hs0
   by_cases hs1 : st = 10
   ·have e := hz1 hs1
    subst hs1
    have hle : ¬ hi' < lo := by omega
    subst e
    simp [s2, s3, e3, s7, s9, s11, s12, s13, s14, s15, s16, e16, s17, hle, hw2, hkl, hlt', hk1, sheetL]
   ·have hs1' : (st == 10) = false := by simpa using hs1
    simp [s2, s3, e3, s7, s9, s11, s12, s13, s14, s15, s16, e16, s17, hs0', hs1', c1, c2, hw2, hkl, hlt', hk1, sheetL]
 clear s2 s3 e3 s7 s9 s11 s12 s13 s14 S H
 rintro S H ⟨s2, s3, e3, s7, s9, s11, s12, s13, s14⟩
 have hPz := hPg (L.length - 1) hLz
 obtain ⟨hPzl, hPz⟩ := List.getElem?_eq_some_iff.1 hPz
 have hRz' := hRk (L.length - 1) hLz
 obtain ⟨q, hq, hql, hwd⟩ := hwdL (L.length - 1) hLz
 have hwb := hwdb (L.length - 1) hLz
 have hpz := hpos (L.length - 1) hLz
 rw [hwd] at hend hwb
 generalize posL s st L (L.length - 1) = pz at hPz hend hpz
 generalize wideP s st L cut = W at hend g2 hWb
 have hwa : IntKind.i64.wrap (W - pz) = W - pz := wrapI (by omega)
 have hwc : IntKind.i64.wrap (W - pz - s.widths[q]) = W - pz - s.widths[q] := wrapI (by omega)
 refine awp_cut (fun S H => S 2 = .int .i64 st ∧ S 3 = .box 3 0 ∧ H 3 = some (sheetL s) ∧ S 7 = .slice .view PA ∧ S 9 = vI WA ∧ S 11 = .slice .view RA ∧ S 12 = .int .i64 (i : Nat) ∧ S 13 = .int .i64 L.length ∧ S 14 = .bool cut ∧ S 18 = .int .i64 (W - pz - s.widths[q])) ?_ ?_
 ·simp [s2, s3, e3, s7, s9, s11, s12, s13, s14, g1, g2, g3, g1l, g2l, g3l, hPl, hm2, hPz, hRz', ltA, hq, hql, hwa, hwc, sheetL, hLz, hLp]
 clear s2 s3 e3 s7 s9 s11 s12 s13 s14 S H
 rintro S H ⟨s2, s3, e3, s7, s9, s11, s12, s13, s14, s18⟩
 cases cut with
 | false =>
  simp at hend
  simp [s2, s3, e3, s7, s9, s11, s12, s13, s14, s18, hend, hw, hlt, sheetL]
 | true =>
  simp at hend
  have hh := hF.hyphen
  have ho := hF.o
  have e1 : IntKind.i64.wrap (s.olo + s.hyphen) = s.olo + s.hyphen := wrapI (by omega)
  have e2 : IntKind.i64.wrap (s.ohi + s.hyphen) = s.ohi + s.hyphen := wrapI (by omega)
  have c1 : ¬ W - pz - s.widths[q] < s.olo + s.hyphen := by omega
  have c2 : ¬ s.ohi + s.hyphen < W - pz - s.widths[q] := by omega
  simp [s2, s3, e3, s7, s9, s11, s12, s13, s14, s18, e1, e2, c1, c2, hw, hlt, sheetL]
end Go.Proofs.Tryz
namespace Go.Proofs.YtjdgdinalodjfaaGreatDoor
open Go Go.AL Go.ChangeShapes Go.WideShapes Go.ChangeAt Go.RowKit Go.Proofs.Tryz
set_option maxRecDepth 100000
namespace Placed
abbrev row : OpenClaim := Rows.letterPlacedRow
abbrev spec : ChangeSpec := Rows.letterPlacedSpec
theorem call (W : World) (base : Nat) (args : Array Value) {H : Type} {enc : TypeId × Value → H} (ds : List (DataW H)) (p : List MemPlace) (hG : GI W) (hval : ∀ (j : Nat) t v, Tryz.f3.params[j]? = some t → args[j]? = some v → Value.okWide Tryz.prog W .any base t v)
  (hA : DataW.TrodAll enc Tryz.prog W 0 (fun _ => true) true Tryz.f3.params.toList args.toList ds p) : Calls Tryz.prog 3 args W fun e W' => e = .returned (.bool true) ∧ Below W.heap.size W W' := by
 rw [Tryz.params3] at hA hval
 obtain ⟨v0, vs0, d0, ds0, p0, q0, e0, rfl, rfl, h0, hr1⟩ := trodAll_cons hA
 obtain ⟨v1, vs1, d1, ds1, p1, q1, e1, rfl, rfl, h1, hr2⟩ := trodAll_cons hr1
 obtain ⟨v2, vs2, d2, ds2, p2, q2, e2, rfl, rfl, h2, hr3⟩ := trodAll_cons hr2
 obtain ⟨rfl, rfl, rfl⟩ := trodAll_nil hr3
 obtain rfl : args = #[v0, v1, v2] := by
  apply Array.toList_inj.1; rw [e0, e1, e2]
 obtain ⟨x0, g0, a0⟩ := open_sheet (hval 0 28 v0 rfl rfl) h0
 obtain ⟨x1, g1, a1⟩ := open_set (hval 1 31 v1 rfl rfl) h1
 obtain ⟨x2, g2, a2⟩ := open_int (hval 2 3 v2 rfl rfl) h2
 refine calls_of (ac3 gi_stable (fun _ h => h) x0 x1 x2) hG rfl fun i h h' => ?_
 match i, h with
 | 0, _ => exact .data _ _ a0
 | 1, _ => exact .data _ _ a1
 | 2, _ => exact .data _ _ a2
theorem w1 (os : Os) : ((World.laidAll Tryz.prog os row.laid).forCall (fun _ _ => 0) ⟨#[], #[.agg #[.slice none 0 0, .slice none 0 0, .int .i64 0, .int .i64 0, .int .i64 0, .int .i64 0, .int .i64 0, .slice none 0 0, .int .i64 0, .int .i64 0], .agg #[.slice none 0 0, .slice none 0 0], .int .i64 0], []⟩).Shaped Tryz.checked.prog :=
 World.shaped_of_ZipB (by kernel_rfl) (by kernel_rfl)
theorem lifted (os : Os) (started : os.Started) (H : Type) (enc : TypeId × Value → H) :
  ReturnsInHanded {} Tryz.checked os 3 .any (fun w args => (spec.pre enc Tryz.prog Tryz.f3 row.domain false w args ∧ laidMetH Tryz.prog row.laid w) ∧ sizedMet enc Tryz.prog Tryz.f3 (OpenSpec.ofChange spec) false w args)
   (spec.post enc Tryz.prog Tryz.f3 false true false false) := by
 refine lifted_of 3 Tryz.f3 Tryz.func3 (by kernel_rfl) (by kernel_rfl) spec rfl ?_ ?_ os started _ 12 (w1 os) (by kernel_rfl) (by kernel_rfl) (by kernel_rfl) ?_ (fun W base args ds p => call W base args ds p)
 ·intro ds hl
  rw [show Tryz.f3.params.size = 3 by kernel_rfl] at hl
  match ds, hl with
  | [d0, d1, d2], _ => rfl
 ·rw [Tryz.params3]
  intro t ht
  have : t = 28 ∨ t = 31 ∨ t = 3 := by simpa using ht
  rcases this with rfl | rfl | rfl
  all_goals exact ⟨by kernel_rfl, of_decide_eq_true (by kernel_rfl)⟩
 ·rw [MakeChecks.laidMetH_plain _ _ _ (by kernel_rfl)]; exact laidMet_laidAll _ (by kernel_rfl) (by kernel_rfl)
theorem f_named : Tryz.prog.funcNamed "mahlstick/mahlsticklaw01.LetterPlaced" = some 3 := by kernel_rfl
theorem f_inPlace : (row.inPlace == Tryz.prog.inPlace 3) = true := by kernel_rfl
theorem f_unfollowed : (row.unfollowed == Tryz.prog.unfollowed 3) = true := by kernel_rfl
theorem f_recurses : (row.recurses == Tryz.prog.recurses 3) = true := by kernel_rfl
theorem f_vars : (row.named == Tryz.prog.varsNamed 3) = true := by kernel_rfl
theorem joined : joinedFacts Tryz.prog 3 Tryz.f3 spec row = true :=
 joined_of ⟨rfl, rfl, rfl, rfl, rfl, rfl⟩ (by kernel_rfl) (by kernel_rfl) (by kernel_rfl) f_inPlace f_unfollowed f_recurses f_vars (by kernel_rfl) (by kernel_rfl) (by kernel_rfl) (by kernel_rfl)
theorem instanceOf : Tryz.f3.isInstance Tryz.prog row.origin row.targs := of_decide_eq_true (by kernel_rfl)
theorem wrapperOf : Tryz.f3.isWrapper Tryz.prog row.wrapper row.mainSum := by
 unfold Func.isWrapper
 rw [if_neg (by decide +kernel)]
 exact ⟨rfl, rfl⟩
theorem holds : Rows.LetterPlacedSaid :=
 OpenClaim.holds_of_wide 3 Tryz.f3 rfl rfl rfl rfl rfl rfl rfl ⟨rfl, rfl, rfl, rfl, rfl⟩ rfl rfl rfl rfl rfl f_named Tryz.func3 joined instanceOf wrapperOf (fun os started H enc _ => lifted os started H enc)
theorem f_wf : row.wfByText (OpenSpec.ofChange spec) = true := by kernel_rfl
theorem f_goes : false = row.goesBy Tryz.prog := by kernel_rfl
theorem f_stand : ([28, 31, 3].all fun u => !Tryz.prog.wantsStandIn u) = true := by kernel_rfl
theorem f_main : Tryz.prog.mainIs = some (true, "c6c35c26350f8f1001e286baba07dbfbfaca16fe3311917b4f7043a2b45b2948".toList) := by rw [p_mainIs, p_sum]
theorem card : Rows.LetterPlacedCardSaid :=
 Claim7.holds_tied_plain_at .later [] [.data, .data, .data, .data, .pinned] true (true, "c6c35c26350f8f1001e286baba07dbfbfaca16fe3311917b4f7043a2b45b2948") true holds (fun _ h => by cases h) f_wf (fun _ h => by cases h) letterPlaced_row_tie rfl ⟨rfl, rfl⟩ f_main rfl
  (fun f fn hf hfn => by
   obtain rfl : f = 3 := Option.some.inj (f_named.symm.trans hf) |>.symm
   obtain rfl : fn = Tryz.f3 := (Option.some.inj (Tryz.func3.symm.trans hfn)).symm
   refine ⟨p_looks, fun j t ht => ?_⟩
   rw [Tryz.params3] at ht
   have hm : t ∈ [28, 31, 3] := by
    simpa using Array.mem_of_getElem? ht
   exact (show Tryz.prog.wantsStandIn t = false by simpa using List.all_eq_true.1 f_stand t hm))
  f_goes
end Placed
#print axioms Placed.card
end Go.Proofs.YtjdgdinalodjfaaGreatDoor
