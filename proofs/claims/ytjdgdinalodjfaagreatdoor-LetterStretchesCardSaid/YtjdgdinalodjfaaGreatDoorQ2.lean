/-
  The statement's function LetterStretches returns true and leaves its arguments as they are, for every sheet, setting and stretch; no condition. The texts before this one hold the layer of abstract values, the code of the functions that are reached, and their contracts.
-/
import Derived.Test.YtjdgdinalodjfaaGreatDoorP1
import Derived.Test.YtjdgdinalodjfaaGreatDoorQ1
set_option linter.all false
set_option linter.unusedVariables false
set_option linter.unusedSimpArgs false
set_option linter.deprecated false
namespace Go.Proofs.Tryz
open Go Go.AL Go.RowKit Go.Proofs
attribute [local simp] awp_all qs_all ops_allN dops_allN ops_nil dops_nil ops_call ops_callv ops_alloc ops_box dops_call dops_alloc kO_eq kD_eq awanted apure ev Eff.S Eff.H tmpOf upd putD AL.start AV.dem AV.cells AV.storable AV.scells splice scrub abin loadA HR.okB post ares aress ares1 AV.out AV.isData ints_len ints_get fz fz1 AV.vw AV.vw1 boxy vI int undefA assignQ thenQ blockQ seqQ panQ prol prolH allocOf
variable {GI : World → Prop}
def refRow (s : Sheet) (out : List Int) (es : List End) (i : Nat) : List Lt := withH ((rowI s out es i).map (letS s)) (cutI s es i) (match es[i]? with | some e => e.1 | none => 0)
def linesR (s : Sheet) (out : List Int) (es : List End) (n : Nat) : List AV := (List.range n).map fun i => .slice .view ((refRow s out es i).map ltA)
theorem linesR_succ (s : Sheet) (out : List Int) (es : List End) (n : Nat) : linesR s out es (n + 1) = linesR s out es n ++ [.slice .view ((refRow s out es n).map ltA)] := by
 unfold linesR; rw [List.range_succ, List.map_append]; rfl
theorem linesR_ok (s : Sheet) (out : List Int) (es : List End) (n : Nat) : elemsOK 1 (linesR s out es n) = true := elems_map fun a => ⟨rfl, rfl⟩
theorem linesR_len (s : Sheet) (out : List Int) (es : List End) (n : Nat) : (linesR s out es n).length = n := by unfold linesR; simp
theorem linesR_get (s : Sheet) (out : List Int) (es : List End) {n i : Nat} (h : i < n) : (linesR s out es n)[i]? = some (.slice .view ((refRow s out es i).map ltA)) := by
 unfold linesR
 rw [List.getElem?_map, List.getElem?_range h]; rfl
theorem linesR_getE (s : Sheet) (out : List Int) (es : List End) {n i : Nat} (h : i < (linesR s out es n).length) : (linesR s out es n)[i] = .slice .view ((refRow s out es i).map ltA) := by
 have := linesR_get s out es (n := n) (i := i) (by rw [linesR_len] at h; exact h)
 rw [List.getElem?_eq_getElem h] at this
 exact Option.some.inj this
theorem aft_get {es : List End} {i : Nat} (h : i < es.length) : aft es (i + 1) = nE es[i] := by
 show (match es[i]? with | some e => nE e | none => (0, 0)) = _
 rw [List.getElem?_eq_getElem h]
set_option maxHeartbeats 1000000 in
theorem ac27 (hG : Stable GI) (s : Sheet) (hs : sheetI s = true) (out : List Int) (ho : out.length < 1000000) (es : List End) (he : es.length < 100000) (g : Good s out es) : AC prog GI 27 [sheetA s, settingA out es] (.ret (.slice .view (linesR s out es es.length))) := by
 refine AC.as_view (o := if linesR s out es es.length = [] then .nil else .view) ?_
 refine AC.of_body hG hmix func27 rfl ntmps27 (by simp) (ac := c27) (by kernel_rfl) ?_
 refine awp_cut (fun S H => S 2 = .box 2 0 ∧ S 3 = .box 3 0 ∧ H 2 = some (sheetL s) ∧ H 3 = some [vI out, .slice .view (es.map endA)]) (by simp [ops_ap, dops_ap, sheetA, sheetL, settingA, endsA]) ?_
 rintro S H ⟨s2, s3, e2, e3⟩
 simp [ops_ap, dops_ap, s2, s3, e2, e3]
 refine awp_loop 7 es.length (fun i S H => S 2 = .box 2 0 ∧ S 3 = .box 3 0 ∧ S 6 = .box 6 0 ∧ H 2 = some (sheetL s) ∧ H 3 = some [vI out, .slice .view (es.map endA)] ∧ H 6 = some [.int .i64 (aft es i).1, .int .i64 (aft es i).2] ∧ S 7 = .int .i64 (i : Nat) ∧ S 5 = grow 43 (linesR s out es i)) (fun i S H h => h.2.2.2.2.2.2.1) ⟨by simp [ops_ap, dops_ap, s2], by simp [ops_ap, dops_ap, s3], by simp [ops_ap, dops_ap], by simp [ops_ap, dops_ap, e2], by simp [ops_ap, dops_ap, e3], by simp [ops_ap, dops_ap, aft], by simp [ops_ap, dops_ap], by simp [ops_ap, dops_ap, grow, linesR]⟩ ?_
 clear s2 s3 e2 e3 S H
 rintro i hi S H ⟨s2, s3, s6, e2, e3, e6, s7, s5⟩
 by_cases hlt : i < es.length
 case neg =>
  have hil : i = es.length := by omega
  subst hil
  by_cases h0 : linesR s out es es.length = []
  ·have s5' : S 5 = .slice .nil [] := by rw [s5, h0]; rfl
   simp [ops_ap, dops_ap, s2, s3, s6, e2, e3, e6, s7, s5', h0]
  ·have s5' : S 5 = .slice (.own 43) (linesR s out es es.length) := by rw [s5]; simp [grow, h0]
   simp [ops_ap, dops_ap, s2, s3, s6, e2, e3, e6, s7, s5', h0]
 obtain ⟨g1, g2, g3, g4, g5⟩ := g.one i hlt
 obtain ⟨a, ha⟩ : ∃ a : Nat, es[i].1 = a := ⟨es[i].1.toNat, by omega⟩
 obtain ⟨b, hb⟩ : ∃ b : Nat, es[i].2 = b := ⟨es[i].2.toNat, by omega⟩
 have hE : es[i] = ((a : Int), (b : Int)) := Prod.ext ha hb
 have hnE : nE es[i] = (a, b) := by rw [hE]; rfl
 have hnE2 : nE ((a : Int), (b : Int)) = (a, b) := rfl
 have hal : a < s.words.length := by omega
 rw [ha] at g3 g5
 rw [hb] at g4 g5
 rw [Int.toNat_natCast] at g5
 have hw : IntKind.i64.wrap ((i : Int) + 1) = i + 1 := wrapI (by omega)
 have hale := aft_le g hlt
 rw [hnE] at hale
 have haft : (aft es i).2 ≤ lenW s (aft es i).1 := by
  cases i with
  | zero => exact Nat.zero_le _
  | succ j =>
   rw [aft_get (by omega)]
   have := g.one j (by omega)
   show es[j].2.toNat ≤ lenW s es[j].1.toNat; omega
 have a85 := ac85 hG s hs out ho (aft es i) (a, b) hal (by show b ≤ lenW s a; omega) hale haft g3
 have hrow : rowI s out es i = rowG s out (aft es i) (a, b) := by rw [rowI_eq hlt, hnE]
 have hcut : cutI s es i = decide (b < lenW s a) := by
  rw [cutI_eq hlt, hE]
  show decide ((b : Int) < (lenW s (a : Int).toNat : Int)) = _
  rw [Int.toNat_natCast, decide_eq_decide]; omega
 have hrr : refRow s out es i = withH ((rowG s out (aft es i) (a, b)).map (letS s)) (decide (b < lenW s a)) a := by
  unfold refRow
  rw [hrow, hcut, List.getElem?_eq_getElem hlt, hE]
 simp only at a85
 rw [← hrr] at a85
 simp [s2, s3, s6, e2, e3, e6, s7, s5, hlt, hE, endA, sheetL]
 refine ⟨_, by kernel_rfl, a85, by simp [boxy], ?_⟩
 have hok1 : elemsOK 1 [AV.slice .view ((refRow s out es i).map ltA)] = true := rfl
 simp [s2, s3, s6, e2, e3, e6, s7, s5, hok1]
 refine dops_app (linesR s out es i) (.slice .view ((refRow s out es i).map ltA)) (.own 43) (by simp [grow]) (by simp) rfl (linesR_ok _ _ _ _) (by rw [linesR_len]; omega) ?_
 intro S' sd hk'
 simp [sd, hk', s2, s3, s6, e2, e3, e6, s7, hlt, hw, hE, endA, aft_get hlt, hnE2, linesR_succ, sheetL, grow]
theorem refRow_last {s : Sheet} {out : List Int} {es : List End} {st : Int} (hs : sheetI s = true) (g : Good s out es) {i : Nat} (h : i < es.length) : endP s st (refRow s out es i) = wideI s out es st i := by
 have hne := rowL_ne g h
 have hl := rowI_last g h
 unfold refRow wideI
 rw [List.getElem?_eq_getElem h]
 refine wideP_eq hne ?_ fun p hp => ((sheetF hs).pairs p hp).2.1
 have h1 := g.one i h
 have hlen : (rowI s out es i).length ≠ 0 := by simpa using hne
 rw [List.getLast?_eq_getElem?, List.getElem?_eq_getElem (by omega)] at hl
 have hl := Option.some.inj hl
 have e : ((rowI s out es i).map (letS s))[((rowI s out es i).map (letS s)).length - 1]'(by rw [List.length_map]; omega) = letS s ((nE es[i]).1, (nE es[i]).2 - 1) := by
  rw [List.getElem_map, ← hl]
  simp
 rw [e]
 show ((es[i].1.toNat : Nat) : Int) = es[i].1
 omega
theorem refRow_ne {s : Sheet} {out : List Int} {es : List End} (g : Good s out es) {i : Nat} (h : i < es.length) : refRow s out es i ≠ [] := by
 have hne := rowL_ne g h
 unfold refRow withH
 split
 ·simp
 ·exact hne
theorem refRow_len {s : Sheet} {out : List Int} {es : List End} (hs : sheetI s = true) (g : Good s out es) (i : Nat) : (refRow s out es i).length ≤ 25 := by
 have := rowI_len hs g i
 unfold refRow withH
 split <;> simp <;> omega
theorem refRow_ok {s : Sheet} {out : List Int} {es : List End} (hs : sheetI s = true) (g : Good s out es) (i : Nat) : ∀ a ∈ refRow s out es i, okH s a := by
 intro a ha
 unfold refRow withH at ha
 split at ha
 ·rcases List.mem_append.1 ha with ha | ha
  ·exact .inr (rowL_ok hs g a ha)
  ·rw [List.mem_singleton] at ha; subst ha; exact .inl (by show (-1 : Int) < 0; omega)
 ·exact .inr (rowL_ok hs g a ha)
set_option maxHeartbeats 1000000 in
theorem ac66 (hG : Stable GI) (s : Sheet) (hs : Slim s) (hsh : sheetI s = true) (out : List Int) (ho : out.length < 1000000) (es : List End) (he : es.length < 100000) (hne : es ≠ []) (g : Good s out es) {st : Int} (h0 : 0 ≤ st) (h1 : st ≤ 10) : AC prog GI 66 [sheetA s, settingA out es, .int .i64 st] (.ret (vI (widthsI s out es st))) := by
 have hF := sheetF hsh
 refine AC.of_body hG hmix func66 rfl ntmps66 (by simp) (ac := c66) (by kernel_rfl) ?_
 refine awp_cut (fun S H => S 3 = .box 3 0 ∧ S 4 = .box 4 0 ∧ S 2 = .int .i64 st ∧ H 3 = some (sheetL s) ∧ H 4 = some [vI out, .slice .view (es.map endA)]) (by simp [ops_ap, dops_ap, sheetA, sheetL, settingA, endsA]) ?_
 rintro S H ⟨s3, s4, s2, e3, e4⟩
 simp [ops_ap, dops_ap, s2, s3, s4, e3, e4, sheetL]
 refine ⟨_, by kernel_rfl, ac27 hG s hsh out ho es he g, by simp [boxy], ?_⟩
 simp [ops_ap, dops_ap, s2, s3, s4, e3, e4, linesR_len]
 refine awp_loop 9 es.length (fun i S H => S 2 = .int .i64 st ∧ S 3 = .box 3 0 ∧ H 3 = some (sheetL s) ∧ S 7 = .slice .view (linesR s out es es.length) ∧ S 9 = .int .i64 (i : Nat) ∧ S 8 = intsG ((widthsI s out es st).take i)) (fun i S H h => h.2.2.2.2.1) ⟨by simp [ops_ap, dops_ap, s2], by simp [ops_ap, dops_ap, s3], by simp [ops_ap, dops_ap, e3, sheetL], by simp [ops_ap, dops_ap], by simp [ops_ap, dops_ap], by simp [ops_ap, dops_ap, intsG, grow]⟩ ?_
 clear s2 s3 s4 e3 e4 S H
 rintro i hi S H ⟨s2, s3, e3, s7, s9, s8⟩
 by_cases hlt : i < es.length
 case neg =>
  have hil : i = es.length := by omega
  subst hil
  rw [List.take_of_length_le (by rw [widthsI_len]; exact Nat.le_refl _)] at s8
  have hwn : widthsI s out es st ≠ [] := by
   intro e; have := widthsI_len s out es st; rw [e] at this
   have := List.length_pos_iff.2 hne
   simp at *; omega
  rcases intsG_form (widthsI s out es st) with ⟨_, hg⟩ | hg
  ·exact absurd hg hwn
  ·rw [hg] at s8
   simp [ops_ap, dops_ap, s2, s3, e3, s7, s9, s8, linesR_len]
 have hw : IntKind.i64.wrap ((i : Int) + 1) = i + 1 := wrapI (by omega)
 have hln := linesR_get s out es hlt
 have hend := refRow_last (st := st) hsh g hlt
 have hrn := refRow_ne g hlt
 have hrl := refRow_len hsh g i
 have a95 := ac95 hG s hs hF hrn (by omega) (refRow_ok hsh g i) h0 h1
 have hok1 : elemsOK 1 [AV.int .i64 (wideI s out es st i)] = true := rfl
 rw [widthsI_take hlt]
 have hlen : ((widthsI s out es st).take i).length < 1000000 := by rw [List.length_take]; omega
 generalize (widthsI s out es st).take i = L at s8 hlen ⊢
 have hbl : (begL s st (refRow s out es i)).length = (refRow s out es i).length + 1 := by unfold begL; simp
 have hbg : (begL s st (refRow s out es i))[(refRow s out es i).length]'(by omega) = wideI s out es st i := by
  unfold begL
  rw [List.getElem_append_right (by simp)]
  simp [hend]
 have hwb : IntKind.i64.wrap ((refRow s out es i).length : Int) = (refRow s out es i).length := wrapI (by omega)
 simp [s2, s3, e3, s7, s9, s8, hlt, linesR_getE, linesR_len, sheetL]
 refine ⟨_, by kernel_rfl, a95, by simp [boxy], ?_⟩
 have hbq : (begL s st (refRow s out es i))[(refRow s out es i).length]? = some (wideI s out es st i) := by rw [List.getElem?_eq_getElem (by omega), hbg]
 clear hbg hend a95
 generalize begL s st (refRow s out es i) = B at hbl hbq ⊢
 generalize (refRow s out es i).length = n at hbl hbq hrl hwb
 have hnl : n < B.length := by omega
 have hbg : B[n] = wideI s out es st i := by rw [List.getElem?_eq_getElem hnl] at hbq; exact Option.some.inj hbq
 simp [s2, s3, e3, s7, s9, s8, hbl, hwb, hnl, hbg, hok1]
 refine aops_app (L.map (AV.int .i64)) (AV.int .i64 (wideI s out es st i)) (.own 3) (by simp [s8, intsG, grow]) (by simp) rfl (ints_ok1 _) (by rw [List.length_map]; omega) ?_
 intro S' sd hk'
 simp [sd, hk', s2, s3, e3, s7, s9, hlt, hw, intsG, sheetL]
end Go.Proofs.Tryz
namespace Go.Proofs.Tryz
open Go Go.AL Go.RowKit Go.Proofs
attribute [local simp] awp_all qs_all ops_allN dops_allN ops_nil dops_nil ops_call ops_callv ops_alloc ops_box dops_call dops_alloc kO_eq kD_eq awanted apure ev Eff.S Eff.H tmpOf upd putD AL.start AV.dem AV.cells AV.storable AV.scells splice scrub abin loadA HR.okB post ares aress ares1 AV.out AV.isData ints_len ints_get fz fz1 AV.vw AV.vw1 boxy vI int undefA assignQ thenQ blockQ seqQ panQ prol prolH allocOf
variable {GI : World → Prop}
def rowP (s : Sheet) (out : List Int) (es : List End) (st : Int) (i : Nat) : List Int := (List.range (rowI s out es i).length).map (posL s st ((rowI s out es i).map (letS s)))
def placesI (s : Sheet) (out : List Int) (es : List End) (st : Int) (n : Nat) : List (List Int) := (List.range n).map (rowP s out es st)
theorem placesI_succ (s : Sheet) (out : List Int) (es : List End) (st : Int) (n : Nat) : placesI s out es st (n + 1) = placesI s out es st n ++ [rowP s out es st n] := by
 unfold placesI; rw [List.range_succ, List.map_append]; rfl
theorem placesI_len (s : Sheet) (out : List Int) (es : List End) (st : Int) (n : Nat) : (placesI s out es st n).length = n := by unfold placesI; simp
theorem vI_ok1 (l : List (List Int)) : elemsOK 1 (l.map vI) = true := elems_map fun a => ⟨rfl, rfl⟩
theorem ac25_no (hG : Stable GI) (s : Sheet) (hs : Slim s) (out : List Int) (ho : out.length < 1000000) (es : List End) (he : es.length < 1000000) (st : Int) (hno : (sheetI s && setP s out es && inI st 0 10) = false) : AC prog GI 25 [sheetA s, settingA out es, .int .i64 st] (.ret (.tup [.slice .view [], .int .i64 2])) := by
 refine AC.of_body hG hmix func25 rfl ntmps25 (by simp) (ac := c25) (by kernel_rfl) ?_
 refine awp_cut (fun S H => S 3 = .box 3 0 ∧ S 4 = .box 4 0 ∧ S 2 = .int .i64 st ∧ H 3 = some (sheetL s) ∧ H 4 = some [vI out, .slice .view (es.map endA)]) (by simp [ops_ap, dops_ap, sheetA, sheetL, settingA, endsA]) ?_
 rintro S H ⟨s3, s4, s2, e3, e4⟩
 simp [ops_ap, dops_ap, s2, s3, s4, e3, e4, sheetL]
 refine ⟨_, by kernel_rfl, ac79 hG s hs out ho es he st, fun _ => rfl, ?_⟩
 rw [hno]
 simp [ops_ap, dops_ap]
set_option maxHeartbeats 2000000 in
theorem ac25_ok (hG : Stable GI) (s : Sheet) (hs : Slim s) (hsh : sheetI s = true) (out : List Int) (ho : out.length < 1000000) (es : List End) (he : es.length < 100000) (hset : setR s out es = true) {st : Int} (h0 : 0 ≤ st) (h1 : st ≤ 10) : AC prog GI 25 [sheetA s, settingA out es, .int .i64 st] (.ret (.tup [.slice .view ((placesI s out es st es.length).map vI), .int .i64 0])) := by
 have g := good_of hsh hset
 have hF := sheetF hsh
 have hin : inI st 0 10 = true := by simp [inI, h0, h1]
 have hne : es ≠ [] := (setR_parts hset).2.1
 have hyes : (sheetI s && setP s out es && inI st 0 10) = true := by rw [hsh, setP_eq (sheet_cuts hsh), hset, hin]; rfl
 refine AC.of_body hG hmix func25 rfl ntmps25 (by simp) (ac := c25) (by kernel_rfl) ?_
 refine awp_cut (fun S H => S 3 = .box 3 0 ∧ S 4 = .box 4 0 ∧ S 2 = .int .i64 st ∧ H 3 = some (sheetL s) ∧ H 4 = some [vI out, .slice .view (es.map endA)]) (by simp [ops_ap, dops_ap, sheetA, sheetL, settingA, endsA]) ?_
 rintro S H ⟨s3, s4, s2, e3, e4⟩
 simp [ops_ap, dops_ap, s2, s3, s4, e3, e4, sheetL]
 refine ⟨_, by kernel_rfl, ac79 hG s hs out ho es (by omega) st, fun _ => rfl, ?_⟩
 rw [hyes]
 simp [ops_ap, dops_ap, s2, s3, s4, e3, e4, sheetL]
 refine ⟨_, by kernel_rfl, ac80f hG s hsh, by simp [boxy], ?_⟩
 simp [ops_ap, dops_ap, s2, s3, s4, e3, e4, frontA, frontL, sheetL, spaces]
 refine ⟨_, by kernel_rfl, ac81 hG s hsh out ho es he g, by simp [boxy], ?_⟩
 simp [ops_ap, dops_ap, s2, s3, s4, e3, e4, linesL_len]
 refine awp_loop 28 es.length (fun i S H => S 2 = .int .i64 st ∧ S 8 = .box 8 0 ∧ H 8 = some (frontL s) ∧ S 26 = .slice .view (linesL s out es es.length) ∧ S 27 = .int .i64 es.length ∧ S 28 = .int .i64 (i : Nat) ∧ S 9 = grow 22 ((placesI s out es st i).map vI)) (fun i S H h => h.2.2.2.2.2.1) ⟨by simp [ops_ap, dops_ap, s2], by simp [ops_ap, dops_ap], by simp [ops_ap, dops_ap, frontL, sheetL, spaces], by simp [ops_ap, dops_ap], by simp [ops_ap, dops_ap], by simp [ops_ap, dops_ap], by simp [ops_ap, dops_ap, placesI, grow]⟩ ?_
 clear s2 s3 s4 e3 e4 S H
 rintro i hi S H ⟨s2, s8, e8, s26, s27, s28, s9⟩
 by_cases hlt : i < es.length
 case neg =>
  have hil : i = es.length := by omega
  subst hil
  have hwn : placesI s out es st es.length ≠ [] := by
   intro e; have := placesI_len s out es st es.length; rw [e] at this
   have := List.length_pos_iff.2 hne
   simp at *; omega
  have s9' : S 9 = .slice (.own 22) ((placesI s out es st es.length).map vI) := by rw [s9]; simp [grow, hwn]
  simp [ops_ap, dops_ap, s2, s8, e8, s26, s27, s28, s9']
 have hw : IntKind.i64.wrap ((i : Int) + 1) = i + 1 := wrapI (by omega)
 have hln : (linesL s out es es.length)[i]? = some (.agg [.slice .view ((rowI s out es i).map gA), .bool (cutI s es i)]) := by
  unfold linesL
  rw [List.getElem?_map, List.getElem?_range hlt]; rfl
 have hrl := rowI_len hsh g i
 have hrn := rowI_ne g hlt
 have hmem : ∀ x ∈ rowI s out es i, InS s x := fun x hx => rowI_mem g hx
 have hpl := placesI_succ s out es st i
 have hrp : rowP s out es st i = (List.range (rowI s out es i).length).map (posL s st ((rowI s out es i).map (letS s))) := rfl
 have hplen := placesI_len s out es st i
 rw [hpl]
 clear hpl
 generalize hP : placesI s out es st i = P at s9 hplen ⊢
 generalize hR : rowP s out es st i = R at hrp ⊢
 generalize cutI s es i = cut at hln
 generalize rowI s out es i = l at hrl hrn hmem hrp hln
 simp [s2, s8, e8, s26, s27, s28, s9, hlt, hln]
 refine awp_loop 35 l.length (fun k S H => S 2 = .int .i64 st ∧ S 8 = .box 8 0 ∧ H 8 = some (frontL s) ∧ S 26 = .slice .view (linesL s out es es.length) ∧ S 27 = .int .i64 es.length ∧ S 28 = .int .i64 (i : Nat) ∧ S 9 = grow 22 (P.map vI) ∧ S 11 = .box 11 0 ∧ H 11 = some [.slice .view (l.map gA), .bool cut] ∧ S 33 = .slice .view (l.map gA) ∧ S 34 = .int .i64 l.length ∧ S 35 = .int .i64 (k : Nat) ∧ S 12 = intsG ((List.range k).map (posL s st (l.map (letS s))))) (fun k S H h => h.2.2.2.2.2.2.2.2.2.2.2.1)
  ⟨by simp [ops_ap, dops_ap, s2], by simp [ops_ap, dops_ap, s8], by simp [ops_ap, dops_ap, e8, frontL, sheetL, spaces], by simp [ops_ap, dops_ap, s26], by simp [ops_ap, dops_ap, s27], by simp [ops_ap, dops_ap, s28], by simp [ops_ap, dops_ap, s9, grow], by simp [ops_ap, dops_ap], by simp [ops_ap, dops_ap], by simp [ops_ap, dops_ap], by simp [ops_ap, dops_ap], by simp [ops_ap, dops_ap], by simp [ops_ap, dops_ap, intsG, grow]⟩ ?_
 clear s2 s8 e8 s26 s27 s28 s9 S H
 rintro k hk S H ⟨s2, s8, e8, s26, s27, s28, s9, s11, e11, s33, s34, s35, s12⟩
 by_cases hkl : k < l.length
 case neg =>
  have hkl' : k = l.length := by omega
  subst hkl'
  rw [← hrp] at s12
  have hRn : R ≠ [] := by rw [hrp]; simpa using hrn
  have s12' : S 12 = .slice (.own 3) (ints R) := by
   rcases intsG_form R with ⟨_, hg⟩ | hg
   ·exact absurd hg hRn
   ·rw [hg] at s12; exact s12
  have hok1 : elemsOK 1 [vI R] = true := rfl
  simp [s2, s8, e8, s26, s27, s28, s9, s11, e11, s33, s34, s35, s12', hok1]
  refine aops_app (P.map vI) (vI R) (.own 22) (by simp [s9, grow]) (by simp) hok1 (vI_ok1 _) (by rw [List.length_map]; omega) ?_
  intro S' sd hk'
  simp [sd, hk', s2, s8, e8, s26, s27, s28, hlt, hw, frontL, sheetL, spaces, grow]
 have hkw : IntKind.i64.wrap ((k : Int) + 1) = k + 1 := wrapI (by omega)
 have hrs := posR_succ s st (l.map (letS s)) k
 rw [hrs]
 cases k with
 | zero =>
  have s12' : S 12 = .slice .nil [] := by rw [s12]; rfl
  have hok1 : elemsOK 1 [AV.int .i64 0] = true := rfl
  simp [s2, s8, e8, s26, s27, s28, s9, s11, e11, s33, s34, s35, s12', hkl, gA, fillA, hok1]
  refine aops_app [] (AV.int .i64 0) (.own 3) (by simp [grow]) (by simp) hok1 rfl (by simp) ?_
  intro S' sd hk'
  have hkw1 : IntKind.i64.wrap 1 = 1 := wrapI (by omega)
  simp [sd, hk', s2, s8, e8, s26, s27, s28, s9, s11, e11, s33, s34, s35, hkl, hkw1, frontL, sheetL, spaces, grow, intsG, posL]
 | succ m =>
  have hml : m < l.length := by omega
  have hwm : IntKind.i64.wrap (m : Int) = m := wrapI (by omega)
  have hw2 : IntKind.i64.wrap ((m : Int) + 1 + 1) = m + 1 + 1 := wrapI (by omega)
  have hp0 : (0 : Int) < (m : Int) + 1 := by omega
  have hp00 : (0 : Int) ≤ (m : Int) + 1 := by omega
  have hlt' : (m : Int) + 1 < l.length := by omega
  obtain ⟨q, hq⟩ : ∃ q : Nat, (letS s l[m]).2 = q := ⟨(letS s l[m]).2.toNat, by have := (letS_okS hsh (hmem _ (List.getElem_mem hml))).1; omega⟩
  have hql : q < s.widths.length := by have := (letS_okS hsh (hmem _ (List.getElem_mem hml))).2; omega
  have hwd : wdL s (letS s l[m]) = s.widths[q] := by
   unfold wdL
   rw [if_neg (by omega), hq, Int.toNat_natCast, List.getElem?_eq_getElem hql]; rfl
  have hwb := hF.widths _ (List.getElem_mem hql)
  have hlm : (l.map (letS s)).length = l.length := List.length_map ..
  have hps : posL s st (l.map (letS s)) (m + 1) = posL s st (l.map (letS s)) m + s.widths[q] + spc s st (letS s l[m]) (letS s l[m + 1]) := by
   rw [posL_succ (by rw [hlm]; exact hkl), ← hwd]; simp
  have hpb := posH_bounds hF h0 h1 (l := l.map (letS s)) (fun a ha => by
   obtain ⟨x, hx, rfl⟩ := List.mem_map.1 ha
   exact .inr (letS_okS hsh (hmem x hx))) (i := m) (by rw [hlm]; exact hml)
  have hsb := spc_bounds hF h0 h1 (letS s l[m]) (letS s l[m + 1])
  have hm40 : (40 * m : Nat) ≤ 1000 := by omega
  have hA : ((List.range (m + 1)).map (posL s st (l.map (letS s))))[m]? = some (posL s st (l.map (letS s)) m) := by simp
  have hLl : ((List.range (m + 1)).map (posL s st (l.map (letS s)))).length = m + 1 := by simp
  generalize hL : (List.range (m + 1)).map (posL s st (l.map (letS s))) = L at s12 hA hLl ⊢
  have hLn : L ≠ [] := by intro e; rw [e] at hLl; simp at hLl
  rw [hps]
  generalize posL s st (l.map (letS s)) m = pm at hpb hA hps ⊢
  obtain ⟨hmL, hA⟩ := List.getElem?_eq_some_iff.1 hA
  have s12' : S 12 = .slice (.own 3) (ints L) := by
   rcases intsG_form L with ⟨_, hg⟩ | hg
   ·exact absurd hg hLn
   ·rw [hg] at s12; exact s12
  have hwa : IntKind.i64.wrap (pm + s.widths[q]) = pm + s.widths[q] := wrapI (by omega)
  have hwc : IntKind.i64.wrap (pm + s.widths[q] + spc s st (letS s l[m]) (letS s l[m + 1])) = pm + s.widths[q] + spc s st (letS s l[m]) (letS s l[m + 1]) := wrapI (by omega)
  generalize hN : pm + s.widths[q] + spc s st (letS s l[m]) (letS s l[m + 1]) = N at hwc ⊢
  have hok1 : elemsOK 1 [AV.int .i64 N] = true := rfl
  simp [s2, s8, e8, s26, s27, s28, s9, s11, e11, s33, s34, s35, s12', hkl, gA, fillA, frontL, sheetL, spaces, hwm, hp0, hp00, hml, hlt', hmL, hA]
  refine ⟨_, by kernel_rfl, ac82 hG s (hmem _ (List.getElem_mem hml)), by simp [boxy], ?_⟩
  simp [s2, s8, e8, s26, s27, s28, s9, s11, e11, s33, s34, s35, hq, hql, frontL, sheetL, spaces, hwa]
  refine ⟨_, by kernel_rfl, ac83 hG s hF (hmem _ (List.getElem_mem hml)) (hmem _ (List.getElem_mem hkl)) h0 h1, by simp [boxy], ?_⟩
  simp [s2, s8, e8, s26, s27, s28, s9, s11, e11, s33, s34, s35, hN, hwc, hok1]
  refine aops_app (L.map (AV.int .i64)) (AV.int .i64 N) (.own 3) (by simp [s12, intsG, grow]) (by simp) hok1 (ints_ok1 _) (by rw [List.length_map]; omega) ?_
  intro S' sd hk'
  simp [sd, hk', s2, s8, e8, s26, s27, s28, s9, s11, e11, s33, s34, s35, hkl, hlt', hw2, frontL, sheetL, spaces, grow, intsG]
end Go.Proofs.Tryz
namespace Go.Proofs.Tryz
open Go Go.AL Go.RowKit Go.Proofs
attribute [local simp] awp_all qs_all ops_allN dops_allN ops_nil dops_nil ops_call ops_callv ops_alloc ops_box dops_call dops_alloc kO_eq kD_eq awanted apure ev Eff.S Eff.H tmpOf upd putD AL.start AV.dem AV.cells AV.storable AV.scells splice scrub abin loadA HR.okB post ares aress ares1 AV.out AV.isData ints_len ints_get fz fz1 AV.vw AV.vw1 boxy vI int undefA assignQ thenQ blockQ seqQ panQ prol prolH allocOf
variable {GI : World → Prop}
theorem foldl_take {l : List Int} {i : Nat} (h : i < l.length) : maxL (l.take (i + 1)) = max (maxL (l.take i)) l[i] := by
 unfold maxL
 rw [List.take_succ_eq_append_getElem h, List.foldl_append]; rfl
theorem ac94 (hG : Stable GI) (l : List Int) (hl : l.length < 1000000) : AC prog GI 94 [vI l] (.ret (.int .i64 (maxL l))) := by
 refine AC.of_body hG hmix func94 rfl ntmps94 (by simp) (ac := c94) (by kernel_rfl) ?_
 simp [c94, ops_ap, dops_ap]
 refine awp_loop 4 l.length (fun i S H => S 0 = vI l ∧ S 4 = .int .i64 (i : Nat) ∧ S 3 = .int .i64 (maxL (l.take i))) (fun i S H h => h.2.1) ⟨by simp [ops_ap, dops_ap], by simp [ops_ap, dops_ap], by simp [ops_ap, dops_ap, maxL]⟩ ?_
 rintro i hi S H ⟨s0, s4, s3⟩
 by_cases hlt : i < l.length
 ·have hw : IntKind.i64.wrap ((i : Int) + 1) = i + 1 := wrapI (by omega)
  rw [foldl_take hlt]
  simp [ops_ap, dops_ap, s0, s4, s3, hlt, hw]
 ·have hil : i = l.length := by omega
  subst hil
  simp [ops_ap, dops_ap, s0, s4, s3]
theorem fitI_max {s : Sheet} (hw : 0 ≤ s.wide) {out : List Int} {es : List End} {st : Int} : fitI s out es st = (decide ((es.length : Int) ≤ s.rows) && decide (maxL (widthsI s out es st) ≤ s.wide)) := by
 unfold fitI
 congr 1
 rw [Bool.eq_iff_iff]
 simp [maxL_le hw]
theorem ac36 (hG : Stable GI) (s : Sheet) (hs : Slim s) (hsh : sheetI s = true) (out : List Int) (ho : out.length < 1000000) (es : List End) (he : es.length < 100000) (hset : setR s out es = true) {st : Int} (h0 : 0 ≤ st) (h1 : st ≤ 10) : AC prog GI 36 [sheetA s, settingA out es, .int .i64 st] (.ret (.bool (fitI s out es st))) := by
 rw [fitI_max (by have := (sheetF hsh).wide; omega)]
 refine AC.of_body hG hmix func36 rfl ntmps36 (by simp) (ac := c36) (by kernel_rfl) ?_
 refine awp_cut (fun S H => S 3 = .box 3 0 ∧ S 4 = .box 4 0 ∧ S 2 = .int .i64 st ∧ H 3 = some (sheetL s) ∧ H 4 = some [vI out, .slice .view (es.map endA)]) (by simp [ops_ap, dops_ap, sheetA, sheetL, settingA, endsA]) ?_
 rintro S H ⟨s3, s4, s2, e3, e4⟩
 by_cases hr : (es.length : Int) ≤ s.rows
 case neg => simp [ops_ap, dops_ap, s2, s3, s4, e3, e4, sheetL, hr]
 simp [ops_ap, dops_ap, s2, s3, s4, e3, e4, sheetL, hr]
 refine ⟨_, by kernel_rfl, ac66 hG s hs hsh out ho es he (setR_parts hset).2.1 (good_of hsh hset) h0 h1, by simp [boxy], ?_⟩
 simp [ops_ap, dops_ap, s2, s3, s4, e3, e4, sheetL, hr]
 refine ⟨_, by kernel_rfl, ac94 hG _ (by rw [widthsI_len]; omega), by simp [boxy], ?_⟩
 simp [ops_ap, dops_ap, s2, s3, s4, e3, e4, sheetL, hr]
theorem downL_down2 {p : Int → Bool} : ∀ {n i : Nat}, i ≤ n → (∀ k : Nat, i ≤ k → k < n → p k = false) → downL p n = downL p i
 | 0, i, h, _ => by rw [show i = 0 by omega]
 | n + 1, i, h, hp => by
  by_cases e : i = n + 1
  ·rw [e]
  ·rw [downL, hp n (by omega) (by omega)]
   exact downL_down2 (by omega) fun k h1 h2 => hp k h1 (by omega)
theorem ac35 (hG : Stable GI) (s : Sheet) (hs : Slim s) (hsh : sheetI s = true) (out : List Int) (ho : out.length < 1000000) (es : List End) (he : es.length < 100000) (hset : setR s out es = true) : AC prog GI 35 [sheetA s, settingA out es] (.ret (.int .i64 (mostI s out es))) := by
 refine AC.of_body hG hmix func35 rfl ntmps35 (by simp) (ac := c35) (by kernel_rfl) ?_
 refine awp_cut (fun S H => S 2 = .box 2 0 ∧ S 3 = .box 3 0 ∧ H 2 = some (sheetL s) ∧ H 3 = some [vI out, .slice .view (es.map endA)]) (by simp [ops_ap, dops_ap, sheetA, sheetL, settingA, endsA]) ?_
 rintro S H ⟨s2, s3, e2, e3⟩
 simp [ops_ap, dops_ap, s2, s3, e2, e3]
 refine awp_loopD 5 11 (fun i S H => i ≤ 11 ∧ S 2 = .box 2 0 ∧ S 3 = .box 3 0 ∧ H 2 = some (sheetL s) ∧ H 3 = some [vI out, .slice .view (es.map endA)] ∧ S 5 = .int .i64 ((i : Nat) - 1) ∧ ∀ k : Nat, i ≤ k → k < 11 → fitI s out es k = false) (fun i S H h => h.2.2.2.2.2.1) ⟨by omega, by simp [ops_ap, dops_ap, s2], by simp [ops_ap, dops_ap, s3], by simp [ops_ap, dops_ap, e2], by simp [ops_ap, dops_ap, e3], by simp [ops_ap, dops_ap], fun k h1 h2 => by omega⟩ ?_
 clear s2 s3 e2 e3 S H
 rintro i hi S H ⟨_, s2, s3, e2, e3, s5, hb⟩
 have hm := downL_down2 (p := fitI s out es) hi hb
 cases i with
 | zero =>
  have hm : mostI s out es = -1 := hm
  simp [ops_ap, dops_ap, s2, s3, e2, e3, s5, hm]
 | succ m =>
  have hm : mostI s out es = if fitI s out es m then (m : Int) else downL (fitI s out es) m := hm
  have s5' : S 5 = .int .i64 (m : Nat) := by rw [s5]; congr 1; omega
  have hwm : IntKind.i64.wrap ((m : Int) - 1) = m - 1 := wrapI (by omega)
  simp [ops_ap, dops_ap, s2, s3, e2, e3, s5', sheetL]
  refine ⟨_, by kernel_rfl, ac36 hG s hs hsh out ho es he hset (by omega) (by omega), by simp [boxy], ?_⟩
  cases hf : fitI s out es m
  ·simp [ops_ap, dops_ap, s2, s3, e2, e3, s5', sheetL, hwm]
   refine ⟨by omega, fun k h1 h2 => ?_⟩
   by_cases e : k = m
   ·subst e; exact hf
   ·exact hb k (by omega) h2
  ·rw [hf] at hm
   simp at hm
   simp [ops_ap, dops_ap, s2, s3, e2, e3, s5', sheetL, hm]
theorem ac37 (hG : Stable GI) (l : List (List Int)) (hl : l.length < 1000000) (h : ∀ x ∈ l, x.length < 1000000) : AC prog GI 37 [.slice .view (l.map vI), .slice .view (l.map vI)] (.ret (.bool true)) := by
 refine AC.of_body hG hmix func37 rfl ntmps37 (by simp) (ac := c37) (by kernel_rfl) ?_
 simp [c37, ops_ap, dops_ap]
 refine awp_loop 5 l.length (fun i S H => S 0 = .slice .view (l.map vI) ∧ S 1 = .slice .view (l.map vI) ∧ S 5 = .int .i64 (i : Nat)) (fun i S H h => h.2.2) ⟨by simp [ops_ap, dops_ap], by simp [ops_ap, dops_ap], by simp [ops_ap, dops_ap]⟩ ?_
 rintro i hi S H ⟨s0, s1, s5⟩
 by_cases hlt : i < l.length
 ·have hw : IntKind.i64.wrap ((i : Int) + 1) = i + 1 := wrapI (by omega)
  simp [ops_ap, dops_ap, s0, s1, s5, hlt]
  refine ⟨_, by kernel_rfl, ac52 hG l[i] l[i] (h _ (List.getElem_mem hlt)), fun _ => rfl, ?_⟩
  simp [ops_ap, dops_ap, s0, s1, s5, hlt, hw]
 ·have hil : i = l.length := by omega
  subst hil
  simp [ops_ap, dops_ap, s0, s1, s5]
theorem take_begins {s : Sheet} {st : Int} {L : List Lt} {cut : Bool} {w : Int} : (begL s st (withH L cut w)).take L.length = (List.range L.length).map (posL s st L) := by
 unfold begL
 have hl : L.length ≤ (withH L cut w).length := by unfold withH; split <;> simp
 rw [List.take_append_of_le_length (by simpa using hl)]
 apply List.ext_getElem
 ·simp; omega
 ·intro i h1 h2
  simp at h1 h2
  simp
  unfold withH
  split
  ·exact posL_append h2
  ·rfl
theorem begL_len (s : Sheet) (st : Int) (l : List Lt) : (begL s st l).length = l.length + 1 := by unfold begL; simp
set_option maxHeartbeats 2000000 in
theorem ac38 (hG : Stable GI) (s : Sheet) (hs : Slim s) (hsh : sheetI s = true) (out : List Int) (ho : out.length < 1000000) (es : List End) (he : es.length < 100000) (hset : setR s out es = true) {st : Int} (h0 : 0 ≤ st) (h1 : st ≤ 10) : AC prog GI 38 [sheetA s, settingA out es, .int .i64 st] (.ret (.slice .view ((placesI s out es st es.length).map vI))) := by
 have hF := sheetF hsh
 have g := good_of hsh hset
 have hne : es ≠ [] := (setR_parts hset).2.1
 refine AC.of_body hG hmix func38 rfl ntmps38 (by simp) (ac := c38) (by kernel_rfl) ?_
 refine awp_cut (fun S H => S 3 = .box 3 0 ∧ S 4 = .box 4 0 ∧ S 2 = .int .i64 st ∧ H 3 = some (sheetL s) ∧ H 4 = some [vI out, .slice .view (es.map endA)]) (by simp [ops_ap, dops_ap, sheetA, sheetL, settingA, endsA]) ?_
 rintro S H ⟨s3, s4, s2, e3, e4⟩
 simp [ops_ap, dops_ap, s2, s3, s4, e3, e4, sheetL]
 refine ⟨_, by kernel_rfl, ac27 hG s hsh out ho es he g, by simp [boxy], ?_⟩
 simp [ops_ap, dops_ap, s2, s3, s4, e3, e4]
 refine awp_loop 9 es.length (fun i S H => S 2 = .int .i64 st ∧ S 3 = .box 3 0 ∧ H 3 = some (sheetL s) ∧ S 7 = .slice .view (linesR s out es es.length) ∧ S 9 = .int .i64 (i : Nat) ∧ S 8 = grow 22 ((placesI s out es st i).map vI)) (fun i S H h => h.2.2.2.2.1) ⟨by simp [ops_ap, dops_ap, s2], by simp [ops_ap, dops_ap, s3], by simp [ops_ap, dops_ap, e3, sheetL], by simp [ops_ap, dops_ap], by simp [ops_ap, dops_ap], by simp [ops_ap, dops_ap, placesI, grow]⟩ ?_
 clear s2 s3 s4 e3 e4 S H
 rintro i hi S H ⟨s2, s3, e3, s7, s9, s8⟩
 have hlen3 := linesR_len s out es es.length
 by_cases hlt : i < es.length
 case neg =>
  have hil : i = es.length := by omega
  subst hil
  have hwn : placesI s out es st es.length ≠ [] := by
   intro e; have := placesI_len s out es st es.length; rw [e] at this
   have := List.length_pos_iff.2 hne
   simp at *; omega
  have s8' : S 8 = .slice (.own 22) ((placesI s out es st es.length).map vI) := by rw [s8]; simp [grow, hwn]
  simp [ops_ap, dops_ap, s2, s3, e3, s7, s9, s8', hlen3]
 have hw : IntKind.i64.wrap ((i : Int) + 1) = i + 1 := wrapI (by omega)
 have hln := linesR_get s out es hlt
 obtain ⟨hlnl, hln⟩ := List.getElem?_eq_some_iff.1 hln
 have hrn := refRow_ne g hlt
 have hrl := refRow_len hsh g i
 have hro := refRow_ok hsh g i
 have hLn := rowL_ne g hlt
 have hLo := rowL_ok hsh g (i := i)
 have hP : rowP s out es st i = (begL s st (refRow s out es i)).take ((rowI s out es i).map (letS s)).length := by
  unfold refRow rowP
  rw [take_begins, List.length_map]
 have hcut : ∃ w0, refRow s out es i = withH ((rowI s out es i).map (letS s)) (cutI s es i) w0 := ⟨_, rfl⟩
 have a95 := ac95 hG s hs hF hrn (by omega) hro h0 h1
 have hbl := begL_len s st (refRow s out es i)
 have hplen := placesI_len s out es st i
 rw [placesI_succ, hP]
 generalize placesI s out es st i = P at s8 hplen ⊢
 generalize (rowI s out es i).map (letS s) = L at hcut hLn hLo ⊢
 generalize cutI s es i = cut at hcut
 generalize linesR s out es es.length = RA at *
 generalize begL s st (refRow s out es i) = B at a95 hbl ⊢
 generalize refRow s out es i = R at *
 obtain ⟨w0, hR⟩ := hcut
 have hLp := List.length_pos_iff.2 hLn
 have hLz : L.length - 1 < L.length := by omega
 have hRl : R.length = L.length + (if cut then 1 else 0) := by rw [hR]; cases cut <;> simp [withH]
 have hRz : (R.map ltA)[R.length - 1]? = some (ltA (if cut then (w0, -1) else L[L.length - 1])) := by
  rw [hR]
  cases cut
  ·simp [withH, List.getElem?_eq_getElem hLz]
  ·simp [withH]
 have hwr : IntKind.i64.wrap ((R.length : Int) - 1) = (R.length - 1 : Nat) := by rw [wrapI (by omega)]; omega
 have hRp : R.length - 1 < R.length := by omega
 refine awp_cut (fun S H => S 2 = .int .i64 st ∧ S 3 = .box 3 0 ∧ H 3 = some (sheetL s) ∧ S 7 = .slice .view RA ∧ S 9 = .int .i64 (i : Nat) ∧ S 8 = grow 22 (P.map vI)) (by simp [ops_ap, dops_ap, s2, s3, e3, s7, s9, s8, hlen3, hlt]) ?_
 clear s2 s3 e3 s7 s9 s8 S H
 rintro S H ⟨s2, s3, e3, s7, s9, s8⟩
 refine awp_in ?_
 refine awp_cut (fun S H => S 2 = .int .i64 st ∧ S 3 = .box 3 0 ∧ H 3 = some (sheetL s) ∧ S 7 = .slice .view RA ∧ S 9 = .int .i64 (i : Nat) ∧ S 8 = grow 22 (P.map vI) ∧ S 10 = .int .i64 R.length) (by simp [ops_ap, dops_ap, s2, s3, e3, s7, s9, s8, hln, hlnl]) ?_
 clear s2 s3 e3 s7 s9 s8 S H
 rintro S H ⟨s2, s3, e3, s7, s9, s8, s10⟩
 refine awp_cut (fun S H => S 2 = .int .i64 st ∧ S 3 = .box 3 0 ∧ H 3 = some (sheetL s) ∧ S 7 = .slice .view RA ∧ S 9 = .int .i64 (i : Nat) ∧ S 8 = grow 22 (P.map vI) ∧ S 10 = .int .i64 L.length) ?_ ?_
 ·clear hR hP a95
  generalize hRM : R.map ltA = RM at hln hRz
  have hRMl : RM.length = R.length := by rw [← hRM]; simp
  cases cut with
  | false =>
   simp at hRl
   rw [hRl] at hwr hRz
   replace hRz := List.getElem?_eq_some_iff.1 hRz
   obtain ⟨hRzl, hRz⟩ := hRz
   obtain ⟨h2, h3⟩ := hLo _ (List.getElem_mem hLz)
   have h2' : ¬ (L[L.length - 1]).2 < 0 := by omega
   simp at hRz
   simp [ops_ap, dops_ap, s2, s3, e3, s7, s9, s8, s10, hln, hlnl, hwr, hRz, hRzl, ltA, h2', hRl]
  | true =>
   simp at hRl
   have hwr' : IntKind.i64.wrap (L.length : Int) = L.length := wrapI (by omega)
   rw [hRl] at hRz
   replace hRz := List.getElem?_eq_some_iff.1 hRz
   obtain ⟨hRzl, hRz⟩ := hRz
   simp at hRz hRzl
   simp [ops_ap, dops_ap, s2, s3, e3, s7, s9, s8, s10, hln, hlnl, hwr', hRz, hRzl, ltA, hRl]
 clear s2 s3 e3 s7 s9 s8 s10 S H
 rintro S H ⟨s2, s3, e3, s7, s9, s8, s10⟩
 have hLB : L.length ≤ B.length := by omega
 have hok1 : elemsOK 1 [vI (B.take L.length)] = true := rfl
 have hokB : elemsOK 1 (ints B) = true := ints_ok1 B
 simp [s2, s3, e3, s7, s9, s8, s10, hln, hlnl, sheetL]
 refine ⟨_, by kernel_rfl, a95, by simp [boxy], ?_⟩
 simp [s2, s3, e3, s7, s9, s8, s10, hLB, hok1, bound, hokB]
 refine dops_app (P.map vI) (vI (B.take L.length)) (.own 22) (by simp [s8, grow]) (by simp [ints]) hok1 (vI_ok1 _) (by rw [List.length_map]; omega) ?_
 intro S' sd hk'
 simp [sd, hk', s2, s3, e3, s7, s9, hlt, hw, sheetL, grow]
end Go.Proofs.Tryz
namespace Go.Proofs.Tryz
open Go Go.AL Go.RowKit Go.Proofs
attribute [local simp] awp_all qs_all ops_all dops_all ops_nil dops_nil ops_call ops_callv ops_alloc ops_box dops_call dops_alloc kO_eq kD_eq awanted apure ev Eff.S Eff.H tmpOf upd putD AL.start AV.dem AV.cells AV.storable AV.scells splice scrub abin loadA HR.okB post ares aress ares1 AV.out AV.isData ints_len ints_get fz fz1 AV.vw AV.vw1 boxy vI int undefA assignQ thenQ blockQ seqQ panQ prol prolH allocOf
variable {GI : World → Prop}
theorem rowP_len (s : Sheet) (out : List Int) (es : List End) (st : Int) (i : Nat) : (rowP s out es st i).length = (rowI s out es i).length := by unfold rowP; simp
set_option maxHeartbeats 4000000 in
theorem ac4 (hG : Stable GI) (hML : ML GI) (s : Sheet) (x : List Int × List End) (st : Int) : AC prog GI 4 [sheetA s, settingA x.1 x.2, .int .i64 st] (.ret (.bool true)) := by
 obtain ⟨out, es⟩ := x
 have hk := ac24 hG hML
 refine AC.of_body hG hmix func4 rfl ntmps4 (by simp) (ac := c4) (by kernel_rfl) ?_
 refine awp_cut (fun S H => S 3 = .box 3 0 ∧ S 4 = .box 4 0 ∧ S 2 = .int .i64 st ∧ H 3 = some (sheetL s) ∧ H 4 = some [vI out, .slice .view (es.map endA)]) (by simp [sheetA, sheetL, settingA, endsA]) ?_
 rintro S H ⟨s3, s4, s2, e3, e4⟩
 simp [s2, s3, s4, e3, e4, sheetL]
 refine ⟨_, by kernel_rfl, ac29 hG s, fun _ => rfl, ?_⟩
 cases hsI : shortI s
 ·simp [s2, s3, s4, e3, e4]
  refine ⟨_, by kernel_rfl, hk, fun _ => rfl, ?_⟩
  simp
 simp [s2, s3, s4, e3, e4]
 refine ⟨_, by kernel_rfl, ac30 hG out es, fun _ => rfl, ?_⟩
 cases hxI : slimI out es
 ·simp [s2, s3, s4, e3, e4]
  refine ⟨_, by kernel_rfl, hk, fun _ => rfl, ?_⟩
  simp
 have hs := shortI_slim hsI
 obtain ⟨ho, he⟩ := slimI_len hxI
 simp [s2, s3, s4, e3, e4, sheetL]
 cases hok : sheetI s && setP s out es
 ·refine ⟨_, by kernel_rfl, ac31_no hG s hs out (by omega) es (by omega) st (by rw [hok]; rfl), fun _ => rfl, ?_⟩
  simp [s2, s3, s4, e3, e4, sheetL]
  refine ⟨_, by kernel_rfl, ac32_no hG s hs out (by omega) es (by omega) hok, fun _ => rfl, ?_⟩
  simp [s2, s3, s4, e3, e4, sheetL]
  refine ⟨_, by kernel_rfl, ac25_no hG s hs out (by omega) es (by omega) st (by rw [hok]; rfl), by simp [boxy], ?_⟩
  simp [s2, s3, s4, e3, e4, sheetL]
  refine ⟨_, by kernel_rfl, ac33 hG s hs, fun _ => rfl, ?_⟩
  cases hsh : sheetI s
  ·simp [s2, s3, s4, e3, e4, sheetL]
   refine ⟨_, by kernel_rfl, hk, fun _ => rfl, ?_⟩
   simp
  rw [hsh, Bool.true_and, setP_eq (sheet_cuts hsh)] at hok
  simp [s2, s3, s4, e3, e4, sheetL]
  refine ⟨_, by kernel_rfl, ac34 hG s hs out (by omega) es (by omega), fun _ => rfl, ?_⟩
  rw [hok]
  simp [s2, s3, s4, e3, e4, sheetL]
  refine ⟨_, by kernel_rfl, hk, fun _ => rfl, ?_⟩
  simp
 have hok2 := hok
 rw [Bool.and_eq_true] at hok2
 obtain ⟨hsh, hset⟩ := hok2
 rw [setP_eq (sheet_cuts hsh)] at hset
 have a32 := ac32_ok hG s hs hsh out (by omega) es (by omega) hset
 have a35 := ac35 hG s hs hsh out (by omega) es (by omega) hset
 cases hin : inI st 0 10
 ·refine ⟨_, by kernel_rfl, ac31_no hG s hs out (by omega) es (by omega) st (by rw [hok, hin]; rfl), fun _ => rfl, ?_⟩
  simp [s2, s3, s4, e3, e4, sheetL]
  by_cases hn : mostI s out es < 0
  ·unfold mostO at a32
   rw [if_pos hn] at a32
   refine ⟨_, by kernel_rfl, a32, fun _ => rfl, ?_⟩
   simp [s2, s3, s4, e3, e4, sheetL]
   refine ⟨_, by kernel_rfl, ac25_no hG s hs out (by omega) es (by omega) st (by rw [hok, hin]; rfl), by simp [boxy], ?_⟩
   simp [s2, s3, s4, e3, e4, sheetL]
   refine ⟨_, by kernel_rfl, ac33 hG s hs, fun _ => rfl, ?_⟩
   rw [hsh]
   simp [s2, s3, s4, e3, e4, sheetL]
   refine ⟨_, by kernel_rfl, ac34 hG s hs out (by omega) es (by omega), fun _ => rfl, ?_⟩
   rw [hset]
   simp [s2, s3, s4, e3, e4, sheetL]
   refine ⟨_, by kernel_rfl, a35, fun _ => rfl, ?_⟩
   have hn' : ¬ 0 ≤ mostI s out es := by omega
   simp [s2, s3, s4, e3, e4, sheetL, hn, hn']
   refine ⟨_, by kernel_rfl, ac23 hG st, fun _ => rfl, ?_⟩
   rw [hin]
   simp [s2, s3, s4, e3, e4, sheetL]
   refine ⟨_, by kernel_rfl, hk, fun _ => rfl, ?_⟩
   simp
  ·unfold mostO at a32
   rw [if_neg hn] at a32
   refine ⟨_, by kernel_rfl, a32, fun _ => rfl, ?_⟩
   simp [s2, s3, s4, e3, e4, sheetL]
   refine ⟨_, by kernel_rfl, ac25_no hG s hs out (by omega) es (by omega) st (by rw [hok, hin]; rfl), by simp [boxy], ?_⟩
   simp [s2, s3, s4, e3, e4, sheetL]
   refine ⟨_, by kernel_rfl, ac33 hG s hs, fun _ => rfl, ?_⟩
   rw [hsh]
   simp [s2, s3, s4, e3, e4, sheetL]
   refine ⟨_, by kernel_rfl, ac34 hG s hs out (by omega) es (by omega), fun _ => rfl, ?_⟩
   rw [hset]
   simp [s2, s3, s4, e3, e4, sheetL]
   refine ⟨_, by kernel_rfl, a35, fun _ => rfl, ?_⟩
   have hn' : 0 ≤ mostI s out es := by omega
   simp [s2, s3, s4, e3, e4, sheetL, hn, hn']
   refine ⟨_, by kernel_rfl, ac23 hG st, fun _ => rfl, ?_⟩
   rw [hin]
   simp [s2, s3, s4, e3, e4, sheetL]
   refine ⟨_, by kernel_rfl, hk, fun _ => rfl, ?_⟩
   simp
 obtain ⟨h0, h1⟩ : 0 ≤ st ∧ st ≤ 10 := by simpa [inI] using hin
 refine ⟨_, by kernel_rfl, ac31_ok hG s hs hsh out (by omega) es (by omega) hset h0 h1, fun _ => rfl, ?_⟩
 simp [s2, s3, s4, e3, e4, sheetL]
 have a25 := ac25_ok hG s hs hsh out (by omega) es (by omega) hset h0 h1
 have a36 := ac36 hG s hs hsh out (by omega) es (by omega) hset h0 h1
 have a38 := ac38 hG s hs hsh out (by omega) es (by omega) hset h0 h1
 have a37 := ac37 hG (placesI s out es st es.length) (by rw [placesI_len]; omega) (fun x hx => by
  unfold placesI at hx
  obtain ⟨i, _, rfl⟩ := List.mem_map.1 hx
  rw [rowP_len]
  have := rowI_len hsh (good_of hsh hset) i
  omega)
 by_cases hn : mostI s out es < 0
 ·unfold mostO at a32
  rw [if_pos hn] at a32
  refine ⟨_, by kernel_rfl, a32, fun _ => rfl, ?_⟩
  simp [s2, s3, s4, e3, e4, sheetL]
  refine ⟨_, by kernel_rfl, a25, by simp [boxy], ?_⟩
  simp [s2, s3, s4, e3, e4, sheetL]
  refine ⟨_, by kernel_rfl, ac33 hG s hs, fun _ => rfl, ?_⟩
  rw [hsh]
  simp [s2, s3, s4, e3, e4, sheetL]
  refine ⟨_, by kernel_rfl, ac34 hG s hs out (by omega) es (by omega), fun _ => rfl, ?_⟩
  rw [hset]
  simp [s2, s3, s4, e3, e4, sheetL]
  refine ⟨_, by kernel_rfl, a35, fun _ => rfl, ?_⟩
  have hn' : ¬ 0 ≤ mostI s out es := by omega
  simp [s2, s3, s4, e3, e4, sheetL, hn, hn']
  refine ⟨_, by kernel_rfl, ac23 hG st, fun _ => rfl, ?_⟩
  rw [hin]
  simp [s2, s3, s4, e3, e4, sheetL]
  refine ⟨_, by kernel_rfl, a36, fun _ => rfl, ?_⟩
  simp [s2, s3, s4, e3, e4, sheetL]
  refine ⟨_, by kernel_rfl, a38, by simp [boxy], ?_⟩
  simp [s2, s3, s4, e3, e4, sheetL]
  refine ⟨_, by kernel_rfl, a37, by simp [boxy], ?_⟩
  simp [s2, s3, s4, e3, e4, sheetL]
  refine ⟨_, by kernel_rfl, hk, fun _ => rfl, ?_⟩
  simp
 ·unfold mostO at a32
  rw [if_neg hn] at a32
  refine ⟨_, by kernel_rfl, a32, fun _ => rfl, ?_⟩
  simp [s2, s3, s4, e3, e4, sheetL]
  refine ⟨_, by kernel_rfl, a25, by simp [boxy], ?_⟩
  simp [s2, s3, s4, e3, e4, sheetL]
  refine ⟨_, by kernel_rfl, ac33 hG s hs, fun _ => rfl, ?_⟩
  rw [hsh]
  simp [s2, s3, s4, e3, e4, sheetL]
  refine ⟨_, by kernel_rfl, ac34 hG s hs out (by omega) es (by omega), fun _ => rfl, ?_⟩
  rw [hset]
  simp [s2, s3, s4, e3, e4, sheetL]
  refine ⟨_, by kernel_rfl, a35, fun _ => rfl, ?_⟩
  have hn' : 0 ≤ mostI s out es := by omega
  simp [s2, s3, s4, e3, e4, sheetL, hn, hn']
  refine ⟨_, by kernel_rfl, ac23 hG st, fun _ => rfl, ?_⟩
  rw [hin]
  simp [s2, s3, s4, e3, e4, sheetL]
  refine ⟨_, by kernel_rfl, a36, fun _ => rfl, ?_⟩
  simp [s2, s3, s4, e3, e4, sheetL]
  refine ⟨_, by kernel_rfl, a38, by simp [boxy], ?_⟩
  simp [s2, s3, s4, e3, e4, sheetL]
  refine ⟨_, by kernel_rfl, a37, by simp [boxy], ?_⟩
  simp [s2, s3, s4, e3, e4, sheetL]
  refine ⟨_, by kernel_rfl, hk, fun _ => rfl, ?_⟩
  simp
end Go.Proofs.Tryz
namespace Go.Proofs.YtjdgdinalodjfaaGreatDoor
open Go Go.AL Go.ChangeShapes Go.WideShapes Go.ChangeAt Go.RowKit Go.Proofs.Tryz
set_option maxRecDepth 100000
namespace Stretches
abbrev row : OpenClaim := Rows.letterStretchesRow
abbrev spec : ChangeSpec := Rows.letterStretchesSpec
theorem call (W : World) (base : Nat) (args : Array Value) {H : Type} {enc : TypeId × Value → H} (ds : List (DataW H)) (p : List MemPlace) (hG : GI W) (hval : ∀ (j : Nat) t v, Tryz.f4.params[j]? = some t → args[j]? = some v → Value.okWide Tryz.prog W .any base t v)
  (hA : DataW.TrodAll enc Tryz.prog W 0 (fun _ => true) true Tryz.f4.params.toList args.toList ds p) : Calls Tryz.prog 4 args W fun e W' => e = .returned (.bool true) ∧ Below W.heap.size W W' := by
 rw [Tryz.params4] at hA hval
 obtain ⟨v0, vs0, d0, ds0, p0, q0, e0, rfl, rfl, h0, hr1⟩ := trodAll_cons hA
 obtain ⟨v1, vs1, d1, ds1, p1, q1, e1, rfl, rfl, h1, hr2⟩ := trodAll_cons hr1
 obtain ⟨v2, vs2, d2, ds2, p2, q2, e2, rfl, rfl, h2, hr3⟩ := trodAll_cons hr2
 obtain ⟨rfl, rfl, rfl⟩ := trodAll_nil hr3
 obtain rfl : args = #[v0, v1, v2] := by
  apply Array.toList_inj.1; rw [e0, e1, e2]
 obtain ⟨x0, g0, a0⟩ := open_sheet (hval 0 28 v0 rfl rfl) h0
 obtain ⟨x1, g1, a1⟩ := open_set (hval 1 31 v1 rfl rfl) h1
 obtain ⟨x2, g2, a2⟩ := open_int (hval 2 3 v2 rfl rfl) h2
 refine calls_of (ac4 gi_stable (fun _ h => h) x0 x1 x2) hG rfl fun i h h' => ?_
 match i, h with
 | 0, _ => exact .data _ _ a0
 | 1, _ => exact .data _ _ a1
 | 2, _ => exact .data _ _ a2
theorem w1 (os : Os) : ((World.laidAll Tryz.prog os row.laid).forCall (fun _ _ => 0) ⟨#[], #[.agg #[.slice none 0 0, .slice none 0 0, .int .i64 0, .int .i64 0, .int .i64 0, .int .i64 0, .int .i64 0, .slice none 0 0, .int .i64 0, .int .i64 0], .agg #[.slice none 0 0, .slice none 0 0], .int .i64 0], []⟩).Shaped Tryz.checked.prog :=
 World.shaped_of_ZipB (by kernel_rfl) (by kernel_rfl)
theorem lifted (os : Os) (started : os.Started) (H : Type) (enc : TypeId × Value → H) :
  ReturnsInHanded {} Tryz.checked os 4 .any (fun w args => (spec.pre enc Tryz.prog Tryz.f4 row.domain false w args ∧ laidMetH Tryz.prog row.laid w) ∧ sizedMet enc Tryz.prog Tryz.f4 (OpenSpec.ofChange spec) false w args)
   (spec.post enc Tryz.prog Tryz.f4 false true false false) := by
 refine lifted_of 4 Tryz.f4 Tryz.func4 (by kernel_rfl) (by kernel_rfl) spec rfl ?_ ?_ os started _ 12 (w1 os) (by kernel_rfl) (by kernel_rfl) (by kernel_rfl) ?_ (fun W base args ds p => call W base args ds p)
 ·intro ds hl
  rw [show Tryz.f4.params.size = 3 by kernel_rfl] at hl
  match ds, hl with
  | [d0, d1, d2], _ => rfl
 ·rw [Tryz.params4]
  intro t ht
  have : t = 28 ∨ t = 31 ∨ t = 3 := by simpa using ht
  rcases this with rfl | rfl | rfl
  all_goals exact ⟨by kernel_rfl, of_decide_eq_true (by kernel_rfl)⟩
 ·rw [MakeChecks.laidMetH_plain _ _ _ (by kernel_rfl)]; exact laidMet_laidAll _ (by kernel_rfl) (by kernel_rfl)
theorem f_named : Tryz.prog.funcNamed "mahlstick/mahlsticklaw01.LetterStretches" = some 4 := by kernel_rfl
theorem f_inPlace : (row.inPlace == Tryz.prog.inPlace 4) = true := by kernel_rfl
theorem f_unfollowed : (row.unfollowed == Tryz.prog.unfollowed 4) = true := by kernel_rfl
theorem f_recurses : (row.recurses == Tryz.prog.recurses 4) = true := by kernel_rfl
theorem f_vars : (row.named == Tryz.prog.varsNamed 4) = true := by kernel_rfl
theorem joined : joinedFacts Tryz.prog 4 Tryz.f4 spec row = true :=
 joined_of ⟨rfl, rfl, rfl, rfl, rfl, rfl⟩ (by kernel_rfl) (by kernel_rfl) (by kernel_rfl) f_inPlace f_unfollowed f_recurses f_vars (by kernel_rfl) (by kernel_rfl) (by kernel_rfl) (by kernel_rfl)
theorem instanceOf : Tryz.f4.isInstance Tryz.prog row.origin row.targs := of_decide_eq_true (by kernel_rfl)
theorem wrapperOf : Tryz.f4.isWrapper Tryz.prog row.wrapper row.mainSum := by
 unfold Func.isWrapper
 rw [if_neg (by decide +kernel)]
 exact ⟨rfl, rfl⟩
theorem holds : Rows.LetterStretchesSaid :=
 OpenClaim.holds_of_wide 4 Tryz.f4 rfl rfl rfl rfl rfl rfl rfl ⟨rfl, rfl, rfl, rfl, rfl⟩ rfl rfl rfl rfl rfl f_named Tryz.func4 joined instanceOf wrapperOf (fun os started H enc _ => lifted os started H enc)
theorem f_wf : row.wfByText (OpenSpec.ofChange spec) = true := by kernel_rfl
theorem f_goes : false = row.goesBy Tryz.prog := by kernel_rfl
theorem f_stand : ([28, 31, 3].all fun u => !Tryz.prog.wantsStandIn u) = true := by kernel_rfl
theorem f_main : Tryz.prog.mainIs = some (true, "c6c35c26350f8f1001e286baba07dbfbfaca16fe3311917b4f7043a2b45b2948".toList) := by rw [p_mainIs, p_sum]
theorem card : Rows.LetterStretchesCardSaid :=
 Claim7.holds_tied_plain_at .later [] [.data, .data, .data, .data, .pinned] true (true, "c6c35c26350f8f1001e286baba07dbfbfaca16fe3311917b4f7043a2b45b2948") true holds (fun _ h => by cases h) f_wf (fun _ h => by cases h) letterStretches_row_tie rfl ⟨rfl, rfl⟩ f_main rfl
  (fun f fn hf hfn => by
   obtain rfl : f = 4 := Option.some.inj (f_named.symm.trans hf) |>.symm
   obtain rfl : fn = Tryz.f4 := (Option.some.inj (Tryz.func4.symm.trans hfn)).symm
   refine ⟨p_looks, fun j t ht => ?_⟩
   rw [Tryz.params4] at ht
   have hm : t ∈ [28, 31, 3] := by
    simpa using Array.mem_of_getElem? ht
   exact (show Tryz.prog.wantsStandIn t = false by simpa using List.all_eq_true.1 f_stand t hm))
  f_goes
end Stretches
#print axioms Stretches.card
end Go.Proofs.YtjdgdinalodjfaaGreatDoor
