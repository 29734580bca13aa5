/-
  The statement's function LetterCounts returns true and leaves its argument as it is, for every sheet; no condition. The texts before this one hold the layer of abstract values, the code of the functions that are reached, and their contracts.
-/
import Derived.Test.YtjdgdinalodjfaaGreatDoorP1
import Derived.Test.YtjdgdinalodjfaaGreatDoorQ1
set_option linter.all false
set_option linter.unusedVariables false
set_option linter.unusedSimpArgs false
set_option linter.deprecated false
namespace Go.AL
section
variable {P : Program} {GI : World → Prop}
theorem appVL {S : Slots} {H : Boxes} {t e size cap i j : Nat} {l vs : List AV} {o : Ow} (hi : S i = grow e l) (hj : S j = .slice o vs) (hv : elemsOK size vs = true) (hl : elemsOK size l = true) (hn : l.length + vs.length < 1048576) :
  ∃ dm, (dm = none ∨ dm = some i) ∧ apure S H (.append t e size cap (.t i) (.t j)) = some { v := grow e (l ++ vs), dm := dm } := by
 have ei : ev S (.t i) = grow e l := hi
 have ej : ev S (.t j) = .slice o vs := hj
 cases l with
 | nil =>
  refine ⟨none, .inl rfl, ?_⟩
  simp only [apure]
  rw [ei, ej, grow_nil]
  have hn' : vs.length < 1048576 := by simpa using hn
  simp [hv, grow, hn']
 | cons x l =>
  refine ⟨some i, .inr rfl, ?_⟩
  have hn' : l.length + 1 + vs.length < 1048576 := by simpa using hn
  simp only [apure]
  rw [ei, ej]
  simp [grow, hv, hl, tmpOf, hn']
theorem dops_appL {K : Slots → Boxes → Prop} {S : Slots} {H : Boxes} {t e size cap d i j : Nat} {rest : List AOpr} (l vs : List AV) (o : Ow) (hi : S i = grow e l) (hj : S j = .slice o vs) (hv : elemsOK size vs = true) (hl : elemsOK size l = true) (hn : l.length + vs.length < 1048576)
  (h : ∀ S', S' d = grow e (l ++ vs) → (∀ k, k ≠ d → k ≠ i → S' k = S k) → dops P GI rest K S' H) : dops P GI (⟨some d, none, .append t e size cap (.t i) (.t j)⟩ :: rest) K S H := by
 obtain ⟨dm, hdm, hap⟩ := appVL (t := t) (cap := cap) (H := H) hi hj hv hl hn
 obtain ⟨k1, k2⟩ := eff_keep (S := S) (d := d) hdm (grow e (l ++ vs))
 rw [dops_ap]
 simp only [awanted, hap]
 exact h _ k1 k2
theorem dops_app0 {K : Slots → Boxes → Prop} {S : Slots} {H : Boxes} {t e size cap d j : Nat} {rest : List AOpr} (vs : List AV) (o : Ow) (hj : S j = .slice o vs) (hv : elemsOK size vs = true) (hn : vs.length < 1048576)
  (h : dops P GI rest K (upd S d (grow e vs)) H) : dops P GI (⟨some d, none, .append t e size cap (.c (.slice .nil [])) (.t j)⟩ :: rest) K S H := by
 have ej : ev S (.t j) = .slice o vs := hj
 rw [dops_ap]
 simp only [awanted, apure, ej]
 have e1 : ev S (.c (.slice .nil [])) = .slice .nil [] := rfl
 rw [e1]
 simp only [hv, hn, decide_true, Bool.and_self, if_true]
 have e2 : (if vs.isEmpty = true then Ow.nil else Ow.own e) = (if vs = [] then Ow.nil else Ow.own e) := by simp
 rw [e2]
 exact h
end
end Go.AL
namespace Go.Proofs.Tryz
open Go Go.AL Go.RowKit Go.Proofs
attribute [local simp] awp_all qs_all ops_allN dops_allN ops_nil dops_nil ops_call ops_callv ops_alloc ops_box dops_call dops_alloc kO_eq kD_eq awanted apure ev Eff.S Eff.H tmpOf upd putD AL.start AV.dem AV.cells AV.storable AV.scells splice scrub abin loadA HR.okB post ares aress ares1 AV.out AV.isData ints_len ints_get fz fz1 AV.vw AV.vw1 boxy vI int undefA assignQ thenQ blockQ seqQ panQ prol prolH allocOf
variable {GI : World → Prop}
def vE (l : List End) : AV := .slice .view (l.map endA)
theorem vE_ok1 (l : List (List End)) : elemsOK 1 (l.map vE) = true := elems_map fun a => ⟨rfl, rfl⟩
theorem lp_drop {now all : List End} {m i : Nat} (h : i < all.length) : lp now (all.drop i) m = ch (now ++ [all[i]]) (all.drop (i + 1)) m ++ lp now (all.drop (i + 1)) m := by
 rw [List.drop_eq_getElem_cons h, lp_cons]
set_option maxHeartbeats 1000000 in
theorem ac148 (hG : Stable GI) : ∀ (m : Nat) (now all : List End), m ≤ 3 → now.length + m ≤ 1000 → all.length ≤ 24 → AC prog GI 148 [.slice .view (now.map endA), .slice .view (all.map endA), .int .i64 m] (.ret (.slice .view ((ch now all m).map vE))) := by
 intro m
 induction m with
 | zero =>
  intro now all hm hn hl
  by_cases ha : all = []
  ·subst ha
   have hok : elemsOK 1 [AV.slice .view (now.map endA)] = true := rfl
   have e : (ch now [] 0).map vE = [.slice .view (now.map endA)] := by simp [ch, vE]
   rw [e]
   refine AC.as_view (o := .own 29) ?_
   refine AC.of_body hG hmix func148 rfl ntmps148 (by simp) (ac := c148) (by kernel_rfl) ?_
   simp [c148, ops_ap, dops_ap, hok]
  ·have hn0 : ((all.length : Int) == 0) = false := by have := List.length_pos_iff.2 ha; simp; omega
   refine AC.as_view (o := .nil) ?_
   refine AC.of_body hG hmix func148 rfl ntmps148 (by simp) (ac := c148) (by kernel_rfl) ?_
   simp [c148, ops_ap, dops_ap, ch, ha, hn0]
 | succ m ih =>
  intro now all hm hn hl
  by_cases ha : all = []
  ·subst ha
   have hok : elemsOK 1 [AV.slice .view (now.map endA)] = true := rfl
   have e : (ch now [] (m + 1)).map vE = [.slice .view (now.map endA)] := by simp [ch, vE]
   rw [e]
   refine AC.as_view (o := .own 29) ?_
   refine AC.of_body hG hmix func148 rfl ntmps148 (by simp) (ac := c148) (by kernel_rfl) ?_
   simp [c148, ops_ap, dops_ap, hok]
  have hn0 : ((all.length : Int) == 0) = false := by have := List.length_pos_iff.2 ha; simp; omega
  have hch : ch now all (m + 1) = lp now all m := by unfold ch; rw [if_neg ha]
  have hcl : (ch now all (m + 1)).length ≤ 277 := ch_len hl (by omega)
  rw [hch] at hcl ⊢
  have hm0 : ((m : Int) + 1 == 0) = false := by simp; omega
  have hwm : IntKind.i64.wrap (m : Int) = m := wrapI (by omega)
  refine AC.as_view (o := if lp now all m = [] then .nil else .view) ?_
  refine AC.of_body hG hmix func148 rfl ntmps148 (by simp) (ac := c148) (by kernel_rfl) ?_
  refine awp_cut (fun S H => S 0 = vE now ∧ S 1 = vE all ∧ S 2 = .int .i64 ((m : Int) + 1)) (by simp [ops_ap, dops_ap, vE]) ?_
  rintro S H ⟨s0, s1, s2⟩
  simp [ops_ap, dops_ap, s0, s1, s2, vE, hn0, ha, hm0]
  refine awp_loop 8 all.length (fun i S H => S 0 = vE now ∧ S 1 = vE all ∧ S 2 = .int .i64 ((m : Int) + 1) ∧ S 8 = .int .i64 (i : Nat) ∧ ∃ D, S 7 = grow 29 (D.map vE) ∧ D ++ lp now (all.drop i) m = lp now all m) (fun i S H h => h.2.2.2.1) ⟨by simp [ops_ap, dops_ap, s0, vE], by simp [ops_ap, dops_ap, s1, vE], by simp [ops_ap, dops_ap, s2], by simp [ops_ap, dops_ap], [], by simp [ops_ap, dops_ap, grow], rfl⟩ ?_
  clear s0 s1 s2 S H
  rintro i hi S H ⟨s0, s1, s2, s8, D, s7, hD⟩
  by_cases hlt : i < all.length
  case neg =>
   have hil : i = all.length := by omega
   subst hil
   rw [List.drop_length, lp_nil, List.append_nil] at hD
   subst hD
   by_cases h0 : lp now all m = []
   ·rw [h0] at s7 ⊢
    simp [ops_ap, dops_ap, s0, s1, s2, s8, s7, vE, grow]
   ·have s7' : S 7 = .slice (.own 29) ((lp now all m).map vE) := by rw [s7]; simp [grow, h0]
    simp [ops_ap, dops_ap, s0, s1, s2, s8, s7', vE, h0]
  have hw : IntKind.i64.wrap ((i : Int) + 1) = i + 1 := wrapI (by omega)
  have hlE : lp now (all.drop i) m = ch (now ++ [all[i]]) (all.drop (i + 1)) m ++ lp now (all.drop (i + 1)) m := lp_drop hlt
  have a148 := ih (now ++ [all[i]]) (all.drop (i + 1)) (by omega) (by simp; omega) (by simp; omega)
  have hDl : D.length + (ch (now ++ [all[i]]) (all.drop (i + 1)) m).length ≤ 277 := by
   have := congrArg List.length hD
   rw [hlE] at this
   simp at this; omega
  rw [hlE, ← List.append_assoc] at hD
  have hokn : elemsOK 2 (now.map endA) = true := ends_ok2 now
  have hoka : elemsOK 2 (all.map endA) = true := ends_ok2 all
  have hok1 : elemsOK 2 [endA all[i]] = true := rfl
  have hok2 : elemsOK 1 ((ch (now ++ [all[i]]) (all.drop (i + 1)) m).map vE) = true := vE_ok1 _
  have hT : List.drop (i + 1) (List.take all.length (all.map endA)) = (all.drop (i + 1)).map endA := by rw [List.take_of_length_le (by simp), List.map_drop]
  have hN : (now ++ [all[i]]).map endA = now.map endA ++ [endA all[i]] := by simp
  rw [hN, List.map_drop] at a148
  have hi1 : (0 : Int) ≤ (i : Int) + 1 := by omega
  have hi2 : (i : Int) + 1 ≤ all.length := by omega
  simp [s0, s1, s2, s8, s7, vE, hlt]
  refine dops_app0 (now.map endA) .view (by simp) hokn (by simp; omega) ?_
  simp [s0, s1, s2, s8, s7, vE, hlt, endA]
  refine dops_app (now.map endA) (endA all[i]) (.own 116) (by simp [grow]) (by simp [endA]) hok1 hokn (by simp; omega) ?_
  intro S' sd hk'
  simp [sd, hk', s0, s1, s2, s8, s7, vE, hlt, hw, bound, hoka, hi1, hi2, hwm, grow, hT]
  refine ⟨_, by kernel_rfl, a148, by simp [boxy], ?_⟩
  simp [sd, hk', s0, s1, s2, s8, s7, vE, hlt, hw]
  refine dops_appL (D.map vE) ((ch (now ++ [all[i]]) (all.drop (i + 1)) m).map vE) .view (by simp [hk', s7, vE, grow]) (by simp [vE]) hok2 (vE_ok1 D) (by simp; omega) ?_
  intro S'' sd' hk''
  simp [sd', hk'', sd, hk', s0, s1, s2, s8, vE, hlt, hw]
  exact ⟨D ++ ch (now ++ [all[i]]) (all.drop (i + 1)) m, by simp [grow, vE], hD⟩
end Go.Proofs.Tryz
namespace Go.Proofs.Tryz
open Go Go.AL Go.RowKit Go.Proofs
attribute [local simp] awp_all qs_all ops_allN dops_allN ops_nil dops_nil ops_call ops_callv ops_alloc ops_box dops_call dops_alloc kO_eq kD_eq awanted apure ev Eff.S Eff.H tmpOf upd putD AL.start AV.dem AV.cells AV.storable AV.scells splice scrub abin loadA HR.okB post ares aress ares1 AV.out AV.isData ints_len ints_get fz fz1 AV.vw AV.vw1 boxy vI int undefA assignQ thenQ blockQ seqQ panQ prol prolH allocOf
variable {GI : World → Prop}
theorem endsW_stops {s : Sheet} (hsh : sheetI s = true) {out : List Int} {w : Nat} (hw : w < s.words.length) (hc : out.contains (w : Int) = false) : (stopsN s.words[w] s.words[w].signs.length).map (fun k => ((w : Int), k)) = endsW s out w := by
 have f := wordF hsh (List.getElem_mem hw)
 rw [endsW_at hw hc, stops_all f.len1 f.cuts, List.map_append]; rfl
def endsQ (s : Sheet) (out : List Int) (w n : Nat) (x : Word) : List End := endsP s out w ++ (stopsN x n).map fun k => ((w : Int), k)
theorem endsQ_succ (s : Sheet) (out : List Int) (w n : Nat) (x : Word) : endsQ s out w (n + 1) x = endsQ s out w n x ++ if stopI x (n + 1) then [((w : Int), ((n + 1 : Nat) : Int))] else [] := by
 unfold endsQ
 rw [stopsN_succ, List.map_append, List.append_assoc]
 congr 2
 split <;> rfl
set_option maxHeartbeats 2000000 in
theorem ac149 (hG : Stable GI) (s : Sheet) (hsh : sheetI s = true) (out : List Int) (ho : out.length < 1000000) : AC prog GI 149 [sheetA s, vI out] (.ret (.slice .view ((endsL s out).map endA))) := by
 have hF := sheetF hsh
 have hw4 := hF.words
 have hel := endsL_len hsh out
 refine AC.as_view (o := if endsL s out = [] then .nil else .view) ?_
 refine AC.of_body hG hmix func149 rfl ntmps149 (by simp) (ac := c149) (by kernel_rfl) ?_
 refine awp_cut (fun S H => S 1 = vI out ∧ S 2 = .box 2 0 ∧ H 2 = some (sheetL s)) (by simp [ops_ap, dops_ap, sheetA, sheetL]) ?_
 rintro S H ⟨s1, s2, e2⟩
 simp [ops_ap, dops_ap, s1, s2, e2]
 refine awp_loop 6 s.words.length (fun i S H => S 1 = vI out ∧ S 2 = .box 2 0 ∧ H 2 = some (sheetL s) ∧ S 6 = .int .i64 (i : Nat) ∧ S 5 = grow 116 ((endsP s out i).map endA)) (fun i S H h => h.2.2.2.1) ⟨by simp [ops_ap, dops_ap, s1], by simp [ops_ap, dops_ap, s2], by simp [ops_ap, dops_ap, e2], by simp [ops_ap, dops_ap], by simp [ops_ap, dops_ap, grow, endsP]⟩ ?_
 clear s1 s2 e2 S H
 rintro i hi S H ⟨s1, s2, e2, s6, s5⟩
 by_cases hlt : i < s.words.length
 case neg =>
  have hil : i = s.words.length := by omega
  subst hil
  have hEL : endsP s out s.words.length = endsL s out := rfl
  rw [hEL] at s5
  by_cases h0 : endsL s out = []
  ·rw [h0] at s5 ⊢
   simp [ops_ap, dops_ap, s1, s2, e2, s6, s5, sheetL, grow]
  ·have s5' : S 5 = .slice (.own 116) ((endsL s out).map endA) := by rw [s5]; simp [grow, h0]
   simp [ops_ap, dops_ap, s1, s2, e2, s6, s5', sheetL, h0]
 have hw : IntKind.i64.wrap ((i : Int) + 1) = i + 1 := wrapI (by omega)
 have f := wordF hsh (List.getElem_mem hlt)
 have hl6 := f.len6
 have hcl : s.words[i].cuts.length < 1000000 := by
  have := (sheet_slim hsh).cuts _ (List.getElem_mem hlt); omega
 have hsu := endsP_succ s out i
 cases hct : out.contains (i : Int)
 case true =>
  rw [endsW_out hct, List.append_nil] at hsu
  have a91 := ac91 hG out i (by omega)
  rw [hct] at a91
  have h1l : (1 : Int) ≤ s.words[i].signs.length := by have := f.len1; omega
  simp [ops_ap, dops_ap, s1, s2, e2, s6, s5, sheetL, hlt]
  refine awp_loopF 7 1 1 (fun k S H => S 1 = vI out ∧ S 2 = .box 2 0 ∧ H 2 = some (sheetL s) ∧ S 6 = .int .i64 (i : Nat) ∧ S 5 = grow 116 ((endsP s out i).map endA) ∧ S 7 = .int .i64 (k : Nat)) (by omega) (fun k S H h => h.2.2.2.2.2) ⟨by simp [ops_ap, dops_ap, s1], by simp [ops_ap, dops_ap, s2], by simp [ops_ap, dops_ap, e2, sheetL], by simp [ops_ap, dops_ap, s6], by simp [ops_ap, dops_ap, s5, grow], by simp [ops_ap, dops_ap]⟩ ?_
  clear s1 s2 e2 s6 s5 S H
  rintro k hk1 hk S H ⟨s1, s2, e2, s6, s5, s7⟩
  have hk' : k = 1 := by omega
  subst hk'
  simp [ops_ap, dops_ap, s1, s2, e2, s6, s5, s7, sheetL, hlt, wordA, h1l]
  refine ⟨_, by kernel_rfl, a91, fun _ => rfl, ?_⟩
  simp [ops_ap, dops_ap, s1, s2, e2, s6, s5, s7, sheetL, hlt, hw, hsu, grow]
 rw [← endsW_stops hsh hlt hct] at hsu
 have hq0 : endsP s out i = endsQ s out i 0 s.words[i] := by unfold endsQ stopsN; simp
 have hqn : endsP s out (i + 1) = endsQ s out i s.words[i].signs.length s.words[i] := hsu
 have hql : ∀ n, n ≤ s.words[i].signs.length → (endsQ s out i n s.words[i]).length ≤ 1000 := by
  intro n hn
  unfold endsQ stopsN
  have h1 := endsP_len (sheet_slim hsh) out i
  have h2 := List.length_filter_le (stopI s.words[i]) (List.range' 1 n)
  simp at h2 ⊢
  have h3 : (endsP s out i).length ≤ 24 := by
   have h4 : endsL s out = endsP s out i ++ (List.range' i (s.words.length - i)).flatMap (endsW s out) := by
    show (List.range s.words.length).flatMap (endsW s out) = (List.range i).flatMap (endsW s out) ++ _
    rw [← List.flatMap_append]
    congr 1
    have h5 := List.range'_append_1 (s := 0) (m := i) (n := s.words.length - i)
    rw [List.range_eq_range', List.range_eq_range']
    rw [show i + (s.words.length - i) = s.words.length by omega, Nat.zero_add] at h5
    exact h5.symm
   have := congrArg List.length h4
   rw [List.length_append] at this
   omega
  omega
 rw [hq0] at s5
 rw [hqn]
 generalize hx : s.words[i] = x at *
 simp [ops_ap, dops_ap, s1, s2, e2, s6, s5, sheetL, hlt]
 refine awp_loopF 7 1 (x.signs.length + 1) (fun k S H => S 1 = vI out ∧ S 2 = .box 2 0 ∧ H 2 = some (sheetL s) ∧ S 6 = .int .i64 (i : Nat) ∧ S 7 = .int .i64 (k : Nat) ∧ S 5 = grow 116 ((endsQ s out i (k - 1) x).map endA)) (by omega) (fun k S H h => h.2.2.2.2.1) ⟨by simp [ops_ap, dops_ap, s1], by simp [ops_ap, dops_ap, s2], by simp [ops_ap, dops_ap, e2, sheetL], by simp [ops_ap, dops_ap, s6], by simp [ops_ap, dops_ap], by simp [ops_ap, dops_ap, s5, grow]⟩ ?_
 clear s1 s2 e2 s6 s5 S H
 rintro k hk1 hk S H ⟨s1, s2, e2, s6, s7, s5⟩
 obtain ⟨m, rfl⟩ : ∃ m, k = m + 1 := ⟨k - 1, by omega⟩
 rw [Nat.add_sub_cancel] at s5
 have hxA : wordA s.words[i] = .agg [vI x.signs, vI x.cuts, .bool x.free] := by rw [hx]; rfl
 by_cases hkl : m < x.signs.length
 case neg =>
  have hkl' : m = x.signs.length := by omega
  subst hkl'
  have hn : ¬ ((x.signs.length : Int) + 1 ≤ x.signs.length) := by omega
  simp [ops_ap, dops_ap, s1, s2, e2, s6, s7, s5, sheetL, hlt, hxA, hn, hw, grow]
 have hkl2 : (m : Int) + 1 ≤ x.signs.length := by omega
 have hkw : IntKind.i64.wrap ((m : Int) + 1 + 1) = m + 1 + 1 := wrapI (by omega)
 have a91 := ac91 hG out i (by omega)
 rw [hct] at a91
 have a91c := ac91 hG x.cuts ((m + 1 : Nat) : Int) (by omega)
 have hqs := endsQ_succ s out i m x
 have hqm := hql m (by omega)
 generalize endsQ s out i m x = Q at s5 hqs hqm
 simp [s1, s2, e2, s6, s7, s5, sheetL, hlt, hxA, hkl2]
 refine ⟨_, by kernel_rfl, a91, fun _ => rfl, ?_⟩
 cases he : ((m : Int) + 1 == (x.signs.length : Int))
 ·have he2 : (m + 1 == x.signs.length) = false := by simp at he ⊢; omega
  simp [s1, s2, e2, s6, s7, s5, sheetL, hlt, hxA, hkl2, he]
  refine ⟨_, by kernel_rfl, a91c, fun _ => rfl, ?_⟩
  cases hcc : x.cuts.contains ((m + 1 : Nat) : Int)
  ·have hst : stopI x (m + 1) = false := by unfold stopI; rw [he2, hcc]; rfl
   rw [hst] at hqs
   simp at hqs
   simp [s1, s2, e2, s6, s7, s5, sheetL, hlt, hxA, hkl, hkw, hqs, grow]
  ·have hst : stopI x (m + 1) = true := by unfold stopI; rw [he2, hcc]; rfl
   rw [hst] at hqs
   simp at hqs
   have hok1 : elemsOK 2 [endA ((i : Int), (m : Int) + 1)] = true := rfl
   simp [s1, s2, e2, s6, s7, s5, sheetL, hlt, hxA, hkl, fillA, endA]
   refine aops_app (Q.map endA) (endA ((i : Int), (m : Int) + 1)) (.own 116) (by simp [s5, grow]) (by simp [endA]) hok1 (ends_ok2 _) (by rw [List.length_map]; omega) ?_
   intro S' sd hk'
   simp [sd, hk', s1, s2, e2, s6, s7, sheetL, hlt, hkl, hkw, hqs, grow]
 ·have he2 : (m + 1 == x.signs.length) = true := by simp at he ⊢; omega
  have hst : stopI x (m + 1) = true := by unfold stopI; rw [he2]; rfl
  rw [hst] at hqs
  simp at hqs
  have hok1 : elemsOK 2 [endA ((i : Int), (m : Int) + 1)] = true := rfl
  simp [s1, s2, e2, s6, s7, s5, sheetL, hlt, hxA, hkl, he, fillA, endA]
  refine aops_app (Q.map endA) (endA ((i : Int), (m : Int) + 1)) (.own 116) (by simp [s5, grow]) (by simp [endA]) hok1 (ends_ok2 _) (by rw [List.length_map]; omega) ?_
  intro S' sd hk'
  simp [sd, hk', s1, s2, e2, s6, s7, sheetL, hlt, hkl, hkw, hqs, grow]
end Go.Proofs.Tryz
namespace Go.Proofs.Tryz
open Go Go.AL Go.RowKit Go.Proofs
attribute [local simp] awp_all qs_all ops_allN dops_allN ops_nil dops_nil ops_call ops_callv ops_alloc ops_box dops_call dops_alloc kO_eq kD_eq awanted apure ev Eff.S Eff.H tmpOf upd putD AL.start AV.dem AV.cells AV.storable AV.scells splice scrub abin loadA HR.okB post ares aress ares1 AV.out AV.isData ints_len ints_get fz fz1 AV.vw AV.vw1 boxy vI int undefA assignQ thenQ blockQ seqQ panQ prol prolH allocOf
variable {GI : World → Prop}
theorem setO_ok2 (out : List Int) (l : List (List End)) : elemsOK 2 (l.map (settingA out)) = true := elems_map fun a => ⟨rfl, rfl⟩
theorem setting_eq (out : List Int) (es : List End) : settingA out es = .agg [vI out, .slice .view (es.map endA)] := rfl
set_option maxHeartbeats 1000000 in
theorem ac105 (hG : Stable GI) (s : Sheet) (hsh : sheetI s = true) (out : List Int) (ho : out.length < 1000000) : AC prog GI 105 [sheetA s, vI out] (.ret (.slice .view ((allS s out s.rows.toNat).map (settingA out)))) := by
 have hF := sheetF hsh
 have hr := hF.rows
 have hel := endsL_len hsh out
 have hal := allS_len hsh out (m := s.rows.toNat) (by omega)
 have a149 := ac149 hG s hsh out ho
 have a148 := ac148 hG s.rows.toNat [] (endsL s out) (by omega) (by simp; omega) hel
 have e : ch [] (endsL s out) s.rows.toNat = allS s out s.rows.toNat := rfl
 rw [e, Int.toNat_of_nonneg (by omega)] at a148
 refine AC.as_view (o := if allS s out s.rows.toNat = [] then .nil else .view) ?_
 generalize allS s out s.rows.toNat = A at *
 refine AC.of_body hG hmix func105 rfl ntmps105 (by simp) (ac := c105) (by kernel_rfl) ?_
 refine awp_cut (fun S H => S 1 = vI out ∧ S 2 = .box 2 0 ∧ H 2 = some (sheetL s)) (by simp [ops_ap, dops_ap, sheetA, sheetL]) ?_
 rintro S H ⟨s1, s2, e2⟩
 refine awp_cut (fun S H => S 1 = vI out ∧ S 5 = .slice .view (A.map vE)) ?_ ?_
 ·simp [ops_ap, dops_ap, s1, s2, e2, sheetL]
  refine ⟨_, by kernel_rfl, a149, by simp [boxy], ?_⟩
  simp [ops_ap, dops_ap, s1, s2, e2, sheetL]
  refine ⟨_, by kernel_rfl, a148, by simp [boxy], ?_⟩
  simp [ops_ap, dops_ap, s1]
 clear s1 s2 e2 S H
 rintro S H ⟨s1, s5⟩
 simp [ops_ap, dops_ap, s1, s5]
 refine awp_loop 7 A.length (fun i S H => S 1 = vI out ∧ S 5 = .slice .view (A.map vE) ∧ S 7 = .int .i64 (i : Nat) ∧ S 6 = grow 31 ((A.take i).map (settingA out))) (fun i S H h => h.2.2.1) ⟨by simp [ops_ap, dops_ap, s1], by simp [ops_ap, dops_ap, s5], by simp [ops_ap, dops_ap], by simp [ops_ap, dops_ap, grow]⟩ ?_
 clear s1 s5 S H
 rintro i hi S H ⟨s1, s5, s7, s6⟩
 by_cases hlt : i < A.length
 case neg =>
  have hil : i = A.length := by omega
  subst hil
  rw [List.take_of_length_le (Nat.le_refl _)] at s6
  by_cases h0 : A = []
  ·subst h0
   simp [ops_ap, dops_ap, s1, s5, s7, s6, grow]
  ·have s6' : S 6 = .slice (.own 31) (A.map (settingA out)) := by rw [s6]; simp [grow, h0]
   simp [ops_ap, dops_ap, s1, s5, s7, s6', h0]
 have hw : IntKind.i64.wrap ((i : Int) + 1) = i + 1 := wrapI (by omega)
 have ht : A.take (i + 1) = A.take i ++ [A[i]] := List.take_succ_eq_append_getElem hlt
 have htl : (A.take i).length ≤ 277 := by rw [List.length_take]; omega
 rw [ht]
 generalize A.take i = B at s6 htl ⊢
 have hok1 : elemsOK 2 [settingA out A[i]] = true := rfl
 simp [s1, s5, s7, s6, hlt, vE, fillA]
 refine aops_app (B.map (settingA out)) (settingA out A[i]) (.own 31) (by simp [s6, grow]) (by simp [setting_eq]) hok1 (setO_ok2 _ _) (by rw [List.length_map]; omega) ?_
 intro S' sd hk'
 simp [sd, hk', s1, s5, s7, hlt, hw, vE, grow]
set_option maxHeartbeats 1000000 in
theorem ac101 (hG : Stable GI) (s : Sheet) (hsh : sheetI s = true) (out : List Int) (ho : out.length < 1000000) (hout : outI s out = true) : AC prog GI 101 [sheetA s, vI out] (.ret (.slice .view ((goodS s out).map (settingA out)))) := by
 have hr := (sheetF hsh).rows
 have hal := allS_len hsh out (m := s.rows.toNat) (by omega)
 have a105 := ac105 hG s hsh out ho
 have hA : ∀ es ∈ allS s out s.rows.toNat, AC prog GI 36 [sheetA s, settingA out es, .int .i64 0] (.ret (.bool (fitI s out es 0))) := fun es h => by
  obtain ⟨h1, h2⟩ := allS_good hsh hout h
  exact ac36 hG s (sheet_slim hsh) hsh out ho es (by omega) h1 (by omega) (by omega)
 refine AC.as_view (o := if goodS s out = [] then .nil else .view) ?_
 unfold goodS
 generalize allS s out s.rows.toNat = A at *
 generalize hB : (A.filter fun es => fitI s out es 0) = B
 refine AC.of_body hG hmix func101 rfl ntmps101 (by simp) (ac := c101) (by kernel_rfl) ?_
 refine awp_cut (fun S H => S 1 = vI out ∧ S 2 = .box 2 0 ∧ H 2 = some (sheetL s)) (by simp [ops_ap, dops_ap, sheetA, sheetL]) ?_
 rintro S H ⟨s1, s2, e2⟩
 refine awp_cut (fun S H => S 1 = vI out ∧ S 2 = .box 2 0 ∧ H 2 = some (sheetL s) ∧ S 5 = .slice .view (A.map (settingA out))) ?_ ?_
 ·simp [ops_ap, dops_ap, s1, s2, e2, sheetL]
  refine ⟨_, by kernel_rfl, a105, by simp [boxy], ?_⟩
  simp [ops_ap, dops_ap, s1, s2, e2, sheetL]
 clear s1 s2 e2 S H
 rintro S H ⟨s1, s2, e2, s5⟩
 simp [ops_ap, dops_ap, s1, s2, e2, s5]
 refine awp_loop 7 A.length (fun i S H => S 1 = vI out ∧ S 2 = .box 2 0 ∧ H 2 = some (sheetL s) ∧ S 5 = .slice .view (A.map (settingA out)) ∧ S 7 = .int .i64 (i : Nat) ∧ S 6 = grow 31 (((A.take i).filter fun es => fitI s out es 0).map (settingA out))) (fun i S H h => h.2.2.2.2.1) ⟨by simp [ops_ap, dops_ap, s1], by simp [ops_ap, dops_ap, s2], by simp [ops_ap, dops_ap, e2], by simp [ops_ap, dops_ap, s5], by simp [ops_ap, dops_ap], by simp [ops_ap, dops_ap, grow]⟩ ?_
 clear s1 s2 e2 s5 S H
 rintro i hi S H ⟨s1, s2, e2, s5, s7, s6⟩
 by_cases hlt : i < A.length
 case neg =>
  have hil : i = A.length := by omega
  subst hil
  rw [List.take_of_length_le (Nat.le_refl _)] at s6
  rw [hB] at s6
  by_cases h0 : B = []
  ·subst h0
   simp [ops_ap, dops_ap, s1, s2, e2, s5, s7, s6, grow]
  ·have s6' : S 6 = .slice (.own 31) (B.map (settingA out)) := by rw [s6]; simp [grow, h0]
   simp [ops_ap, dops_ap, s1, s2, e2, s5, s7, s6', h0]
 have hw : IntKind.i64.wrap ((i : Int) + 1) = i + 1 := wrapI (by omega)
 have ht : (A.take (i + 1)).filter (fun es => fitI s out es 0) = (A.take i).filter (fun es => fitI s out es 0) ++ if fitI s out A[i] 0 then [A[i]] else [] := by
  rw [List.take_succ_eq_append_getElem hlt, List.filter_append, List.filter_cons]
  split <;> simp
 have htl : ((A.take i).filter fun es => fitI s out es 0).length ≤ 277 := by
  have := List.length_filter_le (fun es => fitI s out es 0) (A.take i)
  rw [List.length_take] at this; omega
 have a36 := hA A[i] (List.getElem_mem hlt)
 rw [ht]
 clear hB
 generalize (A.take i).filter (fun es => fitI s out es 0) = B at s6 htl ⊢
 have hok1 : elemsOK 2 [settingA out A[i]] = true := rfl
 simp [s1, s2, e2, s5, s7, s6, hlt, sheetL, setting_eq]
 refine ⟨_, by kernel_rfl, a36, by simp [boxy], ?_⟩
 cases fitI s out A[i] 0
 ·simp [s1, s2, e2, s5, s7, s6, hlt, hw, sheetL, setting_eq, grow]
 simp [s1, s2, e2, s5, s7, s6, hlt, sheetL, setting_eq]
 refine aops_app (B.map (settingA out)) (settingA out A[i]) (.own 31) (by simp [s6, grow, setting_eq]) (by simp [setting_eq]) hok1 (setO_ok2 _ _) (by rw [List.length_map]; omega) ?_
 intro S' sd hk'
 simp [sd, hk', s1, s2, e2, s5, s7, hlt, hw, sheetL, setting_eq, grow]
end Go.Proofs.Tryz
namespace Go.Proofs.Tryz
open Go Go.AL Go.RowKit Go.Proofs
attribute [local simp] awp_all qs_all ops_all dops_all ops_nil dops_nil ops_call ops_callv ops_alloc ops_box dops_call dops_alloc kO_eq kD_eq awanted apure ev Eff.S Eff.H tmpOf upd putD AL.start AV.dem AV.cells AV.storable AV.scells splice scrub abin loadA HR.okB post ares aress ares1 AV.out AV.isData ints_len ints_get fz fz1 AV.vw AV.vw1 boxy vI int undefA assignQ thenQ blockQ seqQ panQ prol prolH allocOf
variable {GI : World → Prop}
end Go.Proofs.Tryz
namespace Go.Proofs.Tryz
open Go Go.AL Go.RowKit Go.Proofs
attribute [local simp] awp_all qs_all ops_all dops_all ops_nil dops_nil ops_call ops_callv ops_alloc ops_box dops_call dops_alloc kO_eq kD_eq awanted apure ev Eff.S Eff.H tmpOf upd putD AL.start AV.dem AV.cells AV.storable AV.scells splice scrub abin loadA HR.okB post ares aress ares1 AV.out AV.isData ints_len ints_get fz fz1 AV.vw AV.vw1 boxy vI int undefA assignQ thenQ blockQ seqQ panQ prol prolH allocOf
variable {GI : World → Prop}
def countO (s : Sheet) : List AV := if sheetI s then [.int .i64 (goodS s []).length, .int .i64 0] else [.int .i64 0, .int .i64 2]
theorem ac45 (hG : Stable GI) (s : Sheet) (hs : Slim s) : AC prog GI 45 [sheetA s] (.ret (.tup (countO s))) := by
 unfold countO
 refine AC.of_body hG hmix func45 rfl ntmps45 (by simp) (ac := c45) (by kernel_rfl) ?_
 refine awp_cut (fun S H => S 1 = .box 1 0 ∧ H 1 = some (sheetL s)) (by simp [sheetA, sheetL]) ?_
 rintro S H ⟨s1, e1⟩
 simp [s1, e1, sheetL]
 refine ⟨_, by kernel_rfl, ac96 hG s hs, fun _ => rfl, ?_⟩
 cases hsh : sheetI s
 ·simp [s1, e1, sheetL]
 simp [s1, e1, sheetL]
 refine ⟨_, by kernel_rfl, ac80f hG s hsh, by simp [boxy], ?_⟩
 simp [s1, e1, frontA, frontL, sheetL, spaces]
 refine ⟨_, by kernel_rfl, ac97f hG s hsh [] (by simp) (outI_nil hsh), by simp [boxy], ?_⟩
 simp
theorem ac47 (hG : Stable GI) (s : Sheet) (hsh : sheetI s = true) : AC prog GI 47 [sheetA s] (.ret (.int .i64 (goodS s []).length)) := by
 refine AC.of_body hG hmix func47 rfl ntmps47 (by simp) (ac := c47) (by kernel_rfl) ?_
 refine awp_cut (fun S H => S 1 = .box 1 0 ∧ H 1 = some (sheetL s)) (by simp [sheetA, sheetL]) ?_
 rintro S H ⟨s1, e1⟩
 simp [s1, e1, sheetL]
 refine ⟨_, by kernel_rfl, ac101 hG s hsh [] (by simp) (outI_nil hsh), by simp [boxy], ?_⟩
 simp
def ungA : AV → Nat × Nat
 | .agg [.int _ a, .int _ b] => (a.toNat, b.toNat)
 | _ => (0, 0)
def wdR (s : Sheet) (r : Line) : Int := wideP s 0 (r.glyphs.map fun a => letS s (ungA a)) r.cut
def rowsR (s : Sheet) (es : List End) : List Line := (List.range es.length).map fun i => ⟨(rowI s [] es i).map gA, cutI s es i⟩
theorem wdR_row (s : Sheet) (l : List (Nat × Nat)) (cut : Bool) : wdR s ⟨l.map gA, cut⟩ = wideP s 0 (l.map (letS s)) cut := by
 unfold wdR
 simp only [List.map_map]
 congr 1
theorem rows_wide (s : Sheet) (es : List End) : widest (wdR s) (rowsR s es) = maxL (widthsI s [] es 0) := by
 unfold widest maxL rowsR widthsI wideI
 rw [List.map_map]
 congr 1
 exact List.map_congr_left fun i _ => wdR_row s _ _
def narrowO (s : Sheet) : List AV := if sheetI s then [.int .i64 (narrowI s), .int .i64 0] else [.int .i64 0, .int .i64 2]
theorem ac46f (hG : Stable GI) (s : Sheet) (hs : Slim s) : AC prog GI 46 [sheetA s] (.ret (.tup (narrowO s))) := by
 unfold narrowO
 cases hsh : sheetI s with
 | false =>
  refine AC.of_body hG hmix func46 rfl ntmps46 (by simp) (ac := c46) (by kernel_rfl) ?_
  refine awp_cut (fun S H => S 1 = .box 1 0 ∧ H 1 = some (sheetL s)) (by simp [sheetA, sheetL]) ?_
  rintro S H ⟨s1, e1⟩
  have a96 := ac96 hG s hs
  rw [hsh] at a96
  simp [s1, e1, sheetL]
  refine ⟨_, by kernel_rfl, a96, fun _ => rfl, ?_⟩
  simp [s1, e1, sheetL]
 | true =>
 have hr := (sheetF hsh).rows
 have hal := allS_len hsh [] (m := s.rows.toNat) (by omega)
 obtain ⟨es0, rest0, hne⟩ : ∃ es0 rest0, allS s [] s.rows.toNat = es0 :: rest0 := by
  cases h : allS s [] s.rows.toNat with
  | nil => exact absurd h (allS_ne hsh (by omega))
  | cons a l => exact ⟨a, l, rfl⟩
 have hvw : (sheetL s).map AV.vw1 = sheetL s := by simp [sheetL, vI, ints, AV.vw1]
 have h := ac46 hG (sA := sheetL s) (F := frontL s) (sets := allS s [] s.rows.toNat) (rows := rowsR s) (wd := wdR s) rfl (frontL_len s) (by
   intro x hx
   simp [sheetL] at hx
   rcases hx with rfl | rfl | rfl | rfl | rfl | rfl | rfl | rfl | rfl | rfl <;> rfl) (frontL_vw s) (by
   intro x hx
   simp [frontL, sheetL] at hx
   rcases hx with rfl | rfl | rfl | rfl | rfl | rfl | rfl | rfl | rfl | rfl | rfl <;> rfl) (by omega) hne (by
   rw [hvw]
   have := ac96 hG s hs
   rw [hsh] at this
   exact this) (by rw [hvw]; exact ac80f hG s hsh) (it_set hG s hsh [] (by simp)) (fun es h => by
   obtain ⟨h1, h2⟩ := allS_good hsh (outI_nil hsh) h
   have := ac81 hG s hsh [] (by simp) es (by omega) (good_of hsh h1)
   have e : linesL s [] es es.length = (rowsR s es).map lineA := by
    unfold linesL rowsR
    rw [List.map_map]; rfl
   rw [e] at this
   exact this) (fun es h => by
   have := (allS_good hsh (outI_nil hsh) h).2
   unfold rowsR; simp; omega) (fun es h r hr => by
   obtain ⟨h1, h2⟩ := allS_good hsh (outI_nil hsh) h
   have g := good_of hsh h1
   unfold rowsR at hr
   obtain ⟨i, hi, rfl⟩ := List.mem_map.1 hr
   rw [List.mem_range] at hi
   rw [wdR_row]
   exact ac84 hG s hsh (rowI_ne g hi) (rowI_len hsh g i) (fun x hx => rowI_mem g hx) (cutI s es i) (by omega) (by omega))
 have e : (allS s [] s.rows.toNat).map (fun es => widest (wdR s) (rowsR s es)) = (allS s [] s.rows.toNat).map fun es => maxL (widthsI s [] es 0) := List.map_congr_left fun es _ => rows_wide s es
 rw [e] at h
 exact h
theorem foldl_less_take {l : List Int} {i : Nat} (a : Int) (h : i < l.length) : (l.take (i + 1)).foldl less2 a = min ((l.take i).foldl less2 a) l[i] := by
 rw [List.take_succ_eq_append_getElem h, List.foldl_append]
 show less2 _ _ = _
 unfold less2
 split <;> omega
set_option maxHeartbeats 1000000 in
theorem ac48 (hG : Stable GI) (s : Sheet) (hsh : sheetI s = true) : AC prog GI 48 [sheetA s] (.ret (.int .i64 (narrowI s))) := by
 have hr := (sheetF hsh).rows
 have hal := allS_len hsh [] (m := s.rows.toNat) (by omega)
 have a105 := ac105 hG s hsh [] (by simp)
 have hA : ∀ es ∈ allS s [] s.rows.toNat, AC prog GI 66 [sheetA s, settingA [] es, .int .i64 0] (.ret (vI (widthsI s [] es 0))) ∧ AC prog GI 94 [vI (widthsI s [] es 0)] (.ret (.int .i64 (maxL (widthsI s [] es 0)))) := fun es h => by
  obtain ⟨h1, h2⟩ := allS_good hsh (outI_nil hsh) h
  exact ⟨ac66 hG s (sheet_slim hsh) hsh [] (by simp) es (by omega) (setR_parts h1).2.1 (good_of hsh h1) (by omega) (by omega), ac94 hG _ (by rw [widthsI_len]; omega)⟩
 obtain ⟨es0, rest0, hne⟩ : ∃ es0 rest0, allS s [] s.rows.toNat = es0 :: rest0 := by
  cases h : allS s [] s.rows.toNat with
  | nil => exact absurd h (allS_ne hsh (by omega))
  | cons a l => exact ⟨a, l, rfl⟩
 have hN : narrowI s = ((allS s [] s.rows.toNat).map fun es => maxL (widthsI s [] es 0)).foldl less2 (maxL (widthsI s [] es0 0)) := by
  unfold narrowI
  rw [hne, List.map_cons]
  show _ = List.foldl less2 (less2 _ _) _
  have : less2 (maxL (widthsI s [] es0 0)) (maxL (widthsI s [] es0 0)) = maxL (widthsI s [] es0 0) := by unfold less2; split <;> rfl
  rw [this]; rfl
 have h0 : ∃ h : 0 < (allS s [] s.rows.toNat).length, (allS s [] s.rows.toNat)[0] = es0 := by
  refine ⟨by rw [hne]; simp, by simp only [hne]; rfl⟩
 have hA0 := hA es0 (by rw [hne]; exact List.mem_cons_self)
 rw [hN]
 clear hN hne
 generalize allS s [] s.rows.toNat = A at *
 obtain ⟨hp, h0⟩ := h0
 refine AC.of_body hG hmix func48 rfl ntmps48 (by simp) (ac := c48) (by kernel_rfl) ?_
 refine awp_cut (fun S H => S 1 = .box 1 0 ∧ H 1 = some (sheetL s)) (by simp [sheetA, sheetL]) ?_
 rintro S H ⟨s1, e1⟩
 refine awp_cut (fun S H => S 1 = .box 1 0 ∧ H 1 = some (sheetL s) ∧ S 3 = .slice .view (A.map (settingA []))) ?_ ?_
 ·simp [s1, e1, sheetL]
  refine ⟨_, by kernel_rfl, a105, by simp [boxy], ?_⟩
  simp [s1, e1, sheetL]
 clear s1 e1 S H
 rintro S H ⟨s1, e1, s3⟩
 refine awp_cut (fun S H => S 1 = .box 1 0 ∧ H 1 = some (sheetL s) ∧ S 3 = .slice .view (A.map (settingA [])) ∧ S 4 = .int .i64 (maxL (widthsI s [] es0 0))) ?_ ?_
 ·simp [s1, e1, s3, sheetL, hp, h0, setting_eq]
  refine ⟨_, by kernel_rfl, hA0.1, by simp [boxy], ?_⟩
  simp [s1, e1, s3, sheetL]
  refine ⟨_, by kernel_rfl, hA0.2, by simp [boxy], ?_⟩
  simp [s1, e1, s3, sheetL]
 clear s1 e1 s3 S H
 rintro S H ⟨s1, e1, s3, s4⟩
 simp [s1, e1, s3, s4]
 refine awp_loop 5 A.length (fun i S H => S 1 = .box 1 0 ∧ H 1 = some (sheetL s) ∧ S 3 = .slice .view (A.map (settingA [])) ∧ S 5 = .int .i64 (i : Nat) ∧ S 4 = .int .i64 (((A.map fun es => maxL (widthsI s [] es 0)).take i).foldl less2 (maxL (widthsI s [] es0 0)))) (fun i S H h => h.2.2.2.1) ⟨by simp [s1], by simp [e1], by simp [s3], by simp, by simp [s4]⟩ ?_
 clear s1 e1 s3 s4 S H
 rintro i hi S H ⟨s1, e1, s3, s5, s4⟩
 by_cases hlt : i < A.length
 case neg =>
  have hil : i = A.length := by omega
  subst hil
  rw [List.take_of_length_le (by simp)] at s4
  simp [s1, e1, s3, s5, s4]
 have hw : IntKind.i64.wrap ((i : Int) + 1) = i + 1 := wrapI (by omega)
 have hAi := hA A[i] (List.getElem_mem hlt)
 rw [foldl_less_take _ (by simpa using hlt), List.getElem_map]
 generalize ((A.map fun es => maxL (widthsI s [] es 0)).take i).foldl less2 (maxL (widthsI s [] es0 0)) = o at *
 simp [s1, e1, s3, s5, s4, sheetL, hlt, setting_eq]
 refine ⟨_, by kernel_rfl, hAi.1, by simp [boxy], ?_⟩
 simp [s1, e1, s3, s5, s4, sheetL]
 refine ⟨_, by kernel_rfl, hAi.2, by simp [boxy], ?_⟩
 simp [s1, e1, s3, s5, s4, sheetL, hlt, hw]
theorem ac8 (hG : Stable GI) (hML : ML GI) (s : Sheet) : AC prog GI 8 [sheetA s] (.ret (.bool true)) := by
 have hk := ac24 hG hML
 refine AC.of_body hG hmix func8 rfl ntmps8 (by simp) (ac := c8) (by kernel_rfl) ?_
 refine awp_cut (fun S H => S 1 = .box 1 0 ∧ H 1 = some (sheetL s)) (by simp [sheetA, sheetL]) ?_
 rintro S H ⟨s1, e1⟩
 simp [s1, e1, sheetL]
 refine ⟨_, by kernel_rfl, ac29 hG s, fun _ => rfl, ?_⟩
 cases hsI : shortI s
 ·simp [s1, e1, sheetL]
  refine ⟨_, by kernel_rfl, hk, fun _ => rfl, ?_⟩
  simp
 have hs := shortI_slim hsI
 have a45 := ac45 hG s hs
 have a46 := ac46f hG s hs
 unfold countO at a45
 unfold narrowO at a46
 simp [s1, e1, sheetL]
 cases hsh : sheetI s
 ·rw [hsh] at a45 a46
  refine ⟨_, by kernel_rfl, a45, by simp [boxy], ?_⟩
  simp [s1, e1, sheetL]
  refine ⟨_, by kernel_rfl, a46, by simp [boxy], ?_⟩
  simp [s1, e1, sheetL]
  refine ⟨_, by kernel_rfl, ac33 hG s hs, fun _ => rfl, ?_⟩
  rw [hsh]
  simp [s1, e1, sheetL]
  refine ⟨_, by kernel_rfl, hk, fun _ => rfl, ?_⟩
  simp
 rw [hsh, if_pos rfl] at a45 a46
 refine ⟨_, by kernel_rfl, a45, by simp [boxy], ?_⟩
 simp [s1, e1, sheetL]
 refine ⟨_, by kernel_rfl, a46, by simp [boxy], ?_⟩
 simp [s1, e1, sheetL]
 refine ⟨_, by kernel_rfl, ac33 hG s hs, fun _ => rfl, ?_⟩
 rw [hsh]
 simp [s1, e1, sheetL]
 refine ⟨_, by kernel_rfl, ac47 hG s hsh, by simp [boxy], ?_⟩
 simp [s1, e1, sheetL]
 refine ⟨_, by kernel_rfl, ac48 hG s hsh, by simp [boxy], ?_⟩
 simp [s1, e1, sheetL]
 refine ⟨_, by kernel_rfl, hk, fun _ => rfl, ?_⟩
 simp
end Go.Proofs.Tryz
namespace Go.Proofs.YtjdgdinalodjfaaGreatDoor
open Go Go.AL Go.ChangeShapes Go.WideShapes Go.ChangeAt Go.RowKit Go.Proofs.Tryz
set_option maxRecDepth 100000
namespace Counts
abbrev row : OpenClaim := Rows.letterCountsRow
abbrev spec : ChangeSpec := Rows.letterCountsSpec
theorem call (W : World) (base : Nat) (args : Array Value) {H : Type} {enc : TypeId × Value → H} (ds : List (DataW H)) (p : List MemPlace) (hG : GI W) (hval : ∀ (j : Nat) t v, Tryz.f8.params[j]? = some t → args[j]? = some v → Value.okWide Tryz.prog W .any base t v)
  (hA : DataW.TrodAll enc Tryz.prog W 0 (fun _ => true) true Tryz.f8.params.toList args.toList ds p) : Calls Tryz.prog 8 args W fun e W' => e = .returned (.bool true) ∧ Below W.heap.size W W' := by
 rw [Tryz.params8] at hA hval
 obtain ⟨v0, vs0, d0, ds0, p0, q0, e0, rfl, rfl, h0, hr1⟩ := trodAll_cons hA
 obtain ⟨rfl, rfl, rfl⟩ := trodAll_nil hr1
 obtain rfl : args = #[v0] := by
  apply Array.toList_inj.1; rw [e0]
 obtain ⟨x0, g0, a0⟩ := open_sheet (hval 0 28 v0 rfl rfl) h0
 refine calls_of (ac8 gi_stable (fun _ h => h) x0) hG rfl fun i h h' => ?_
 match i, h with
 | 0, _ => exact .data _ _ a0
theorem w1 (os : Os) : ((World.laidAll Tryz.prog os row.laid).forCall (fun _ _ => 0) ⟨#[], #[.agg #[.slice none 0 0, .slice none 0 0, .int .i64 0, .int .i64 0, .int .i64 0, .int .i64 0, .int .i64 0, .slice none 0 0, .int .i64 0, .int .i64 0]], []⟩).Shaped Tryz.checked.prog :=
 World.shaped_of_ZipB (by kernel_rfl) (by kernel_rfl)
theorem lifted (os : Os) (started : os.Started) (H : Type) (enc : TypeId × Value → H) :
  ReturnsInHanded {} Tryz.checked os 8 .any (fun w args => (spec.pre enc Tryz.prog Tryz.f8 row.domain false w args ∧ laidMetH Tryz.prog row.laid w) ∧ sizedMet enc Tryz.prog Tryz.f8 (OpenSpec.ofChange spec) false w args)
   (spec.post enc Tryz.prog Tryz.f8 false true false false) := by
 refine lifted_of 8 Tryz.f8 Tryz.func8 (by kernel_rfl) (by kernel_rfl) spec rfl ?_ ?_ os started _ 12 (w1 os) (by kernel_rfl) (by kernel_rfl) (by kernel_rfl) ?_ (fun W base args ds p => call W base args ds p)
 ·intro ds hl
  rw [show Tryz.f8.params.size = 1 by kernel_rfl] at hl
  match ds, hl with
  | [d0], _ => rfl
 ·rw [Tryz.params8]
  intro t ht
  have : t = 28 := by simpa using ht
  rcases this with rfl
  all_goals exact ⟨by kernel_rfl, of_decide_eq_true (by kernel_rfl)⟩
 ·rw [MakeChecks.laidMetH_plain _ _ _ (by kernel_rfl)]; exact laidMet_laidAll _ (by kernel_rfl) (by kernel_rfl)
theorem f_named : Tryz.prog.funcNamed "mahlstick/mahlsticklaw01.LetterCounts" = some 8 := by kernel_rfl
theorem f_inPlace : (row.inPlace == Tryz.prog.inPlace 8) = true := by kernel_rfl
theorem f_unfollowed : (row.unfollowed == Tryz.prog.unfollowed 8) = true := by kernel_rfl
theorem f_recurses : (row.recurses == Tryz.prog.recurses 8) = true := by kernel_rfl
theorem f_vars : (row.named == Tryz.prog.varsNamed 8) = true := by kernel_rfl
theorem joined : joinedFacts Tryz.prog 8 Tryz.f8 spec row = true :=
 joined_of ⟨rfl, rfl, rfl, rfl, rfl, rfl⟩ (by kernel_rfl) (by kernel_rfl) (by kernel_rfl) f_inPlace f_unfollowed f_recurses f_vars (by kernel_rfl) (by kernel_rfl) (by kernel_rfl) (by kernel_rfl)
theorem instanceOf : Tryz.f8.isInstance Tryz.prog row.origin row.targs := of_decide_eq_true (by kernel_rfl)
theorem wrapperOf : Tryz.f8.isWrapper Tryz.prog row.wrapper row.mainSum := by
 unfold Func.isWrapper
 rw [if_neg (by decide +kernel)]
 exact ⟨rfl, rfl⟩
theorem holds : Rows.LetterCountsSaid :=
 OpenClaim.holds_of_wide 8 Tryz.f8 rfl rfl rfl rfl rfl rfl rfl ⟨rfl, rfl, rfl, rfl, rfl⟩ rfl rfl rfl rfl rfl f_named Tryz.func8 joined instanceOf wrapperOf (fun os started H enc _ => lifted os started H enc)
theorem f_wf : row.wfByText (OpenSpec.ofChange spec) = true := by kernel_rfl
theorem f_goes : false = row.goesBy Tryz.prog := by kernel_rfl
theorem f_stand : ([28].all fun u => !Tryz.prog.wantsStandIn u) = true := by kernel_rfl
theorem f_main : Tryz.prog.mainIs = some (true, "c6c35c26350f8f1001e286baba07dbfbfaca16fe3311917b4f7043a2b45b2948".toList) := by rw [p_mainIs, p_sum]
theorem card : Rows.LetterCountsCardSaid :=
 Claim7.holds_tied_plain_at .later [] [.data, .data, .data, .data, .pinned] true (true, "c6c35c26350f8f1001e286baba07dbfbfaca16fe3311917b4f7043a2b45b2948") true holds (fun _ h => by cases h) f_wf (fun _ h => by cases h) letterCounts_row_tie rfl ⟨rfl, rfl⟩ f_main rfl
  (fun f fn hf hfn => by
   obtain rfl : f = 8 := Option.some.inj (f_named.symm.trans hf) |>.symm
   obtain rfl : fn = Tryz.f8 := (Option.some.inj (Tryz.func8.symm.trans hfn)).symm
   refine ⟨p_looks, fun j t ht => ?_⟩
   rw [Tryz.params8] at ht
   have hm : t ∈ [28] := by
    simpa using Array.mem_of_getElem? ht
   exact (show Tryz.prog.wantsStandIn t = false by simpa using List.all_eq_true.1 f_stand t hm))
  f_goes
end Counts
#print axioms Counts.card
end Go.Proofs.YtjdgdinalodjfaaGreatDoor
