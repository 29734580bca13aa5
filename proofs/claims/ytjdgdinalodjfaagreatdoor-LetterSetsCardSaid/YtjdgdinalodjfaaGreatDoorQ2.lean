/-
  The statement's function LetterSets returns true and leaves its argument as it is, for every sheet; no condition. The texts before this one hold the layer of abstract values, the code of the functions that are reached, and their contracts.
-/
import Derived.Test.YtjdgdinalodjfaaGreatDoorA3
import Derived.Test.YtjdgdinalodjfaaGreatDoorP1
import Derived.Test.YtjdgdinalodjfaaGreatDoorQ1
set_option linter.all false
set_option linter.unusedVariables false
set_option linter.unusedSimpArgs false
set_option linter.deprecated false
namespace Go.Proofs.Tryz
open Go.AL
structure Renum (s x : Sheet) (out : List Int) (k : Nat → Nat) (N : Nat) : Prop where
 pos : 0 < N
 n : x.words.length = N
 lt : ∀ i, i < N → k i < s.words.length
 mono : ∀ i, i + 1 < N → k i < k (i + 1)
 inn : ∀ i, i < N → out.contains (k i : Int) = false
 gap : ∀ i, i + 1 < N → ∀ j, k i < j → j < k (i + 1) → out.contains (j : Int) = true
 first : ∀ j, j < k 0 → out.contains (j : Int) = true
 last : ∀ j, k (N - 1) < j → j < s.words.length → out.contains (j : Int) = true
 word : ∀ i, i < N → x.words[i]? = s.words[k i]?
 h1 : x.widths = s.widths
 h2 : x.pairs = s.pairs
 h3 : x.olo = s.olo
 h4 : x.ohi = s.ohi
 h5 : x.glo = s.glo
 h6 : x.ghi = s.ghi
 h7 : x.hyphen = s.hyphen
 h8 : x.wide = s.wide
 h9 : x.rows = s.rows
section
variable {s x : Sheet} {out : List Int} {k : Nat → Nat} {N : Nat}
theorem Renum.lenW (h : Renum s x out k N) {i : Nat} (hi : i < N) : lenW x i = lenW s (k i) := by
 unfold Tryz.lenW
 rw [h.word i hi]
theorem Renum.mono' (h : Renum s x out k N) : ∀ d i, i + d + 1 < N → k i < k (i + d + 1)
 | 0, i, hi => h.mono i hi
 | d + 1, i, hi => Nat.lt_trans (h.mono' d i (by omega)) (h.mono (i + d + 1) hi)
theorem Renum.lt_iff (h : Renum s x out k N) {i j : Nat} (hi : i < N) (hj : j < N) : k i < k j ↔ i < j := by
 constructor
 ·intro hk
  by_cases hij : i < j
  ·exact hij
  ·by_cases he : i = j
   ·subst he; omega
   ·have := h.mono' (i - j - 1) j (by omega)
    rw [show j + (i - j - 1) + 1 = i by omega] at this
    omega
 ·intro hij
  have := h.mono' (j - i - 1) i (by omega)
  rwa [show i + (j - i - 1) + 1 = j by omega] at this
theorem Renum.inj (h : Renum s x out k N) {i j : Nat} (hi : i < N) (hj : j < N) (he : k i = k j) : i = j := by
 have h1 := h.lt_iff hi hj
 have h2 := h.lt_iff hj hi
 omega
theorem rowN_skip {d t : Nat} : ∀ (m w : Nat), (∀ j, w ≤ j → j < w + m → out.contains (j : Int) = true) → rowN s out (m + d) w 0 t = rowN s out d (w + m) 0 t
 | 0, w, _ => by rw [Nat.zero_add, Nat.add_zero]
 | m + 1, w, h => by
  rw [show m + 1 + d = (m + d) + 1 by omega]
  show (if out.contains (w : Int) then [] else seg w 0 (lenW s w)) ++ rowN s out (m + d) (w + 1) 0 t = _
  rw [h w (by omega) (by omega), if_pos rfl, List.nil_append, rowN_skip m (w + 1) (fun j h1 h2 => h j (by omega) (by omega)), show w + 1 + m = w + (m + 1) by omega]
def phi (k : Nat → Nat) (g : Nat × Nat) : Nat × Nat := (k g.1, g.2)
theorem seg_phi (w f t : Nat) : (seg w f t).map (phi k) = seg (k w) f t := by
 unfold seg
 rw [List.map_map]; rfl
theorem Renum.rowN (h : Renum s x out k N) {t : Nat} : ∀ d w f, w + d < N → (rowN x [] d w f t).map (phi k) = rowN s out (k (w + d) - k w) (k w) f t
 | 0, w, f, _ => by
  rw [Nat.add_zero, Nat.sub_self]
  exact seg_phi w f t
 | d + 1, w, f, hw => by
  have m1 := h.mono w (by omega)
  have m2 : k (w + 1) ≤ k (w + 1 + d) := by
   cases d with
   | zero => exact Nat.le_refl _
   | succ d => exact Nat.le_of_lt (h.mono' d (w + 1) (by omega))
  rw [show w + (d + 1) = w + 1 + d by omega]
  rw [show k (w + 1 + d) - k w = ((k (w + 1) - k w - 1) + (k (w + 1 + d) - k (w + 1))) + 1 by omega]
  show List.map (phi k) ((if ([] : List Int).contains (w : Int) then [] else seg w f (Tryz.lenW x w)) ++ Tryz.rowN x [] d (w + 1) 0 t) = (if out.contains (k w : Int) then [] else seg (k w) f (Tryz.lenW s (k w))) ++ Tryz.rowN s out ((k (w + 1) - k w - 1) + (k (w + 1 + d) - k (w + 1))) (k w + 1) 0 t
  rw [if_neg (by simp), h.inn w (by omega), if_neg (by simp), List.map_append, seg_phi, h.lenW (by omega), h.rowN d (w + 1) 0 (by omega), rowN_skip _ _ fun j h1 h2 => h.gap w (by omega) j (by omega) (by omega), show k w + 1 + (k (w + 1) - k w - 1) = k (w + 1) by omega]
def phE (k : Nat → Nat) (e : End) : End := ((k e.1.toNat : Int), e.2)
theorem nE_phE (e : End) : nE (phE k e) = phi k (nE e) := rfl
theorem aft_succ (es : List End) (i : Nat) : aft es (i + 1) = match es[i]? with | some e => nE e | none => (0, 0) := rfl
theorem aft_map (es : List End) (i : Nat) : aft (es.map (phE k)) (i + 1) = if i < es.length then phi k (aft es (i + 1)) else (0, 0) := by
 rw [aft_succ, aft_succ, List.getElem?_map]
 by_cases hi : i < es.length
 ·rw [List.getElem?_eq_getElem hi, if_pos hi]; rfl
 ·rw [List.getElem?_eq_none (by omega), if_neg hi]; rfl
def InR (N : Nat) (es : List End) : Prop := ∀ e ∈ es, 0 ≤ e.1 ∧ e.1.toNat < N
theorem Renum.rowI (h : Renum s x out k N) {es : List End} (hr : InR N es) (hs : ∀ j (hj : j + 1 < es.length), es[j].1.toNat ≤ es[j + 1].1.toNat) (i : Nat) (hi : i < es.length) : (rowI x [] es i).map (phi k) = rowI s out (es.map (phE k)) i := by
 have hil : i < (es.map (phE k)).length := by rw [List.length_map]; exact hi
 rw [rowI_eq hi, rowI_eq hil, List.getElem_map, nE_phE]
 have he := hr _ (List.getElem_mem hi)
 cases i with
 | zero =>
  have h0 := h.rowN (t := (nE es[0]).2) (nE es[0]).1 0 0 (by rw [Nat.zero_add]; exact he.2)
  show List.map (phi k) (Tryz.rowN x [] ((nE es[0]).1 - 0) 0 0 (nE es[0]).2) = Tryz.rowN s out (k (nE es[0]).1 - 0) 0 0 (nE es[0]).2
  rw [Nat.sub_zero, Nat.sub_zero, h0, Nat.zero_add]
  have hk : k 0 ≤ k (nE es[0]).1 := by
   by_cases hz : (nE es[0]).1 = 0
   ·rw [hz]; exact Nat.le_refl _
   ·exact Nat.le_of_lt ((h.lt_iff h.pos he.2).2 (Nat.pos_of_ne_zero hz))
  have := rowN_skip (s := s) (out := out) (d := k (nE es[0]).1 - k 0) (t := (nE es[0]).2) (k 0) 0 fun j _ h2 => h.first j (by omega)
  rw [show k 0 + (k (nE es[0]).1 - k 0) = k (nE es[0]).1 by omega, Nat.zero_add] at this
  exact this.symm
 | succ i =>
  have ha : aft es (i + 1) = nE es[i] := by rw [aft_succ, List.getElem?_eq_getElem (by omega)]
  have hb := hr _ (List.getElem_mem (by omega : i < es.length))
  have hle := hs i hi
  rw [aft_map, if_pos (by omega), ha]
  have := h.rowN (t := (nE es[i + 1]).2) ((nE es[i + 1]).1 - (nE es[i]).1) (nE es[i]).1 (nE es[i]).2 (by
   show es[i].1.toNat + (es[i + 1].1.toNat - es[i].1.toNat) < N
   have := he.2; omega)
  rw [show (nE es[i]).1 + ((nE es[i + 1]).1 - (nE es[i]).1) = (nE es[i + 1]).1 by show es[i].1.toNat + (es[i + 1].1.toNat - es[i].1.toNat) = es[i + 1].1.toNat; omega] at this
  exact this
theorem Renum.cutI (h : Renum s x out k N) {es : List End} (hr : InR N es) (i : Nat) (hi : i < es.length) : cutI x es i = cutI s (es.map (phE k)) i := by
 have hil : i < (es.map (phE k)).length := by rw [List.length_map]; exact hi
 rw [cutI_eq hi, cutI_eq hil, List.getElem_map]
 show decide (es[i].2 < (Tryz.lenW x es[i].1.toNat : Int)) = decide (es[i].2 < (Tryz.lenW s ((k es[i].1.toNat : Int)).toNat : Int))
 rw [Int.toNat_natCast, h.lenW (hr _ (List.getElem_mem hi)).2]
theorem Renum.let2 (h : Renum s x out k N) {g : Nat × Nat} (hg : g.1 < N) : (letS x g).2 = (letS s (phi k g)).2 := by
 unfold letS phi
 simp only
 rw [h.word _ hg]
theorem Renum.wdL (h : Renum s x out k N) {a b : Lt} (he : a.2 = b.2) : wdL x a = wdL s b := by
 unfold Tryz.wdL
 rw [he, h.h1, h.h7]
theorem Renum.spc (h : Renum s x out k N) (st : Int) {f g : Nat × Nat} (hf : f.1 < N) (hg : g.1 < N) : spc x st (letS x f) (letS x g) = spc s st (letS s (phi k f)) (letS s (phi k g)) := by
 have e : spanS x (letS x f) (letS x g) = spanS s (letS s (phi k f)) (letS s (phi k g)) := by
  unfold spanS
  rw [h.let2 hf, h.let2 hg, h.h2, h.h3, h.h4, h.h5, h.h6]
  by_cases he : f.1 = g.1
  ·rw [if_pos (by unfold letS; simp only; omega), if_pos (by unfold letS phi; simp only; rw [he])]
  ·rw [if_neg (by unfold letS; simp only; omega), if_neg]
   unfold letS phi
   simp only
   intro hc
   exact he (h.inj hf hg (by omega))
 unfold Tryz.spc
 rw [e]
theorem Renum.wideP (h : Renum s x out k N) (st : Int) {l : List (Nat × Nat)} (hl : ∀ g ∈ l, g.1 < N) (cut : Bool) : wideP x st (l.map (letS x)) cut = wideP s st ((l.map (phi k)).map (letS s)) cut := by
 have e1 : ∀ i, letsS x (l.map (letS x)) i = letsS s ((l.map (phi k)).map (letS s)) i := by
  intro i
  induction i with
  | zero => rfl
  | succ i ih =>
   unfold letsS
   rw [ih, List.map_map, List.getElem?_map, List.getElem?_map]
   by_cases hi : i < l.length
   ·rw [List.getElem?_eq_getElem hi]
    show _ + Tryz.wdL x (letS x l[i]) = _ + Tryz.wdL s (letS s (phi k l[i]))
    rw [h.wdL (h.let2 (hl _ (List.getElem_mem hi)))]
   ·rw [List.getElem?_eq_none (by omega)]; rfl
 have e2 : ∀ i, gapsS x st (l.map (letS x)) i = gapsS s st ((l.map (phi k)).map (letS s)) i := by
  intro i
  induction i with
  | zero => rfl
  | succ i ih =>
   unfold gapsS
   rw [ih, List.map_map, List.getElem?_map, List.getElem?_map, List.getElem?_map, List.getElem?_map]
   by_cases hi : i + 1 < l.length
   ·rw [List.getElem?_eq_getElem (by omega : i < l.length), List.getElem?_eq_getElem hi]
    show _ + Tryz.spc x st (letS x l[i]) (letS x l[i + 1]) = _ + Tryz.spc s st (letS s (phi k l[i])) (letS s (phi k l[i + 1]))
    rw [h.spc st (hl _ (List.getElem_mem _)) (hl _ (List.getElem_mem hi))]
   ·rw [List.getElem?_eq_none (by omega : l.length ≤ i + 1)]
    cases l[i]? <;> rfl
 unfold Tryz.wideP
 rw [e1, e2, h.h3, h.h4, h.h7]
 simp only [List.length_map]
end
end Go.Proofs.Tryz
namespace Go.Proofs.Tryz
open Go.AL
section
variable {s x : Sheet} {out : List Int} {k : Nat → Nat} {N : Nat}
theorem Renum.lastN (h : Renum s x out k N) : Tryz.lastN out s.words.length = (k (N - 1) : Int) := by
 have hp := h.pos
 have hl := h.lt (N - 1) (by omega)
 have : ∀ n, k (N - 1) < n → n ≤ s.words.length → Tryz.lastN out n = (k (N - 1) : Int) := by
  intro n
  induction n with
  | zero => intro h1; omega
  | succ n ih =>
   intro h1 h2
   unfold Tryz.lastN
   by_cases he : n = k (N - 1)
   ·subst he; rw [h.inn _ (by omega)]; rfl
   ·rw [h.last n (by omega) (by omega), if_pos rfl]; exact ih (by omega) (by omega)
 exact this _ hl (Nat.le_refl _)
theorem Renum.okE (h : Renum s x out k N) {e : End} (h0 : 0 ≤ e.1) (hn : e.1.toNat < N) : Tryz.okE x [] e = true ↔ Tryz.okE s out (phE k e) = true := by
 rw [okE_iff, okE_iff]
 have hk := h.lt _ hn
 have hx : e.1.toNat < x.words.length := by rw [h.n]; exact hn
 have hw := h.word _ hn
 rw [List.getElem?_eq_getElem hx, List.getElem?_eq_getElem hk] at hw
 have hw := Option.some.inj hw
 have hi := h.inn _ hn
 constructor
 ·rintro ⟨_, _, _, h3⟩
  refine ⟨by show (0 : Int) ≤ (k e.1.toNat : Int); omega, ?_, ?_⟩
  ·show ¬ (k e.1.toNat : Int) ∈ out
   simpa using hi
  ·refine ⟨by show (k e.1.toNat : Int).toNat < _; omega, ?_⟩
   show e.2 = ((s.words[(k e.1.toNat : Int).toNat]'_).signs.length : Int) ∨ e.2 ∈ (s.words[(k e.1.toNat : Int).toNat]'_).cuts
   simp only [Int.toNat_natCast]
   rw [← hw]; exact h3
 ·rintro ⟨_, _, _, h3⟩
  refine ⟨h0, by simp, hx, ?_⟩
  have h3 : e.2 = ((s.words[(k e.1.toNat : Int).toNat]'(by rw [Int.toNat_natCast]; exact hk)).signs.length : Int) ∨ e.2 ∈ (s.words[(k e.1.toNat : Int).toNat]'(by rw [Int.toNat_natCast]; exact hk)).cuts := h3
  simp only [Int.toNat_natCast] at h3
  rw [hw]; exact h3
theorem Renum.sooner (h : Renum s x out k N) {a b : End} (ha : 0 ≤ a.1 ∧ a.1.toNat < N) (hb : 0 ≤ b.1 ∧ b.1.toNat < N) : soonerI a b = soonerI (phE k a) (phE k b) := by
 have h1 := h.lt_iff ha.2 hb.2
 have h2 : k a.1.toNat = k b.1.toNat ↔ a.1.toNat = b.1.toNat := ⟨h.inj ha.2 hb.2, fun e => by rw [e]⟩
 unfold soonerI phE
 rw [Bool.eq_iff_iff]
 simp only [Bool.or_eq_true, Bool.and_eq_true, decide_eq_true_eq, beq_iff_eq]
 omega
theorem Renum.setR (h : Renum s x out k N) (ho : outI s out = true) (hx : outI x [] = true) {es : List End} (hr : InR N es) : Tryz.setR x [] es = Tryz.setR s out (es.map (phE k)) := by
 have hlast : (es.getLast?.getD (-1, 0) == lastE x []) = ((es.map (phE k)).getLast?.getD (-1, 0) == lastE s out) ∨ es = [] := by
  by_cases hne : es = []
  ·exact .inr hne
  refine .inl ?_
  obtain ⟨e, he⟩ : ∃ e, es.getLast? = some e := by cases hh : es.getLast? with | none => exact absurd (List.getLast?_eq_none_iff.1 hh) hne | some e => exact ⟨e, rfl⟩
  have hem := List.mem_of_getLast? he
  have hee := hr e hem
  have hp := h.pos
  rw [List.getLast?_map, he]
  show (e == lastE x []) = (phE k e == lastE s out)
  have e1 : lastE x [] = (((N - 1 : Nat) : Int), (Tryz.lenW x (N - 1) : Int)) := lastE_nil (by rw [h.n]; omega)
  have e2 : lastE s out = ((k (N - 1) : Int), (Tryz.lenW s (k (N - 1)) : Int)) := by
   unfold lastE
   rw [h.lastN, Int.toNat_natCast]
   unfold Tryz.lenW
   rw [List.getElem?_eq_getElem (h.lt _ (by omega))]
  rw [e1, e2, h.lenW (by omega), Bool.eq_iff_iff, beq_iff_eq, beq_iff_eq]
  constructor
  ·rintro rfl
   show ((k ((N - 1 : Nat) : Int).toNat : Int), (Tryz.lenW s (k (N - 1)) : Int)) = _
   rw [Int.toNat_natCast]
  ·intro hh
   have a1 : (k e.1.toNat : Int) = (k (N - 1) : Int) := congrArg Prod.fst hh
   have a2 : e.2 = (Tryz.lenW s (k (N - 1)) : Int) := congrArg Prod.snd hh
   have := h.inj hee.2 (by omega) (by omega : k e.1.toNat = k (N - 1))
   exact Prod.ext (by show e.1 = ((N - 1 : Nat) : Int); omega) a2
 rcases hlast with hlast | rfl
 ·unfold Tryz.setR
  rw [ho, hx, hlast]
  have e1 : (es.map (phE k)).isEmpty = es.isEmpty := by cases es <;> rfl
  have e2 : adjI (Tryz.okE x []) soonerI es = adjI (Tryz.okE s out) soonerI (es.map (phE k)) := by
   rw [Bool.eq_iff_iff, adjI_iff, adjI_iff]
   constructor
   ·rintro ⟨h1, h2⟩
    refine ⟨fun e he => ?_, fun j hj => ?_⟩
    ·obtain ⟨e', he', rfl⟩ := List.mem_map.1 he
     exact (h.okE (hr _ he').1 (hr _ he').2).1 (h1 _ he')
    ·have hj' : j + 1 < es.length := by simpa using hj
     rw [List.getElem_map, List.getElem_map, ← h.sooner (hr _ (List.getElem_mem _)) (hr _ (List.getElem_mem _))]
     exact h2 j hj'
   ·rintro ⟨h1, h2⟩
    refine ⟨fun e he => ?_, fun j hj => ?_⟩
    ·exact (h.okE (hr _ he).1 (hr _ he).2).2 (h1 _ (List.mem_map_of_mem he))
    ·have := h2 j (by simpa using hj)
     rw [List.getElem_map, List.getElem_map, ← h.sooner (hr _ (List.getElem_mem _)) (hr _ (List.getElem_mem _))] at this
     exact this
  rw [e1, e2]
 ·unfold Tryz.setR
  simp
theorem Renum.fitI (h : Renum s x out k N) {es : List End} (hr : InR N es) (hs : ∀ j (hj : j + 1 < es.length), es[j].1.toNat ≤ es[j + 1].1.toNat) (hin : ∀ i, i < es.length → ∀ g ∈ Tryz.rowI x [] es i, g.1 < N) (st : Int) : Tryz.fitI x [] es st = Tryz.fitI s out (es.map (phE k)) st := by
 have e : widthsI x [] es st = widthsI s out (es.map (phE k)) st := by
  unfold widthsI
  rw [List.length_map]
  refine List.map_congr_left fun i hi => ?_
  have hi : i < es.length := List.mem_range.1 hi
  unfold wideI
  rw [h.wideP st (hin i hi), h.rowI hr hs i hi, h.cutI hr i hi]
 unfold Tryz.fitI
 rw [e, List.length_map, h.h8, h.h9]
end
end Go.Proofs.Tryz
namespace Go.Proofs.Tryz
open Go.AL
end Go.Proofs.Tryz
namespace Go.Proofs.Tryz
open Go.AL
end Go.Proofs.Tryz
namespace Go.Proofs.Tryz
open Go.AL
end Go.Proofs.Tryz
namespace Go.Proofs.Tryz
open Go.AL
variable {s : Sheet} {x y : List End}
def betterE (s : Sheet) : List End → List End → Bool := betterB List.length (mostI s [])
end Go.Proofs.Tryz
namespace Go.AL
theorem awpF_go {P : Program} {GI : World → Prop} {i k : Nat} {x y : ACode} {Q : AExit → Slots → Boxes → Prop} {S : Slots} {H : Boxes} (K : Slots → Boxes → Prop) (hx : awp P GI x (assignQ K) S H) (hy : ∀ S' H', K S' H' → awpF P GI i k y Q S' H') : awpF P GI i (k + 1) (.seq x y) Q S H := by
 refine awpF_cut K (awp_mono x (fun e S H h => ?_) hx) (fun h => awp_mono x h) hy
 cases e <;> first | exact ⟨rfl, h⟩ | exact h.elim
end Go.AL
namespace Go.Proofs.Tryz
open Go Go.AL Go.RowKit Go.Proofs
attribute [local simp] awp_all qs_all ops_all dops_all ops_nil dops_nil ops_call ops_callv ops_alloc ops_box dops_call dops_alloc kO_eq kD_eq awanted apure ev Eff.S Eff.H tmpOf upd putD AL.start AV.dem AV.cells AV.storable AV.scells splice scrub abin loadA HR.okB post ares aress ares1 AV.out AV.isData ints_len ints_get fz fz1 AV.vw AV.vw1 boxy vI int undefA assignQ thenQ blockQ seqQ panQ prol prolH allocOf
variable {GI : World → Prop}
theorem frontL_vw (s : Sheet) : (frontL s).map AV.vw1 = frontL s := by
 simp [frontL, sheetL, spaces, vI, ints, AV.vw1]
theorem frontL_len (s : Sheet) : (frontL s).length = 11 := rfl
theorem frontL_take (s : Sheet) : AV.agg ((frontL s).take 10 |>.map AV.vw1) = sheetA s := by
 simp [frontL, sheetL, sheetA, vI, ints, AV.vw1]
theorem sheet_slim {s : Sheet} (h : sheetI s = true) : Slim s := by
 have hF := sheetF h
 refine ⟨by have := hF.wlen; omega, by have := hF.plen; omega, by have := hF.words; omega, fun w hw => ?_, fun w hw => ?_⟩
 ·have := (wordF h hw).len6; omega
 ·have f := wordF h hw
  have := rises_bound f.cuts (by have := f.len1; omega)
  have := f.len6
  omega
theorem it_set (hG : Stable GI) (s : Sheet) (hsh : sheetI s = true) (out : List Int) (ho : out.length ≤ 1000) : IterC prog GI 144 [.ref (frontL s), .ref [vI out]] ((allS s out s.rows.toNat).map (settingA out)) := by
 have hr := (sheetF hsh).rows
 have he := endsL_len hsh out
 refine it144 hG (oE := .view) (all := endsL s out) (rows := s.rows.toNat) (by omega) (by omega) ho (frontL_len s) ?_ ?_ ?_
 ·intro x hx
  simp [frontL, sheetL] at hx
  rcases hx with rfl | rfl | rfl | rfl | rfl | rfl | rfl | rfl | rfl | rfl <;> exact ⟨rfl, rfl, rfl⟩
 ·show some (AV.int .i64 s.rows) = some (.int .i64 (s.rows.toNat : Nat))
  rw [Int.toNat_of_nonneg (by omega)]
 ·rw [frontL_take]
  exact ac145 hG s (sheet_slim hsh) out (by omega)
theorem allS_good {s : Sheet} (hsh : sheetI s = true) {out : List Int} (hout : outI s out = true) {es : List End} (h : es ∈ allS s out s.rows.toNat) : setR s out es = true ∧ es.length ≤ 3 := by
 have hr := (sheetF hsh).rows
 obtain ⟨h1, h2⟩ := (mem_allS hsh hout).1 h
 exact ⟨h1, by omega⟩
theorem ac86s (hG : Stable GI) (s : Sheet) (hsh : sheetI s = true) (out : List Int) (ho : out.length ≤ 1000) (hout : outI s out = true) {es : List End} (h : es ∈ allS s out s.rows.toNat) : AC prog GI 86 [.agg ((frontL s).map AV.vw1), settingA out es, .int .i64 0] (.ret (.bool (fitI s out es 0))) := by
 obtain ⟨h1, h2⟩ := allS_good hsh hout h
 rw [frontL_vw]
 exact ac86 hG s hsh out (by omega) es (by omega) (good_of hsh h1) (by omega) (by omega)
theorem ac97f (hG : Stable GI) (s : Sheet) (hsh : sheetI s = true) (out : List Int) (ho : out.length ≤ 1000) (hout : outI s out = true) : AC prog GI 97 [frontA s, vI out] (.ret (.slice .view ((goodS s out).map (settingA out)))) := by
 have hr := (sheetF hsh).rows
 have hl := allS_len hsh out (m := s.rows.toNat) (by omega)
 refine AC.as_view (o := if (goodS s out).isEmpty then .nil else .view) ?_
 exact ac97 hG (frontL_len s) (by
  intro x hx
  simp [frontL, sheetL] at hx
  rcases hx with rfl | rfl | rfl | rfl | rfl | rfl | rfl | rfl | rfl | rfl | rfl <;> rfl) (by omega) (fun es h => by have := (allS_good hsh hout h).2; omega) (by rw [frontL_vw]; exact it_set hG s hsh out ho) (fun es h => ac86s hG s hsh out ho hout h)
theorem ac99 (hG : Stable GI) (s : Sheet) (hsh : sheetI s = true) {a b : List End} (ha : setR s [] a = true) (hb : setR s [] b = true) (hal : a.length ≤ 10) (hbl : b.length ≤ 10) : AC prog GI 99 [settingA [] a, settingA [] b, .ref (frontL s)] (.ret (.bool (betterE s a b))) := by
 have ga := ac87 hG s hsh [] (by simp) a (by omega) (good_of hsh ha)
 have gb := ac87 hG s hsh [] (by simp) b (by omega) (good_of hsh hb)
 refine AC.of_body hG hmix func99 rfl ntmps99 (by simp) (ac := c99) (by kernel_rfl) ?_
 refine awp_cut (fun S H => S 2 = .ref (frontL s) ∧ S 3 = .box 3 0 ∧ S 4 = .box 4 0 ∧ H 3 = some [vI [], .slice .view (a.map endA)] ∧ H 4 = some [vI [], .slice .view (b.map endA)]) (by simp [settingA, endsA]) ?_
 rintro S H ⟨s2, s3, s4, e3, e4⟩
 refine awp_cut (fun S H => S 2 = .ref (frontL s) ∧ S 3 = .box 3 0 ∧ S 4 = .box 4 0 ∧ H 3 = some [vI [], .slice .view (a.map endA)] ∧ H 4 = some [vI [], .slice .view (b.map endA)] ∧ S 6 = .int .i64 a.length ∧ S 7 = .int .i64 b.length) (by simp [s2, s3, s4, e3, e4]) ?_
 clear s2 s3 s4 e3 e4 S H
 rintro S H ⟨s2, s3, s4, e3, e4, s6, s7⟩
 unfold betterE betterB
 by_cases hlt : a.length < b.length
 ·have hlt' : (a.length : Int) < b.length := by omega
  simp [s2, s3, s4, e3, e4, s6, s7, hlt, hlt']
 by_cases he : a.length = b.length
 case neg =>
  have hlt' : ¬ (a.length : Int) < b.length := by omega
  have he' : ((a.length : Int) == b.length) = false := by simp; omega
  have he2 : (a.length == b.length) = false := by simpa using he
  simp [s2, s3, s4, e3, e4, s6, s7, hlt, hlt', he', he2]
 simp [s2, s3, s4, e3, e4, s6, s7, he, frontL, sheetL, spaces]
 refine ⟨_, by kernel_rfl, ga, by simp [boxy], ?_⟩
 simp [s2, s3, s4, e3, e4, s6, s7, he, frontL, sheetL, spaces]
 refine ⟨_, by kernel_rfl, gb, by simp [boxy], ?_⟩
 simp [s2, s3, s4, e3, e4, s6, s7, he, frontL, sheetL, spaces]
theorem set_ok2 (l : List (List End)) : elemsOK 2 (l.map (settingA [])) = true := elems_map fun a => ⟨rfl, rfl⟩
theorem bestL_take {α : Type} (better : α → α → Bool) (x : α) {l : List α} {i : Nat} (h : i < l.length) : bestL better x (l.take (i + 1)) = if better l[i] (bestL better x (l.take i)) then l[i] else bestL better x (l.take i) := by
 unfold bestL
 rw [List.take_succ_eq_append_getElem h, List.foldl_append]; rfl
theorem bestL_mem {α : Type} (better : α → α → Bool) : ∀ (l : List α) (x : α), bestL better x l ∈ x :: l
 | [], x => List.mem_cons_self
 | a :: l, x => by
  show bestL better (if better a x then a else x) l ∈ _
  have := bestL_mem better l (if better a x then a else x)
  rcases List.mem_cons.1 this with e | h
  ·rw [e]; split <;> simp
  ·exact List.mem_cons_of_mem _ (List.mem_cons_of_mem _ h)
set_option maxHeartbeats 1000000 in
theorem ac98 (hG : Stable GI) (s : Sheet) (hsh : sheetI s = true) (x : List End) (l : List (List End)) (hl : l.length < 100000) (h : ∀ a ∈ x :: l, setR s [] a = true ∧ a.length ≤ 10) : AC prog GI 98 [.slice .view ((x :: l).map (settingA [])), .func (.func 99) [] [.ref (frontL s)]] (.ret (settingA [] (bestL (betterE s) x l))) := by
 have hok := set_ok2 (x :: l)
 obtain ⟨it, hit, hsz⟩ := info_size (P := prog) (t := 31) (s := 2) (by kernel_rfl)
 have hT : List.take l.length (l.map (settingA [])) = l.map (settingA []) := List.take_of_length_le (by simp)
 have hm : (x :: l).map (settingA []) = settingA [] x :: l.map (settingA []) := rfl
 have hscr : ∀ d, scrub1 d (.ref (frontL s)) = false := fun d => rfl
 have hsx : ∀ a, settingA [] a = .agg [vI [], .slice .view (a.map endA)] := fun _ => rfl
 refine AC.of_body hG hmix func98 rfl ntmps98 (by simp) (ac := c98) (by kernel_rfl) ?_
 refine awp_cut (fun S H => S 4 = .box 4 0 ∧ S 0 = .slice .view (settingA [] x :: l.map (settingA [])) ∧ S 1 = .func (.func 99) [] [.ref (frontL s)] ∧ H 4 = some [.slice .nil [], .slice .nil []]) (by simp [hscr]) ?_
 rintro S H ⟨s4, s0, s1, e4⟩
 refine awp_cut (fun S H => S 4 = .box 4 0 ∧ S 0 = .slice .view (settingA [] x :: l.map (settingA [])) ∧ S 1 = .func (.func 99) [] [.ref (frontL s)] ∧ H 4 = some [.slice .nil [], .slice .nil []] ∧ S 5 = .box 5 0 ∧ H 5 = some [vI [], .slice .view (x.map endA)]) (by simp [s4, s0, s1, e4, hsx, hscr]) ?_
 clear s4 s0 s1 e4 S H
 rintro S H ⟨s4, s0, s1, e4, s5, e5⟩
 rw [hm] at hok
 refine awp_cut (fun S H => S 4 = .box 4 0 ∧ H 4 = some [.slice .nil [], .slice .nil []] ∧ S 5 = .box 5 0 ∧ H 5 = some [vI [], .slice .view ((bestL (betterE s) x l).map endA)]) ?_ ?_
 ·have h1 : (1 : Int) ≤ l.length + 1 := by omega
  simp [s4, s0, s1, e4, s5, e5, bound, hok, h1]
  refine awp_loop 14 l.length (fun i S H => S 1 = .func (.func 99) [] [.ref (frontL s)] ∧ S 4 = .box 4 0 ∧ H 4 = some [.slice .nil [], .slice .nil []] ∧ S 5 = .box 5 0 ∧ H 5 = some [vI [], .slice .view ((bestL (betterE s) x (l.take i)).map endA)] ∧ S 12 = .slice .view (l.map (settingA [])) ∧ S 13 = .int .i64 l.length ∧ S 14 = .int .i64 (i : Nat)) (fun i S H h => h.2.2.2.2.2.2.2) ⟨by simp [s1], by simp [s4], by simp [e4], by simp [s5], by simp [e5, bestL], by simp [hT], by simp, by simp⟩ ?_
  clear s4 s0 s1 e4 s5 e5 S H
  rintro i hi S H ⟨s1, s4, e4, s5, e5, s12, s13, s14⟩
  by_cases hlt : i < l.length
  case neg =>
   have hil : i = l.length := by omega
   subst hil
   rw [List.take_of_length_le (Nat.le_refl _)] at e5
   simp [s1, s4, e4, s5, e5, s12, s13, s14]
  have hw : IntKind.i64.wrap ((i : Int) + 1) = i + 1 := wrapI (by omega)
  have hmem := bestL_mem (betterE s) (l.take i) x
  have hb := h (bestL (betterE s) x (l.take i)) (by
   rcases List.mem_cons.1 hmem with e | e
   ·rw [e]; exact List.mem_cons_self
   ·exact List.mem_cons_of_mem _ (List.mem_of_mem_take e))
  have hi' := h l[i] (List.mem_cons_of_mem _ (List.getElem_mem hlt))
  have a99 := ac99 hG s hsh hi'.1 hb.1 hi'.2 hb.2
  rw [bestL_take _ _ hlt]
  generalize bestL (betterE s) x (l.take i) = o at e5 a99 ⊢
  simp [s1, s4, e4, s5, e5, s12, s13, s14, hlt, hsx, hscr]
  refine ⟨_, by kernel_rfl, a99, by simp [boxy], ?_⟩
  cases betterE s l[i] o
  ·simp [s1, s4, e4, s5, e5, s12, s13, s14, hlt, hsx, hscr, hw]
  ·simp [s1, s4, e4, s5, e5, s12, s13, s14, hlt, hsx, hscr, hw]
 clear s4 s0 s1 e4 s5 e5 S H
 rintro S H ⟨s4, e4, s5, e5⟩
 simp [s4, e4, s5, e5, hsx, hit, hsz, aggT]
def setO (s : Sheet) : List AV := if sheetI s then match goodS s [] with
 | [] => [settingA [] [], .int .i64 0, .int .i64 5]
 | x :: l => [settingA [] (bestL (betterE s) x l), .int .i64 (mostI s [] (bestL (betterE s) x l)), .int .i64 0]
 else [settingA [] [], .int .i64 0, .int .i64 2]
theorem good_ok {s : Sheet} (hsh : sheetI s = true) {a : List End} (h : a ∈ goodS s []) : setR s [] a = true ∧ a.length ≤ 3 ∧ fitI s [] a 0 = true := by
 have hr := (sheetF hsh).rows
 obtain ⟨h1, h2⟩ := (mem_goodS hsh (outI_nil hsh)).1 h
 refine ⟨h1, ?_, h2⟩
 unfold fitI at h2
 simp only [Bool.and_eq_true, decide_eq_true_eq] at h2
 omega
theorem ac40_no (hG : Stable GI) (s : Sheet) (hs : Slim s) (hno : sheetI s = false ∨ goodS s [] = []) : AC prog GI 40 [sheetA s] (.ret (.tup (setO s))) := by
 obtain ⟨it, hit, hsz⟩ := info_size (P := prog) (t := 31) (s := 2) (by kernel_rfl)
 have hsx : ∀ a, settingA [] a = .agg [vI [], .slice .view (a.map endA)] := fun _ => rfl
 refine AC.of_body hG hmix func40 rfl ntmps40 (by simp) (ac := c40) (by kernel_rfl) ?_
 refine awp_cut (fun S H => S 1 = .box 1 0 ∧ S 2 = .box 2 0 ∧ H 1 = some (sheetL s) ∧ H 2 = some [.slice .nil [], .slice .nil []]) (by simp [sheetA, sheetL]) ?_
 rintro S H ⟨s1, s2, e1, e2⟩
 unfold setO
 cases hsh : sheetI s
 ·simp [s1, s2, e1, e2, sheetL]
  refine ⟨_, by kernel_rfl, ac96 hG s hs, fun _ => rfl, ?_⟩
  rw [hsh]
  simp [s1, s2, e1, e2, sheetL, hit, hsz, aggT, hsx, fillA, ints]
 have hg : goodS s [] = [] := by
  rcases hno with h | h
  ·rw [h] at hsh; cases hsh
  ·exact h
 simp [s1, s2, e1, e2, sheetL]
 refine ⟨_, by kernel_rfl, ac96 hG s hs, fun _ => rfl, ?_⟩
 rw [hsh]
 simp [s1, s2, e1, e2, sheetL]
 refine ⟨_, by kernel_rfl, ac80f hG s hsh, by simp [boxy], ?_⟩
 simp [s1, s2, e1, e2, frontA, frontL, sheetL, spaces]
 refine ⟨_, by kernel_rfl, ac97f hG s hsh [] (by simp) (outI_nil hsh), by simp [boxy], ?_⟩
 rw [hg]
 simp [s1, s2, e1, e2, hit, hsz, aggT, hsx, fillA, ints]
set_option maxHeartbeats 1000000 in
theorem ac40 (hG : Stable GI) (s : Sheet) (hs : Slim s) : AC prog GI 40 [sheetA s] (.ret (.tup (setO s))) := by
 cases hsh : sheetI s with
 | false => exact ac40_no hG s hs (.inl hsh)
 | true =>
 cases hg : goodS s [] with
 | nil => exact ac40_no hG s hs (.inr hg)
 | cons x l =>
 obtain ⟨it, hit, hsz⟩ := info_size (P := prog) (t := 31) (s := 2) (by kernel_rfl)
 have hsx : ∀ a, settingA [] a = .agg [vI [], .slice .view (a.map endA)] := fun _ => rfl
 have hl := goodS_len hsh []
 rw [hg] at hl
 simp at hl
 have hall : ∀ a ∈ x :: l, setR s [] a = true ∧ a.length ≤ 10 := fun a ha => by
  have := good_ok hsh (a := a) (by rw [hg]; exact ha)
  exact ⟨this.1, by omega⟩
 have a98 := ac98 hG s hsh x l (by omega) hall
 have hb := hall _ (bestL_mem (betterE s) l x)
 have a87 := ac87 hG s hsh [] (by simp) (bestL (betterE s) x l) (by omega) (good_of hsh hb.1)
 have hn0 : ((l.length : Int) + 1 == 0) = false := by simp; omega
 have ho : setO s = [settingA [] (bestL (betterE s) x l), .int .i64 (mostI s [] (bestL (betterE s) x l)), .int .i64 0] := by
  unfold setO
  rw [hsh, if_pos rfl, hg]
 rw [ho]
 refine AC.of_bodyZ hG hmix 5 5 func40 rfl ntmps40 (by simp) (ac := c40) (by kernel_rfl) ?_
 refine awpF_go (fun S H => S 1 = .box 1 0 ∧ S 2 = .box 2 0 ∧ H 1 = some (sheetL s) ∧ H 2 = some [.slice .nil [], .slice .nil []]) (by simp [sheetA, sheetL]) ?_
 rintro S H ⟨s1, s2, e1, e2⟩
 refine awpF_go (fun S H => S 1 = .box 1 0 ∧ S 2 = .box 2 0 ∧ H 1 = some (sheetL s) ∧ H 2 = some [.slice .nil [], .slice .nil []]) ?_ ?_
 ·simp [s1, s2, e1, e2, sheetL]
  refine ⟨_, by kernel_rfl, ac96 hG s hs, fun _ => rfl, ?_⟩
  rw [hsh]
  simp [s1, s2, e1, e2, sheetL]
 clear s1 s2 e1 e2 S H
 rintro S H ⟨s1, s2, e1, e2⟩
 refine awpF_go (fun S H => S 2 = .box 2 0 ∧ H 2 = some [.slice .nil [], .slice .nil []] ∧ S 5 = .box 5 0 ∧ H 5 = some (frontL s)) ?_ ?_
 ·simp [s1, s2, e1, e2, sheetL]
  refine ⟨_, by kernel_rfl, ac80f hG s hsh, by simp [boxy], ?_⟩
  simp [s1, s2, e1, e2, frontA, frontL, sheetL, spaces]
 clear s1 s2 e1 e2 S H
 rintro S H ⟨s2, e2, s5, e5⟩
 refine awpF_go (fun S H => S 2 = .box 2 0 ∧ H 2 = some [.slice .nil [], .slice .nil []] ∧ S 5 = .box 5 0 ∧ H 5 = some (frontL s) ∧ S 6 = .slice .view ((x :: l).map (settingA []))) ?_ ?_
 ·have a97 := ac97f hG s hsh [] (by simp) (outI_nil hsh)
  rw [hg] at a97
  simp [s2, e2, s5, e5, frontL, sheetL, spaces]
  refine ⟨_, by kernel_rfl, a97, by simp [boxy], ?_⟩
  simp [s2, e2, s5, e5, frontL, sheetL, spaces]
 clear s2 e2 s5 e5 S H
 rintro S H ⟨s2, e2, s5, e5, s6⟩
 refine awpF_go (fun S H => S 2 = .box 2 0 ∧ H 2 = some [.slice .nil [], .slice .nil []] ∧ S 5 = .box 5 0 ∧ H 5 = some (frontL s) ∧ S 6 = .slice .view ((x :: l).map (settingA []))) (by simp [s2, e2, s5, e5, s6, hn0]) ?_
 clear s2 e2 s5 e5 s6 S H
 rintro S H ⟨s2, e2, s5, e5, s6⟩
 refine awpF_zero (frontL s) (fun S H => S 2 = .box 2 0 ∧ H 2 = some [.slice .nil [], .slice .nil []] ∧ S 5 = .ref (frontL s) ∧ S 6 = .slice .view ((x :: l).map (settingA []))) e5 ⟨by simp [s2, frz], by simp [upd, e2], by simp [s5, frz, frontL, sheetL, spaces, AV.dem, vI], by simp [s6, frz, scrub]⟩ ?_
 clear s2 e2 s5 e5 s6 S H
 rintro S H ⟨s2, e2, s5, s6⟩
 refine awp_cut (fun S H => S 2 = .box 2 0 ∧ H 2 = some [.slice .nil [], .slice .nil []] ∧ S 5 = .ref (frontL s) ∧ S 7 = .box 7 0 ∧ H 7 = some [vI [], .slice .view ((bestL (betterE s) x l).map endA)]) ?_ ?_
 ·simp [s2, e2, s5, s6]
  refine ⟨_, by kernel_rfl, a98, by simp [boxy, boxy1], ?_⟩
  simp [s2, e2, s5, s6, hsx]
 clear s2 e2 s5 s6 S H
 rintro S H ⟨s2, e2, s5, s7, e7⟩
 simp [s2, e2, s5, s7, e7, frontL, sheetL, spaces]
 refine ⟨_, by kernel_rfl, a87, by simp [boxy], ?_⟩
 simp [s2, e2, s5, s7, e7, hit, hsz, aggT, hsx]
end Go.Proofs.Tryz
namespace Go.AL
section
variable {P : Program} {GI : World → Prop}
theorem appVL {S : Slots} {H : Boxes} {t e size cap i j : Nat} {l vs : List AV} {o : Ow} (hi : S i = grow e l) (hj : S j = .slice o vs) (hv : elemsOK size vs = true) (hl : elemsOK size l = true) (hn : l.length + vs.length < 1048576) :
  ∃ dm, (dm = none ∨ dm = some i) ∧ apure S H (.append t e size cap (.t i) (.t j)) = some { v := grow e (l ++ vs), dm := dm } := by
 have ei : ev S (.t i) = grow e l := hi
 have ej : ev S (.t j) = .slice o vs := hj
 cases l with
 | nil =>
  refine ⟨none, .inl rfl, ?_⟩
  simp only [apure]
  rw [ei, ej, grow_nil]
  have hn' : vs.length < 1048576 := by simpa using hn
  simp [hv, grow, hn']
 | cons x l =>
  refine ⟨some i, .inr rfl, ?_⟩
  have hn' : l.length + 1 + vs.length < 1048576 := by simpa using hn
  simp only [apure]
  rw [ei, ej]
  simp [grow, hv, hl, tmpOf, hn']
theorem dops_appL {K : Slots → Boxes → Prop} {S : Slots} {H : Boxes} {t e size cap d i j : Nat} {rest : List AOpr} (l vs : List AV) (o : Ow) (hi : S i = grow e l) (hj : S j = .slice o vs) (hv : elemsOK size vs = true) (hl : elemsOK size l = true) (hn : l.length + vs.length < 1048576)
  (h : ∀ S', S' d = grow e (l ++ vs) → (∀ k, k ≠ d → k ≠ i → S' k = S k) → dops P GI rest K S' H) : dops P GI (⟨some d, none, .append t e size cap (.t i) (.t j)⟩ :: rest) K S H := by
 obtain ⟨dm, hdm, hap⟩ := appVL (t := t) (cap := cap) (H := H) hi hj hv hl hn
 obtain ⟨k1, k2⟩ := eff_keep (S := S) (d := d) hdm (grow e (l ++ vs))
 rw [dops_ap]
 simp only [awanted, hap]
 exact h _ k1 k2
theorem dops_app0 {K : Slots → Boxes → Prop} {S : Slots} {H : Boxes} {t e size cap d j : Nat} {rest : List AOpr} (vs : List AV) (o : Ow) (hj : S j = .slice o vs) (hv : elemsOK size vs = true) (hn : vs.length < 1048576)
  (h : dops P GI rest K (upd S d (grow e vs)) H) : dops P GI (⟨some d, none, .append t e size cap (.c (.slice .nil [])) (.t j)⟩ :: rest) K S H := by
 have ej : ev S (.t j) = .slice o vs := hj
 rw [dops_ap]
 simp only [awanted, apure, ej]
 have e1 : ev S (.c (.slice .nil [])) = .slice .nil [] := rfl
 rw [e1]
 simp only [hv, hn, decide_true, Bool.and_self, if_true]
 have e2 : (if vs.isEmpty = true then Ow.nil else Ow.own e) = (if vs = [] then Ow.nil else Ow.own e) := by simp
 rw [e2]
 exact h
end
end Go.AL
namespace Go.Proofs.Tryz
open Go Go.AL Go.RowKit Go.Proofs
attribute [local simp] awp_all qs_all ops_allN dops_allN ops_nil dops_nil ops_call ops_callv ops_alloc ops_box dops_call dops_alloc kO_eq kD_eq awanted apure ev Eff.S Eff.H tmpOf upd putD AL.start AV.dem AV.cells AV.storable AV.scells splice scrub abin loadA HR.okB post ares aress ares1 AV.out AV.isData ints_len ints_get fz fz1 AV.vw AV.vw1 boxy vI int undefA assignQ thenQ blockQ seqQ panQ prol prolH allocOf
variable {GI : World → Prop}
def vE (l : List End) : AV := .slice .view (l.map endA)
theorem vE_ok1 (l : List (List End)) : elemsOK 1 (l.map vE) = true := elems_map fun a => ⟨rfl, rfl⟩
theorem lp_drop {now all : List End} {m i : Nat} (h : i < all.length) : lp now (all.drop i) m = ch (now ++ [all[i]]) (all.drop (i + 1)) m ++ lp now (all.drop (i + 1)) m := by
 rw [List.drop_eq_getElem_cons h, lp_cons]
set_option maxHeartbeats 1000000 in
theorem ac148 (hG : Stable GI) : ∀ (m : Nat) (now all : List End), m ≤ 3 → now.length + m ≤ 1000 → all.length ≤ 24 → AC prog GI 148 [.slice .view (now.map endA), .slice .view (all.map endA), .int .i64 m] (.ret (.slice .view ((ch now all m).map vE))) := by
 intro m
 induction m with
 | zero =>
  intro now all hm hn hl
  by_cases ha : all = []
  ·subst ha
   have hok : elemsOK 1 [AV.slice .view (now.map endA)] = true := rfl
   have e : (ch now [] 0).map vE = [.slice .view (now.map endA)] := by simp [ch, vE]
   rw [e]
   refine AC.as_view (o := .own 29) ?_
   refine AC.of_body hG hmix func148 rfl ntmps148 (by simp) (ac := c148) (by kernel_rfl) ?_
   simp [c148, ops_ap, dops_ap, hok]
  ·have hn0 : ((all.length : Int) == 0) = false := by have := List.length_pos_iff.2 ha; simp; omega
   refine AC.as_view (o := .nil) ?_
   refine AC.of_body hG hmix func148 rfl ntmps148 (by simp) (ac := c148) (by kernel_rfl) ?_
   simp [c148, ops_ap, dops_ap, ch, ha, hn0]
 | succ m ih =>
  intro now all hm hn hl
  by_cases ha : all = []
  ·subst ha
   have hok : elemsOK 1 [AV.slice .view (now.map endA)] = true := rfl
   have e : (ch now [] (m + 1)).map vE = [.slice .view (now.map endA)] := by simp [ch, vE]
   rw [e]
   refine AC.as_view (o := .own 29) ?_
   refine AC.of_body hG hmix func148 rfl ntmps148 (by simp) (ac := c148) (by kernel_rfl) ?_
   simp [c148, ops_ap, dops_ap, hok]
  have hn0 : ((all.length : Int) == 0) = false := by have := List.length_pos_iff.2 ha; simp; omega
  have hch : ch now all (m + 1) = lp now all m := by unfold ch; rw [if_neg ha]
  have hcl : (ch now all (m + 1)).length ≤ 277 := ch_len hl (by omega)
  rw [hch] at hcl ⊢
  have hm0 : ((m : Int) + 1 == 0) = false := by simp; omega
  have hwm : IntKind.i64.wrap (m : Int) = m := wrapI (by omega)
  refine AC.as_view (o := if lp now all m = [] then .nil else .view) ?_
  refine AC.of_body hG hmix func148 rfl ntmps148 (by simp) (ac := c148) (by kernel_rfl) ?_
  refine awp_cut (fun S H => S 0 = vE now ∧ S 1 = vE all ∧ S 2 = .int .i64 ((m : Int) + 1)) (by simp [ops_ap, dops_ap, vE]) ?_
  rintro S H ⟨s0, s1, s2⟩
  simp [ops_ap, dops_ap, s0, s1, s2, vE, hn0, ha, hm0]
  refine awp_loop 8 all.length (fun i S H => S 0 = vE now ∧ S 1 = vE all ∧ S 2 = .int .i64 ((m : Int) + 1) ∧ S 8 = .int .i64 (i : Nat) ∧ ∃ D, S 7 = grow 29 (D.map vE) ∧ D ++ lp now (all.drop i) m = lp now all m) (fun i S H h => h.2.2.2.1) ⟨by simp [ops_ap, dops_ap, s0, vE], by simp [ops_ap, dops_ap, s1, vE], by simp [ops_ap, dops_ap, s2], by simp [ops_ap, dops_ap], [], by simp [ops_ap, dops_ap, grow], rfl⟩ ?_
  clear s0 s1 s2 S H
  rintro i hi S H ⟨s0, s1, s2, s8, D, s7, hD⟩
  by_cases hlt : i < all.length
  case neg =>
   have hil : i = all.length := by omega
   subst hil
   rw [List.drop_length, lp_nil, List.append_nil] at hD
   subst hD
   by_cases h0 : lp now all m = []
   ·rw [h0] at s7 ⊢
    simp [ops_ap, dops_ap, s0, s1, s2, s8, s7, vE, grow]
   ·have s7' : S 7 = .slice (.own 29) ((lp now all m).map vE) := by rw [s7]; simp [grow, h0]
    simp [ops_ap, dops_ap, s0, s1, s2, s8, s7', vE, h0]
  have hw : IntKind.i64.wrap ((i : Int) + 1) = i + 1 := wrapI (by omega)
  have hlE : lp now (all.drop i) m = ch (now ++ [all[i]]) (all.drop (i + 1)) m ++ lp now (all.drop (i + 1)) m := lp_drop hlt
  have a148 := ih (now ++ [all[i]]) (all.drop (i + 1)) (by omega) (by simp; omega) (by simp; omega)
  have hDl : D.length + (ch (now ++ [all[i]]) (all.drop (i + 1)) m).length ≤ 277 := by
   have := congrArg List.length hD
   rw [hlE] at this
   simp at this; omega
  rw [hlE, ← List.append_assoc] at hD
  have hokn : elemsOK 2 (now.map endA) = true := ends_ok2 now
  have hoka : elemsOK 2 (all.map endA) = true := ends_ok2 all
  have hok1 : elemsOK 2 [endA all[i]] = true := rfl
  have hok2 : elemsOK 1 ((ch (now ++ [all[i]]) (all.drop (i + 1)) m).map vE) = true := vE_ok1 _
  have hT : List.drop (i + 1) (List.take all.length (all.map endA)) = (all.drop (i + 1)).map endA := by rw [List.take_of_length_le (by simp), List.map_drop]
  have hN : (now ++ [all[i]]).map endA = now.map endA ++ [endA all[i]] := by simp
  rw [hN, List.map_drop] at a148
  have hi1 : (0 : Int) ≤ (i : Int) + 1 := by omega
  have hi2 : (i : Int) + 1 ≤ all.length := by omega
  simp [s0, s1, s2, s8, s7, vE, hlt]
  refine dops_app0 (now.map endA) .view (by simp) hokn (by simp; omega) ?_
  simp [s0, s1, s2, s8, s7, vE, hlt, endA]
  refine dops_app (now.map endA) (endA all[i]) (.own 116) (by simp [grow]) (by simp [endA]) hok1 hokn (by simp; omega) ?_
  intro S' sd hk'
  simp [sd, hk', s0, s1, s2, s8, s7, vE, hlt, hw, bound, hoka, hi1, hi2, hwm, grow, hT]
  refine ⟨_, by kernel_rfl, a148, by simp [boxy], ?_⟩
  simp [sd, hk', s0, s1, s2, s8, s7, vE, hlt, hw]
  refine dops_appL (D.map vE) ((ch (now ++ [all[i]]) (all.drop (i + 1)) m).map vE) .view (by simp [hk', s7, vE, grow]) (by simp [vE]) hok2 (vE_ok1 D) (by simp; omega) ?_
  intro S'' sd' hk''
  simp [sd', hk'', sd, hk', s0, s1, s2, s8, vE, hlt, hw]
  exact ⟨D ++ ch (now ++ [all[i]]) (all.drop (i + 1)) m, by simp [grow, vE], hD⟩
end Go.Proofs.Tryz
namespace Go.Proofs.Tryz
open Go Go.AL Go.RowKit Go.Proofs
attribute [local simp] awp_all qs_all ops_allN dops_allN ops_nil dops_nil ops_call ops_callv ops_alloc ops_box dops_call dops_alloc kO_eq kD_eq awanted apure ev Eff.S Eff.H tmpOf upd putD AL.start AV.dem AV.cells AV.storable AV.scells splice scrub abin loadA HR.okB post ares aress ares1 AV.out AV.isData ints_len ints_get fz fz1 AV.vw AV.vw1 boxy vI int undefA assignQ thenQ blockQ seqQ panQ prol prolH allocOf
variable {GI : World → Prop}
theorem endsW_stops {s : Sheet} (hsh : sheetI s = true) {out : List Int} {w : Nat} (hw : w < s.words.length) (hc : out.contains (w : Int) = false) : (stopsN s.words[w] s.words[w].signs.length).map (fun k => ((w : Int), k)) = endsW s out w := by
 have f := wordF hsh (List.getElem_mem hw)
 rw [endsW_at hw hc, stops_all f.len1 f.cuts, List.map_append]; rfl
def endsQ (s : Sheet) (out : List Int) (w n : Nat) (x : Word) : List End := endsP s out w ++ (stopsN x n).map fun k => ((w : Int), k)
theorem endsQ_succ (s : Sheet) (out : List Int) (w n : Nat) (x : Word) : endsQ s out w (n + 1) x = endsQ s out w n x ++ if stopI x (n + 1) then [((w : Int), ((n + 1 : Nat) : Int))] else [] := by
 unfold endsQ
 rw [stopsN_succ, List.map_append, List.append_assoc]
 congr 2
 split <;> rfl
set_option maxHeartbeats 2000000 in
theorem ac149 (hG : Stable GI) (s : Sheet) (hsh : sheetI s = true) (out : List Int) (ho : out.length < 1000000) : AC prog GI 149 [sheetA s, vI out] (.ret (.slice .view ((endsL s out).map endA))) := by
 have hF := sheetF hsh
 have hw4 := hF.words
 have hel := endsL_len hsh out
 refine AC.as_view (o := if endsL s out = [] then .nil else .view) ?_
 refine AC.of_body hG hmix func149 rfl ntmps149 (by simp) (ac := c149) (by kernel_rfl) ?_
 refine awp_cut (fun S H => S 1 = vI out ∧ S 2 = .box 2 0 ∧ H 2 = some (sheetL s)) (by simp [ops_ap, dops_ap, sheetA, sheetL]) ?_
 rintro S H ⟨s1, s2, e2⟩
 simp [ops_ap, dops_ap, s1, s2, e2]
 refine awp_loop 6 s.words.length (fun i S H => S 1 = vI out ∧ S 2 = .box 2 0 ∧ H 2 = some (sheetL s) ∧ S 6 = .int .i64 (i : Nat) ∧ S 5 = grow 116 ((endsP s out i).map endA)) (fun i S H h => h.2.2.2.1) ⟨by simp [ops_ap, dops_ap, s1], by simp [ops_ap, dops_ap, s2], by simp [ops_ap, dops_ap, e2], by simp [ops_ap, dops_ap], by simp [ops_ap, dops_ap, grow, endsP]⟩ ?_
 clear s1 s2 e2 S H
 rintro i hi S H ⟨s1, s2, e2, s6, s5⟩
 by_cases hlt : i < s.words.length
 case neg =>
  have hil : i = s.words.length := by omega
  subst hil
  have hEL : endsP s out s.words.length = endsL s out := rfl
  rw [hEL] at s5
  by_cases h0 : endsL s out = []
  ·rw [h0] at s5 ⊢
   simp [ops_ap, dops_ap, s1, s2, e2, s6, s5, sheetL, grow]
  ·have s5' : S 5 = .slice (.own 116) ((endsL s out).map endA) := by rw [s5]; simp [grow, h0]
   simp [ops_ap, dops_ap, s1, s2, e2, s6, s5', sheetL, h0]
 have hw : IntKind.i64.wrap ((i : Int) + 1) = i + 1 := wrapI (by omega)
 have f := wordF hsh (List.getElem_mem hlt)
 have hl6 := f.len6
 have hcl : s.words[i].cuts.length < 1000000 := by
  have := (sheet_slim hsh).cuts _ (List.getElem_mem hlt); omega
 have hsu := endsP_succ s out i
 cases hct : out.contains (i : Int)
 case true =>
  rw [endsW_out hct, List.append_nil] at hsu
  have a91 := ac91 hG out i (by omega)
  rw [hct] at a91
  have h1l : (1 : Int) ≤ s.words[i].signs.length := by have := f.len1; omega
  simp [ops_ap, dops_ap, s1, s2, e2, s6, s5, sheetL, hlt]
  refine awp_loopF 7 1 1 (fun k S H => S 1 = vI out ∧ S 2 = .box 2 0 ∧ H 2 = some (sheetL s) ∧ S 6 = .int .i64 (i : Nat) ∧ S 5 = grow 116 ((endsP s out i).map endA) ∧ S 7 = .int .i64 (k : Nat)) (by omega) (fun k S H h => h.2.2.2.2.2) ⟨by simp [ops_ap, dops_ap, s1], by simp [ops_ap, dops_ap, s2], by simp [ops_ap, dops_ap, e2, sheetL], by simp [ops_ap, dops_ap, s6], by simp [ops_ap, dops_ap, s5, grow], by simp [ops_ap, dops_ap]⟩ ?_
  clear s1 s2 e2 s6 s5 S H
  rintro k hk1 hk S H ⟨s1, s2, e2, s6, s5, s7⟩
  have hk' : k = 1 := by omega
  subst hk'
  simp [ops_ap, dops_ap, s1, s2, e2, s6, s5, s7, sheetL, hlt, wordA, h1l]
  refine ⟨_, by kernel_rfl, a91, fun _ => rfl, ?_⟩
  simp [ops_ap, dops_ap, s1, s2, e2, s6, s5, s7, sheetL, hlt, hw, hsu, grow]
 rw [← endsW_stops hsh hlt hct] at hsu
 have hq0 : endsP s out i = endsQ s out i 0 s.words[i] := by unfold endsQ stopsN; simp
 have hqn : endsP s out (i + 1) = endsQ s out i s.words[i].signs.length s.words[i] := hsu
 have hql : ∀ n, n ≤ s.words[i].signs.length → (endsQ s out i n s.words[i]).length ≤ 1000 := by
  intro n hn
  unfold endsQ stopsN
  have h1 := endsP_len (sheet_slim hsh) out i
  have h2 := List.length_filter_le (stopI s.words[i]) (List.range' 1 n)
  simp at h2 ⊢
  have h3 : (endsP s out i).length ≤ 24 := by
   have h4 : endsL s out = endsP s out i ++ (List.range' i (s.words.length - i)).flatMap (endsW s out) := by
    show (List.range s.words.length).flatMap (endsW s out) = (List.range i).flatMap (endsW s out) ++ _
    rw [← List.flatMap_append]
    congr 1
    have h5 := List.range'_append_1 (s := 0) (m := i) (n := s.words.length - i)
    rw [List.range_eq_range', List.range_eq_range']
    rw [show i + (s.words.length - i) = s.words.length by omega, Nat.zero_add] at h5
    exact h5.symm
   have := congrArg List.length h4
   rw [List.length_append] at this
   omega
  omega
 rw [hq0] at s5
 rw [hqn]
 generalize hx : s.words[i] = x at *
 simp [ops_ap, dops_ap, s1, s2, e2, s6, s5, sheetL, hlt]
 refine awp_loopF 7 1 (x.signs.length + 1) (fun k S H => S 1 = vI out ∧ S 2 = .box 2 0 ∧ H 2 = some (sheetL s) ∧ S 6 = .int .i64 (i : Nat) ∧ S 7 = .int .i64 (k : Nat) ∧ S 5 = grow 116 ((endsQ s out i (k - 1) x).map endA)) (by omega) (fun k S H h => h.2.2.2.2.1) ⟨by simp [ops_ap, dops_ap, s1], by simp [ops_ap, dops_ap, s2], by simp [ops_ap, dops_ap, e2, sheetL], by simp [ops_ap, dops_ap, s6], by simp [ops_ap, dops_ap], by simp [ops_ap, dops_ap, s5, grow]⟩ ?_
 clear s1 s2 e2 s6 s5 S H
 rintro k hk1 hk S H ⟨s1, s2, e2, s6, s7, s5⟩
 obtain ⟨m, rfl⟩ : ∃ m, k = m + 1 := ⟨k - 1, by omega⟩
 rw [Nat.add_sub_cancel] at s5
 have hxA : wordA s.words[i] = .agg [vI x.signs, vI x.cuts, .bool x.free] := by rw [hx]; rfl
 by_cases hkl : m < x.signs.length
 case neg =>
  have hkl' : m = x.signs.length := by omega
  subst hkl'
  have hn : ¬ ((x.signs.length : Int) + 1 ≤ x.signs.length) := by omega
  simp [ops_ap, dops_ap, s1, s2, e2, s6, s7, s5, sheetL, hlt, hxA, hn, hw, grow]
 have hkl2 : (m : Int) + 1 ≤ x.signs.length := by omega
 have hkw : IntKind.i64.wrap ((m : Int) + 1 + 1) = m + 1 + 1 := wrapI (by omega)
 have a91 := ac91 hG out i (by omega)
 rw [hct] at a91
 have a91c := ac91 hG x.cuts ((m + 1 : Nat) : Int) (by omega)
 have hqs := endsQ_succ s out i m x
 have hqm := hql m (by omega)
 generalize endsQ s out i m x = Q at s5 hqs hqm
 simp [s1, s2, e2, s6, s7, s5, sheetL, hlt, hxA, hkl2]
 refine ⟨_, by kernel_rfl, a91, fun _ => rfl, ?_⟩
 cases he : ((m : Int) + 1 == (x.signs.length : Int))
 ·have he2 : (m + 1 == x.signs.length) = false := by simp at he ⊢; omega
  simp [s1, s2, e2, s6, s7, s5, sheetL, hlt, hxA, hkl2, he]
  refine ⟨_, by kernel_rfl, a91c, fun _ => rfl, ?_⟩
  cases hcc : x.cuts.contains ((m + 1 : Nat) : Int)
  ·have hst : stopI x (m + 1) = false := by unfold stopI; rw [he2, hcc]; rfl
   rw [hst] at hqs
   simp at hqs
   simp [s1, s2, e2, s6, s7, s5, sheetL, hlt, hxA, hkl, hkw, hqs, grow]
  ·have hst : stopI x (m + 1) = true := by unfold stopI; rw [he2, hcc]; rfl
   rw [hst] at hqs
   simp at hqs
   have hok1 : elemsOK 2 [endA ((i : Int), (m : Int) + 1)] = true := rfl
   simp [s1, s2, e2, s6, s7, s5, sheetL, hlt, hxA, hkl, fillA, endA]
   refine aops_app (Q.map endA) (endA ((i : Int), (m : Int) + 1)) (.own 116) (by simp [s5, grow]) (by simp [endA]) hok1 (ends_ok2 _) (by rw [List.length_map]; omega) ?_
   intro S' sd hk'
   simp [sd, hk', s1, s2, e2, s6, s7, sheetL, hlt, hkl, hkw, hqs, grow]
 ·have he2 : (m + 1 == x.signs.length) = true := by simp at he ⊢; omega
  have hst : stopI x (m + 1) = true := by unfold stopI; rw [he2]; rfl
  rw [hst] at hqs
  simp at hqs
  have hok1 : elemsOK 2 [endA ((i : Int), (m : Int) + 1)] = true := rfl
  simp [s1, s2, e2, s6, s7, s5, sheetL, hlt, hxA, hkl, he, fillA, endA]
  refine aops_app (Q.map endA) (endA ((i : Int), (m : Int) + 1)) (.own 116) (by simp [s5, grow]) (by simp [endA]) hok1 (ends_ok2 _) (by rw [List.length_map]; omega) ?_
  intro S' sd hk'
  simp [sd, hk', s1, s2, e2, s6, s7, sheetL, hlt, hkl, hkw, hqs, grow]
end Go.Proofs.Tryz
namespace Go.Proofs.Tryz
open Go Go.AL Go.RowKit Go.Proofs
attribute [local simp] awp_all qs_all ops_allN dops_allN ops_nil dops_nil ops_call ops_callv ops_alloc ops_box dops_call dops_alloc kO_eq kD_eq awanted apure ev Eff.S Eff.H tmpOf upd putD AL.start AV.dem AV.cells AV.storable AV.scells splice scrub abin loadA HR.okB post ares aress ares1 AV.out AV.isData ints_len ints_get fz fz1 AV.vw AV.vw1 boxy vI int undefA assignQ thenQ blockQ seqQ panQ prol prolH allocOf
variable {GI : World → Prop}
theorem setO_ok2 (out : List Int) (l : List (List End)) : elemsOK 2 (l.map (settingA out)) = true := elems_map fun a => ⟨rfl, rfl⟩
theorem setting_eq (out : List Int) (es : List End) : settingA out es = .agg [vI out, .slice .view (es.map endA)] := rfl
set_option maxHeartbeats 1000000 in
theorem ac105 (hG : Stable GI) (s : Sheet) (hsh : sheetI s = true) (out : List Int) (ho : out.length < 1000000) : AC prog GI 105 [sheetA s, vI out] (.ret (.slice .view ((allS s out s.rows.toNat).map (settingA out)))) := by
 have hF := sheetF hsh
 have hr := hF.rows
 have hel := endsL_len hsh out
 have hal := allS_len hsh out (m := s.rows.toNat) (by omega)
 have a149 := ac149 hG s hsh out ho
 have a148 := ac148 hG s.rows.toNat [] (endsL s out) (by omega) (by simp; omega) hel
 have e : ch [] (endsL s out) s.rows.toNat = allS s out s.rows.toNat := rfl
 rw [e, Int.toNat_of_nonneg (by omega)] at a148
 refine AC.as_view (o := if allS s out s.rows.toNat = [] then .nil else .view) ?_
 generalize allS s out s.rows.toNat = A at *
 refine AC.of_body hG hmix func105 rfl ntmps105 (by simp) (ac := c105) (by kernel_rfl) ?_
 refine awp_cut (fun S H => S 1 = vI out ∧ S 2 = .box 2 0 ∧ H 2 = some (sheetL s)) (by simp [ops_ap, dops_ap, sheetA, sheetL]) ?_
 rintro S H ⟨s1, s2, e2⟩
 refine awp_cut (fun S H => S 1 = vI out ∧ S 5 = .slice .view (A.map vE)) ?_ ?_
 ·simp [ops_ap, dops_ap, s1, s2, e2, sheetL]
  refine ⟨_, by kernel_rfl, a149, by simp [boxy], ?_⟩
  simp [ops_ap, dops_ap, s1, s2, e2, sheetL]
  refine ⟨_, by kernel_rfl, a148, by simp [boxy], ?_⟩
  simp [ops_ap, dops_ap, s1]
 clear s1 s2 e2 S H
 rintro S H ⟨s1, s5⟩
 simp [ops_ap, dops_ap, s1, s5]
 refine awp_loop 7 A.length (fun i S H => S 1 = vI out ∧ S 5 = .slice .view (A.map vE) ∧ S 7 = .int .i64 (i : Nat) ∧ S 6 = grow 31 ((A.take i).map (settingA out))) (fun i S H h => h.2.2.1) ⟨by simp [ops_ap, dops_ap, s1], by simp [ops_ap, dops_ap, s5], by simp [ops_ap, dops_ap], by simp [ops_ap, dops_ap, grow]⟩ ?_
 clear s1 s5 S H
 rintro i hi S H ⟨s1, s5, s7, s6⟩
 by_cases hlt : i < A.length
 case neg =>
  have hil : i = A.length := by omega
  subst hil
  rw [List.take_of_length_le (Nat.le_refl _)] at s6
  by_cases h0 : A = []
  ·subst h0
   simp [ops_ap, dops_ap, s1, s5, s7, s6, grow]
  ·have s6' : S 6 = .slice (.own 31) (A.map (settingA out)) := by rw [s6]; simp [grow, h0]
   simp [ops_ap, dops_ap, s1, s5, s7, s6', h0]
 have hw : IntKind.i64.wrap ((i : Int) + 1) = i + 1 := wrapI (by omega)
 have ht : A.take (i + 1) = A.take i ++ [A[i]] := List.take_succ_eq_append_getElem hlt
 have htl : (A.take i).length ≤ 277 := by rw [List.length_take]; omega
 rw [ht]
 generalize A.take i = B at s6 htl ⊢
 have hok1 : elemsOK 2 [settingA out A[i]] = true := rfl
 simp [s1, s5, s7, s6, hlt, vE, fillA]
 refine aops_app (B.map (settingA out)) (settingA out A[i]) (.own 31) (by simp [s6, grow]) (by simp [setting_eq]) hok1 (setO_ok2 _ _) (by rw [List.length_map]; omega) ?_
 intro S' sd hk'
 simp [sd, hk', s1, s5, s7, hlt, hw, vE, grow]
set_option maxHeartbeats 1000000 in
theorem ac101 (hG : Stable GI) (s : Sheet) (hsh : sheetI s = true) (out : List Int) (ho : out.length < 1000000) (hout : outI s out = true) : AC prog GI 101 [sheetA s, vI out] (.ret (.slice .view ((goodS s out).map (settingA out)))) := by
 have hr := (sheetF hsh).rows
 have hal := allS_len hsh out (m := s.rows.toNat) (by omega)
 have a105 := ac105 hG s hsh out ho
 have hA : ∀ es ∈ allS s out s.rows.toNat, AC prog GI 36 [sheetA s, settingA out es, .int .i64 0] (.ret (.bool (fitI s out es 0))) := fun es h => by
  obtain ⟨h1, h2⟩ := allS_good hsh hout h
  exact ac36 hG s (sheet_slim hsh) hsh out ho es (by omega) h1 (by omega) (by omega)
 refine AC.as_view (o := if goodS s out = [] then .nil else .view) ?_
 unfold goodS
 generalize allS s out s.rows.toNat = A at *
 generalize hB : (A.filter fun es => fitI s out es 0) = B
 refine AC.of_body hG hmix func101 rfl ntmps101 (by simp) (ac := c101) (by kernel_rfl) ?_
 refine awp_cut (fun S H => S 1 = vI out ∧ S 2 = .box 2 0 ∧ H 2 = some (sheetL s)) (by simp [ops_ap, dops_ap, sheetA, sheetL]) ?_
 rintro S H ⟨s1, s2, e2⟩
 refine awp_cut (fun S H => S 1 = vI out ∧ S 2 = .box 2 0 ∧ H 2 = some (sheetL s) ∧ S 5 = .slice .view (A.map (settingA out))) ?_ ?_
 ·simp [ops_ap, dops_ap, s1, s2, e2, sheetL]
  refine ⟨_, by kernel_rfl, a105, by simp [boxy], ?_⟩
  simp [ops_ap, dops_ap, s1, s2, e2, sheetL]
 clear s1 s2 e2 S H
 rintro S H ⟨s1, s2, e2, s5⟩
 simp [ops_ap, dops_ap, s1, s2, e2, s5]
 refine awp_loop 7 A.length (fun i S H => S 1 = vI out ∧ S 2 = .box 2 0 ∧ H 2 = some (sheetL s) ∧ S 5 = .slice .view (A.map (settingA out)) ∧ S 7 = .int .i64 (i : Nat) ∧ S 6 = grow 31 (((A.take i).filter fun es => fitI s out es 0).map (settingA out))) (fun i S H h => h.2.2.2.2.1) ⟨by simp [ops_ap, dops_ap, s1], by simp [ops_ap, dops_ap, s2], by simp [ops_ap, dops_ap, e2], by simp [ops_ap, dops_ap, s5], by simp [ops_ap, dops_ap], by simp [ops_ap, dops_ap, grow]⟩ ?_
 clear s1 s2 e2 s5 S H
 rintro i hi S H ⟨s1, s2, e2, s5, s7, s6⟩
 by_cases hlt : i < A.length
 case neg =>
  have hil : i = A.length := by omega
  subst hil
  rw [List.take_of_length_le (Nat.le_refl _)] at s6
  rw [hB] at s6
  by_cases h0 : B = []
  ·subst h0
   simp [ops_ap, dops_ap, s1, s2, e2, s5, s7, s6, grow]
  ·have s6' : S 6 = .slice (.own 31) (B.map (settingA out)) := by rw [s6]; simp [grow, h0]
   simp [ops_ap, dops_ap, s1, s2, e2, s5, s7, s6', h0]
 have hw : IntKind.i64.wrap ((i : Int) + 1) = i + 1 := wrapI (by omega)
 have ht : (A.take (i + 1)).filter (fun es => fitI s out es 0) = (A.take i).filter (fun es => fitI s out es 0) ++ if fitI s out A[i] 0 then [A[i]] else [] := by
  rw [List.take_succ_eq_append_getElem hlt, List.filter_append, List.filter_cons]
  split <;> simp
 have htl : ((A.take i).filter fun es => fitI s out es 0).length ≤ 277 := by
  have := List.length_filter_le (fun es => fitI s out es 0) (A.take i)
  rw [List.length_take] at this; omega
 have a36 := hA A[i] (List.getElem_mem hlt)
 rw [ht]
 clear hB
 generalize (A.take i).filter (fun es => fitI s out es 0) = B at s6 htl ⊢
 have hok1 : elemsOK 2 [settingA out A[i]] = true := rfl
 simp [s1, s2, e2, s5, s7, s6, hlt, sheetL, setting_eq]
 refine ⟨_, by kernel_rfl, a36, by simp [boxy], ?_⟩
 cases fitI s out A[i] 0
 ·simp [s1, s2, e2, s5, s7, s6, hlt, hw, sheetL, setting_eq, grow]
 simp [s1, s2, e2, s5, s7, s6, hlt, sheetL, setting_eq]
 refine aops_app (B.map (settingA out)) (settingA out A[i]) (.own 31) (by simp [s6, grow, setting_eq]) (by simp [setting_eq]) hok1 (setO_ok2 _ _) (by rw [List.length_map]; omega) ?_
 intro S' sd hk'
 simp [sd, hk', s1, s2, e2, s5, s7, hlt, hw, sheetL, setting_eq, grow]
theorem minLen_take {A : List (List End)} {i : Nat} (h : i < A.length) : minLen List.length (A.take (i + 1)) = if minLen List.length (A.take i) = 0 ∨ A[i].length < minLen List.length (A.take i) then A[i].length else minLen List.length (A.take i) := by
 unfold minLen
 rw [List.take_succ_eq_append_getElem h, List.foldl_append]; rfl
set_option maxHeartbeats 1000000 in
theorem ac43 (hG : Stable GI) (s : Sheet) (hsh : sheetI s = true) : AC prog GI 43 [sheetA s] (.ret (.int .i64 (minLen List.length (goodS s []) : Nat))) := by
 have a101 := ac101 hG s hsh [] (by simp) (outI_nil hsh)
 have hgl := goodS_len hsh []
 have hg3 : ∀ a ∈ goodS s [], a.length ≤ 3 := fun a h => (good_ok hsh h).2.1
 generalize goodS s [] = A at *
 refine AC.of_body hG hmix func43 rfl ntmps43 (by simp) (ac := c43) (by kernel_rfl) ?_
 refine awp_cut (fun S H => S 1 = .box 1 0 ∧ H 1 = some (sheetL s)) (by simp [ops_ap, dops_ap, sheetA, sheetL]) ?_
 rintro S H ⟨s1, e1⟩
 refine awp_cut (fun S H => S 3 = .slice .view (A.map (settingA []))) ?_ ?_
 ·simp [ops_ap, dops_ap, s1, e1, sheetL]
  refine ⟨_, by kernel_rfl, a101, by simp [boxy], ?_⟩
  simp [ops_ap, dops_ap]
 clear s1 e1 S H
 rintro S H s3
 simp [ops_ap, dops_ap, s3]
 refine awp_loop 5 A.length (fun i S H => S 3 = .slice .view (A.map (settingA [])) ∧ S 5 = .int .i64 (i : Nat) ∧ S 4 = .int .i64 (minLen List.length (A.take i) : Nat)) (fun i S H h => h.2.1) ⟨by simp [ops_ap, dops_ap, s3], by simp [ops_ap, dops_ap], by simp [ops_ap, dops_ap, minLen]⟩ ?_
 clear s3 S H
 rintro i hi S H ⟨s3, s5, s4⟩
 by_cases hlt : i < A.length
 case neg =>
  have hil : i = A.length := by omega
  subst hil
  rw [List.take_of_length_le (Nat.le_refl _)] at s4
  simp [ops_ap, dops_ap, s3, s5, s4]
 have hw : IntKind.i64.wrap ((i : Int) + 1) = i + 1 := wrapI (by omega)
 rw [minLen_take hlt]
 generalize minLen List.length (A.take i) = m at s4 ⊢
 have h3 := hg3 A[i] (List.getElem_mem hlt)
 by_cases hm : m = 0
 ·subst hm
  simp [ops_ap, dops_ap, s3, s5, s4, hlt, setting_eq, hw]
 have hm0 : ((m : Int) == 0) = false := by simp; omega
 by_cases hl : A[i].length < m
 ·have hl' : (A[i].length : Int) < m := by omega
  simp [ops_ap, dops_ap, s3, s5, s4, hlt, setting_eq, hw, hm0, hm, hl, hl']
 ·have hl' : ¬ (A[i].length : Int) < m := by omega
  simp [ops_ap, dops_ap, s3, s5, s4, hlt, setting_eq, hw, hm0, hm, hl, hl']
def setD (s : Sheet) : List End × Int := setF List.length (mostI s []) (minLen List.length (goodS s [])) [] (goodS s [])
theorem setF_take {s : Sheet} {r : Nat} {A : List (List End)} {i : Nat} (h : i < A.length) : setF List.length (mostI s []) r [] (A.take (i + 1)) = if A[i].length = r ∧ (setF List.length (mostI s []) r [] (A.take i)).2 < mostI s [] A[i] then (A[i], mostI s [] A[i]) else setF List.length (mostI s []) r [] (A.take i) := by
 unfold setF
 rw [List.take_succ_eq_append_getElem h, List.foldl_append]; rfl
set_option maxHeartbeats 1000000 in
theorem ac42 (hG : Stable GI) (s : Sheet) (hsh : sheetI s = true) : AC prog GI 42 [sheetA s] (.ret (.tup [settingA [] (setD s).1, .int .i64 (max 0 (setD s).2), .bool (decide (0 ≤ (setD s).2))])) := by
 obtain ⟨it, hit, hsz⟩ := info_size (P := prog) (t := 31) (s := 2) (by kernel_rfl)
 have a101 := ac101 hG s hsh [] (by simp) (outI_nil hsh)
 have a43 := ac43 hG s hsh
 have hgl := goodS_len hsh []
 have hA : ∀ es ∈ goodS s [], AC prog GI 35 [sheetA s, settingA [] es] (.ret (.int .i64 (mostI s [] es))) := fun es h => by
  obtain ⟨h1, h2, _⟩ := good_ok hsh h
  exact ac35 hG s (sheet_slim hsh) hsh [] (by simp) es (by omega) h1
 unfold setD
 generalize minLen List.length (goodS s []) = r at *
 generalize goodS s [] = A at *
 refine AC.of_body hG hmix func42 rfl ntmps42 (by simp) (ac := c42) (by kernel_rfl) ?_
 refine awp_cut (fun S H => S 1 = .box 1 0 ∧ H 1 = some (sheetL s) ∧ S 2 = .box 2 0 ∧ H 2 = some [.slice .nil [], .slice .nil []]) (by simp [ops_ap, dops_ap, sheetA, sheetL]) ?_
 rintro S H ⟨s1, e1, s2, e2⟩
 refine awp_cut (fun S H => S 1 = .box 1 0 ∧ H 1 = some (sheetL s) ∧ S 2 = .box 2 0 ∧ H 2 = some [.slice .nil [], .slice .nil []] ∧ S 5 = .slice .view (A.map (settingA []))) ?_ ?_
 ·simp [ops_ap, dops_ap, s1, e1, s2, e2, sheetL]
  refine ⟨_, by kernel_rfl, a101, by simp [boxy], ?_⟩
  simp [ops_ap, dops_ap, s1, e1, s2, e2, sheetL]
 clear s1 e1 s2 e2 S H
 rintro S H ⟨s1, e1, s2, e2, s5⟩
 refine awp_cut (fun S H => S 1 = .box 1 0 ∧ H 1 = some (sheetL s) ∧ S 2 = .box 2 0 ∧ H 2 = some [.slice .nil [], .slice .nil []] ∧ S 5 = .slice .view (A.map (settingA [])) ∧ S 6 = .box 6 0 ∧ H 6 = some [.slice .nil [], .slice .nil []]) (by simp [ops_ap, dops_ap, s1, e1, s2, e2, s5]) ?_
 clear s1 e1 s2 e2 s5 S H
 rintro S H ⟨s1, e1, s2, e2, s5, s6, e6⟩
 refine awp_cut (fun S H => S 1 = .box 1 0 ∧ H 1 = some (sheetL s) ∧ S 2 = .box 2 0 ∧ H 2 = some [.slice .nil [], .slice .nil []] ∧ S 5 = .slice .view (A.map (settingA [])) ∧ S 6 = .box 6 0 ∧ H 6 = some [.slice .nil [], .slice .nil []] ∧ S 7 = .int .i64 (-1) ∧ S 8 = .int .i64 r) ?_ ?_
 ·simp [ops_ap, dops_ap, s1, e1, s2, e2, s5, s6, e6, sheetL]
  refine ⟨_, by kernel_rfl, a43, by simp [boxy], ?_⟩
  simp [ops_ap, dops_ap, s1, e1, s2, e2, s5, s6, e6, sheetL]
 clear s1 e1 s2 e2 s5 s6 e6 S H
 rintro S H ⟨s1, e1, s2, e2, s5, s6, e6, s7, s8⟩
 simp [ops_ap, dops_ap, s1, e1, s2, e2, s5, s6, e6, s7, s8]
 refine awp_loop 9 A.length (fun i S H => S 1 = .box 1 0 ∧ H 1 = some (sheetL s) ∧ S 2 = .box 2 0 ∧ H 2 = some [.slice .nil [], .slice .nil []] ∧ S 5 = .slice .view (A.map (settingA [])) ∧ S 6 = .box 6 0 ∧ S 8 = .int .i64 r ∧ S 9 = .int .i64 (i : Nat) ∧ S 7 = .int .i64 (setF List.length (mostI s []) r [] (A.take i)).2 ∧ ∃ f, H 6 = some [.slice f [], .slice f ((setF List.length (mostI s []) r [] (A.take i)).1.map endA)] ∧ (f = .view ∨ f = .nil)) (fun i S H h => h.2.2.2.2.2.2.2.1) ⟨by simp [ops_ap, dops_ap, s1], by simp [ops_ap, dops_ap, e1], by simp [ops_ap, dops_ap, s2], by simp [ops_ap, dops_ap, e2], by simp [ops_ap, dops_ap, s5], by simp [ops_ap, dops_ap, s6], by simp [ops_ap, dops_ap, s8], by simp [ops_ap, dops_ap], by simp [ops_ap, dops_ap, s7, setF], .nil, by simp [ops_ap, dops_ap, e6, setF], .inr rfl⟩ ?_
 clear s1 e1 s2 e2 s5 s6 e6 s7 s8 S H
 rintro i hi S H ⟨s1, e1, s2, e2, s5, s6, s8, s9, s7, f, e6, hf⟩
 by_cases hlt : i < A.length
 case neg =>
  have hil : i = A.length := by omega
  subst hil
  rw [List.take_of_length_le (Nat.le_refl _)] at s7 e6
  generalize setF List.length (mostI s []) r [] A = o at *
  rcases hf with rfl | rfl
  ·simp [ops_ap, dops_ap, s1, e1, s2, e2, s5, s6, s8, s9, s7, e6, hit, hsz, aggT, setting_eq, ints]
  ·simp [ops_ap, dops_ap, s1, e1, s2, e2, s5, s6, s8, s9, s7, e6, hit, hsz, aggT, setting_eq, ints]
 have hw : IntKind.i64.wrap ((i : Int) + 1) = i + 1 := wrapI (by omega)
 have a35 := hA A[i] (List.getElem_mem hlt)
 rw [setF_take hlt]
 generalize setF List.length (mostI s []) r [] (A.take i) = o at *
 simp [ops_ap, dops_ap, s1, e1, s2, e2, s5, s6, s8, s9, s7, e6, hlt, sheetL, setting_eq]
 refine ⟨_, by kernel_rfl, a35, by simp [boxy], ?_⟩
 by_cases hl : A[i].length = r
 case neg =>
  have hl' : ((A[i].length : Int) == r) = false := by simp; omega
  simp [ops_ap, dops_ap, s1, e1, s2, e2, s5, s6, s8, s9, s7, e6, hlt, sheetL, setting_eq, hl, hl', hw]
  exact hf
 have hl' : ((A[i].length : Int) == r) = true := by simp; omega
 by_cases hm : o.2 < mostI s [] A[i]
 ·simp [ops_ap, dops_ap, s1, e1, s2, e2, s5, s6, s8, s9, s7, e6, hlt, sheetL, setting_eq, hl, hl', hm, hw]
  exact ⟨.view, ⟨⟨rfl, rfl⟩, rfl⟩, .inl rfl⟩
 ·simp [ops_ap, dops_ap, s1, e1, s2, e2, s5, s6, s8, s9, s7, e6, hlt, sheetL, setting_eq, hl, hl', hm, hw]
  exact hf
end Go.Proofs.Tryz
namespace Go.Proofs.Tryz
open Go Go.AL Go.RowKit Go.Proofs
attribute [local simp] awp_all qs_all ops_all dops_all ops_nil dops_nil ops_call ops_callv ops_alloc ops_box dops_call dops_alloc kO_eq kD_eq awanted apure ev Eff.S Eff.H tmpOf upd putD AL.start AV.dem AV.cells AV.storable AV.scells splice scrub abin loadA HR.okB post ares aress ares1 AV.out AV.isData ints_len ints_get fz fz1 AV.vw AV.vw1 boxy vI int undefA assignQ thenQ blockQ seqQ panQ prol prolH allocOf
variable {GI : World → Prop}
def rowsO (s : Sheet) : List AV := if sheetI s then match goodS s [] with
 | [] => [.int .i64 0, .int .i64 5]
 | x :: l => [.int .i64 (bestL (betterE s) x l).length, .int .i64 0]
 else [.int .i64 0, .int .i64 2]
theorem ac39 (hG : Stable GI) (s : Sheet) (hs : Slim s) : AC prog GI 39 [sheetA s] (.ret (.tup (rowsO s))) := by
 have a40 := ac40 hG s hs
 unfold setO at a40
 unfold rowsO
 refine AC.of_body hG hmix func39 rfl ntmps39 (by simp) (ac := c39) (by kernel_rfl) ?_
 refine awp_cut (fun S H => S 1 = .box 1 0 ∧ H 1 = some (sheetL s)) (by simp [sheetA, sheetL]) ?_
 rintro S H ⟨s1, e1⟩
 cases hsh : sheetI s
 ·rw [hsh] at a40
  simp [s1, e1, sheetL]
  refine ⟨_, by kernel_rfl, a40, by simp [boxy], ?_⟩
  simp [s1, e1, sheetL, setting_eq]
 rw [hsh, if_pos rfl] at a40
 cases hg : goodS s [] with
 | nil =>
  rw [hg] at a40
  simp [s1, e1, sheetL]
  refine ⟨_, by kernel_rfl, a40, by simp [boxy], ?_⟩
  simp [s1, e1, sheetL, setting_eq]
 | cons x l =>
  rw [hg] at a40
  simp only at a40 ⊢
  generalize bestL (betterE s) x l = b at *
  simp [s1, e1, sheetL]
  refine ⟨_, by kernel_rfl, a40, by simp [boxy], ?_⟩
  simp [s1, e1, sheetL, setting_eq]
theorem eqs_end (a b : End) : (a.1 = b.1 ∧ a.2 = b.2) ↔ a = b := by
 obtain ⟨a1, a2⟩ := a
 obtain ⟨b1, b2⟩ := b
 simp
theorem ac100 (hG : Stable GI) (a b : List End) (ha : a.length < 1000000) : AC prog GI 100 [.slice .view (a.map endA), .slice .view (b.map endA)] (.ret (.bool (a == b))) := by
 refine AC.of_body hG hmix func100 rfl ntmps100 (by simp) (ac := c100) (by kernel_rfl) ?_
 by_cases hl : a.length = b.length
 case neg =>
  have hl' : ((a.length : Int) != b.length) = true := by simp; omega
  have hne : (a == b) = false := by
   rw [beq_eq_false_iff_ne]; intro e; exact hl (by rw [e])
  simp [c100, hl', hne]
 have hl' : ((a.length : Int) != b.length) = false := by simp; omega
 simp [c100, hl']
 refine awp_loop 5 a.length (fun i S H => S 0 = .slice .view (a.map endA) ∧ S 1 = .slice .view (b.map endA) ∧ S 5 = .int .i64 (i : Nat) ∧ ∀ j (hj : j < a.length), j < i → a[j] = b[j]'(by omega)) (fun i S H h => h.2.2.1) ⟨by simp, by simp, by simp, fun j _ h => absurd h (Nat.not_lt_zero _)⟩ ?_
 rintro i hi S H ⟨s0, s1, s5, hb⟩
 by_cases hlt : i < a.length
 case neg =>
  have he : (a == b) = true := by
   rw [beq_iff_eq]
   exact List.ext_getElem hl fun j h1 h2 => hb j h1 (by omega)
  have hn : ¬ (i : Int) < a.length := by omega
  simp [s0, s1, s5, hn, he]
 have hw : IntKind.i64.wrap ((i : Int) + 1) = i + 1 := wrapI (by omega)
 have hlb : i < b.length := by omega
 by_cases he : a[i] = b[i]
 ·simp [s0, s1, s5, hlt, hlb, hw, he, endA, intsOf2]
  intro j hj hji
  by_cases e : j = i
  ·subst e; exact he
  ·exact hb j hj (by omega)
 ·have hne : (a == b) = false := by
   rw [beq_eq_false_iff_ne]; intro e; subst e; exact he rfl
  have he' : ¬ (a[i].1 = b[i].1 ∧ a[i].2 = b[i].2) := fun h => he ((eqs_end _ _).1 h)
  have hb2 : ([a[i].1, a[i].2] != [b[i].1, b[i].2]) = true := by
   rw [bne_iff_ne]; intro e; simp at e; exact he' e
  simp [s0, s1, s5, hlt, hlb, endA, intsOf2, hne, hb2]
theorem ac41 (hG : Stable GI) (o1 o2 : List Int) (e1 e2 : List End) (h1 : o1.length < 1000000) (h2 : e1.length < 1000000) : AC prog GI 41 [settingA o1 e1, settingA o2 e2] (.ret (.bool (o1 == o2 && e1 == e2))) := by
 refine AC.of_body hG hmix func41 rfl ntmps41 (by simp) (ac := c41) (by kernel_rfl) ?_
 refine awp_cut (fun S H => S 2 = .box 2 0 ∧ S 3 = .box 3 0 ∧ H 2 = some [vI o1, .slice .view (e1.map endA)] ∧ H 3 = some [vI o2, .slice .view (e2.map endA)]) (by simp [setting_eq]) ?_
 rintro S H ⟨s2, s3, e2', e3⟩
 simp [s2, s3, e2', e3]
 refine ⟨_, by kernel_rfl, ac52 hG o1 o2 h1, fun _ => rfl, ?_⟩
 cases o1 == o2
 ·simp
 simp [s2, s3, e2', e3]
 refine ⟨_, by kernel_rfl, ac100 hG e1 e2 h2, fun _ => rfl, ?_⟩
 simp
theorem best_doc {s : Sheet} (hsh : sheetI s = true) {x : List End} {l : List (List End)} (hg : goodS s [] = x :: l) : minLen List.length (goodS s []) = (bestL (betterE s) x l).length ∧ setD s = (bestL (betterE s) x l, mostI s [] (bestL (betterE s) x l)) ∧ 0 ≤ mostI s [] (bestL (betterE s) x l) := by
 have hB : IsBest (betterB List.length (mostI s [])) (goodS s []) (bestL (betterE s) x l) := by rw [hg]; exact better_best x l
 have h1 : ∀ y ∈ goodS s [], 1 ≤ y.length := fun y hy => List.length_pos_iff.2 (setR_parts (good_ok hsh hy).1).2.1
 have h2 : ∀ y ∈ goodS s [], 0 ≤ mostI s [] y := fun y hy => by
  obtain ⟨a, _, b⟩ := good_ok hsh hy
  rw [fitI_most hsh (good_of hsh a) (by omega) (by omega)] at b
  simpa using b
 have e1 := minLen_best hB h1
 refine ⟨e1, ?_, h2 _ (by rw [hg]; exact bestL_mem _ _ _)⟩
 unfold setD
 rw [e1]
 exact setF_best hB h2
set_option maxHeartbeats 2000000 in
theorem ac6 (hG : Stable GI) (hML : ML GI) (s : Sheet) : AC prog GI 6 [sheetA s] (.ret (.bool true)) := by
 have hk := ac24 hG hML
 refine AC.of_body hG hmix func6 rfl ntmps6 (by simp) (ac := c6) (by kernel_rfl) ?_
 refine awp_cut (fun S H => S 1 = .box 1 0 ∧ H 1 = some (sheetL s)) (by simp [sheetA, sheetL]) ?_
 rintro S H ⟨s1, e1⟩
 simp [s1, e1, sheetL]
 refine ⟨_, by kernel_rfl, ac29 hG s, fun _ => rfl, ?_⟩
 cases hsI : shortI s
 ·simp [s1, e1, sheetL]
  refine ⟨_, by kernel_rfl, hk, fun _ => rfl, ?_⟩
  simp
 have hs := shortI_slim hsI
 have a39 := ac39 hG s hs
 have a40 := ac40 hG s hs
 unfold rowsO at a39
 unfold setO at a40
 simp [s1, e1, sheetL]
 have hS0 : settingA [] [] = .agg [.slice .view [], .slice .view []] := rfl
 cases hsh : sheetI s
 ·rw [hsh] at a39 a40
  have a41 := ac41 hG [] [] [] [] (by simp) (by simp)
  rw [hS0] at a41
  refine ⟨_, by kernel_rfl, a39, by simp [boxy], ?_⟩
  simp [s1, e1, sheetL]
  refine ⟨_, by kernel_rfl, a40, by simp [boxy], ?_⟩
  simp [s1, e1, sheetL, setting_eq, ints]
  refine ⟨_, by kernel_rfl, ac33 hG s hs, fun _ => rfl, ?_⟩
  rw [hsh]
  simp [s1, e1, sheetL, fillA]
  refine ⟨_, by kernel_rfl, a41, by simp [boxy], ?_⟩
  simp [s1, e1, sheetL]
  refine ⟨_, by kernel_rfl, hk, fun _ => rfl, ?_⟩
  simp
 rw [hsh, if_pos rfl] at a39 a40
 have a42 := ac42 hG s hsh
 have a43 := ac43 hG s hsh
 cases hg : goodS s [] with
 | nil =>
  rw [hg] at a39 a40
  have hD : setD s = ([], -1) := by unfold setD; rw [hg]; rfl
  rw [hD] at a42
  have a41 := ac41 hG [] [] [] [] (by simp) (by simp)
  rw [hS0] at a41
  refine ⟨_, by kernel_rfl, a39, by simp [boxy], ?_⟩
  simp [s1, e1, sheetL]
  refine ⟨_, by kernel_rfl, a40, by simp [boxy], ?_⟩
  simp [s1, e1, sheetL, setting_eq, ints]
  refine ⟨_, by kernel_rfl, ac33 hG s hs, fun _ => rfl, ?_⟩
  rw [hsh]
  simp [s1, e1, sheetL, fillA]
  refine ⟨_, by kernel_rfl, a42, by simp [boxy], ?_⟩
  simp [s1, e1, sheetL, setting_eq, ints, fillA]
  refine ⟨_, by kernel_rfl, a41, by simp [boxy], ?_⟩
  simp [s1, e1, sheetL]
  refine ⟨_, by kernel_rfl, hk, fun _ => rfl, ?_⟩
  simp
 | cons x l =>
  obtain ⟨h1, h2, h3⟩ := best_doc hsh hg
  have hb := good_ok hsh (a := bestL (betterE s) x l) (by rw [hg]; exact bestL_mem _ _ _)
  rw [hg] at a39 a40
  simp only at a39 a40
  rw [h2] at a42
  rw [h1] at a43
  simp only at a42
  generalize bestL (betterE s) x l = b at *
  have a41 := ac41 hG [] [] b b (by simp) (by omega)
  simp only [setting_eq] at a41 a40 a42
  have hmx : max 0 (mostI s [] b) = mostI s [] b := by omega
  rw [hmx] at a42
  have hd : decide (0 ≤ mostI s [] b) = true := by simpa using h3
  rw [hd] at a42
  refine ⟨_, by kernel_rfl, a39, by simp [boxy], ?_⟩
  simp [s1, e1, sheetL]
  refine ⟨_, by kernel_rfl, a40, by simp [boxy], ?_⟩
  simp [s1, e1, sheetL]
  refine ⟨_, by kernel_rfl, ac33 hG s hs, fun _ => rfl, ?_⟩
  rw [hsh]
  simp [s1, e1, sheetL]
  refine ⟨_, by kernel_rfl, a42, by simp [boxy], ?_⟩
  simp [s1, e1, sheetL]
  refine ⟨_, by kernel_rfl, a43, by simp [boxy], ?_⟩
  simp [s1, e1, sheetL]
  refine ⟨_, by kernel_rfl, a41, by simp [boxy], ?_⟩
  simp [s1, e1, sheetL]
  refine ⟨_, by kernel_rfl, hk, fun _ => rfl, ?_⟩
  simp
end Go.Proofs.Tryz
namespace Go.Proofs.YtjdgdinalodjfaaGreatDoor
open Go Go.AL Go.ChangeShapes Go.WideShapes Go.ChangeAt Go.RowKit Go.Proofs.Tryz
set_option maxRecDepth 100000
namespace Sets
abbrev row : OpenClaim := Rows.letterSetsRow
abbrev spec : ChangeSpec := Rows.letterSetsSpec
theorem call (W : World) (base : Nat) (args : Array Value) {H : Type} {enc : TypeId × Value → H} (ds : List (DataW H)) (p : List MemPlace) (hG : GI W) (hval : ∀ (j : Nat) t v, Tryz.f6.params[j]? = some t → args[j]? = some v → Value.okWide Tryz.prog W .any base t v)
  (hA : DataW.TrodAll enc Tryz.prog W 0 (fun _ => true) true Tryz.f6.params.toList args.toList ds p) : Calls Tryz.prog 6 args W fun e W' => e = .returned (.bool true) ∧ Below W.heap.size W W' := by
 rw [Tryz.params6] at hA hval
 obtain ⟨v0, vs0, d0, ds0, p0, q0, e0, rfl, rfl, h0, hr1⟩ := trodAll_cons hA
 obtain ⟨rfl, rfl, rfl⟩ := trodAll_nil hr1
 obtain rfl : args = #[v0] := by
  apply Array.toList_inj.1; rw [e0]
 obtain ⟨x0, g0, a0⟩ := open_sheet (hval 0 28 v0 rfl rfl) h0
 refine calls_of (ac6 gi_stable (fun _ h => h) x0) hG rfl fun i h h' => ?_
 match i, h with
 | 0, _ => exact .data _ _ a0
theorem w1 (os : Os) : ((World.laidAll Tryz.prog os row.laid).forCall (fun _ _ => 0) ⟨#[], #[.agg #[.slice none 0 0, .slice none 0 0, .int .i64 0, .int .i64 0, .int .i64 0, .int .i64 0, .int .i64 0, .slice none 0 0, .int .i64 0, .int .i64 0]], []⟩).Shaped Tryz.checked.prog :=
 World.shaped_of_ZipB (by kernel_rfl) (by kernel_rfl)
theorem lifted (os : Os) (started : os.Started) (H : Type) (enc : TypeId × Value → H) :
  ReturnsInHanded {} Tryz.checked os 6 .any (fun w args => (spec.pre enc Tryz.prog Tryz.f6 row.domain false w args ∧ laidMetH Tryz.prog row.laid w) ∧ sizedMet enc Tryz.prog Tryz.f6 (OpenSpec.ofChange spec) false w args)
   (spec.post enc Tryz.prog Tryz.f6 false true false false) := by
 refine lifted_of 6 Tryz.f6 Tryz.func6 (by kernel_rfl) (by kernel_rfl) spec rfl ?_ ?_ os started _ 12 (w1 os) (by kernel_rfl) (by kernel_rfl) (by kernel_rfl) ?_ (fun W base args ds p => call W base args ds p)
 ·intro ds hl
  rw [show Tryz.f6.params.size = 1 by kernel_rfl] at hl
  match ds, hl with
  | [d0], _ => rfl
 ·rw [Tryz.params6]
  intro t ht
  have : t = 28 := by simpa using ht
  rcases this with rfl
  all_goals exact ⟨by kernel_rfl, of_decide_eq_true (by kernel_rfl)⟩
 ·rw [MakeChecks.laidMetH_plain _ _ _ (by kernel_rfl)]; exact laidMet_laidAll _ (by kernel_rfl) (by kernel_rfl)
theorem f_named : Tryz.prog.funcNamed "mahlstick/mahlsticklaw01.LetterSets" = some 6 := by kernel_rfl
theorem f_inPlace : (row.inPlace == Tryz.prog.inPlace 6) = true := by kernel_rfl
theorem f_unfollowed : (row.unfollowed == Tryz.prog.unfollowed 6) = true := by kernel_rfl
theorem f_recurses : (row.recurses == Tryz.prog.recurses 6) = true := by kernel_rfl
theorem f_vars : (row.named == Tryz.prog.varsNamed 6) = true := by kernel_rfl
theorem joined : joinedFacts Tryz.prog 6 Tryz.f6 spec row = true :=
 joined_of ⟨rfl, rfl, rfl, rfl, rfl, rfl⟩ (by kernel_rfl) (by kernel_rfl) (by kernel_rfl) f_inPlace f_unfollowed f_recurses f_vars (by kernel_rfl) (by kernel_rfl) (by kernel_rfl) (by kernel_rfl)
theorem instanceOf : Tryz.f6.isInstance Tryz.prog row.origin row.targs := of_decide_eq_true (by kernel_rfl)
theorem wrapperOf : Tryz.f6.isWrapper Tryz.prog row.wrapper row.mainSum := by
 unfold Func.isWrapper
 rw [if_neg (by decide +kernel)]
 exact ⟨rfl, rfl⟩
theorem holds : Rows.LetterSetsSaid :=
 OpenClaim.holds_of_wide 6 Tryz.f6 rfl rfl rfl rfl rfl rfl rfl ⟨rfl, rfl, rfl, rfl, rfl⟩ rfl rfl rfl rfl rfl f_named Tryz.func6 joined instanceOf wrapperOf (fun os started H enc _ => lifted os started H enc)
theorem f_wf : row.wfByText (OpenSpec.ofChange spec) = true := by kernel_rfl
theorem f_goes : false = row.goesBy Tryz.prog := by kernel_rfl
theorem f_stand : ([28].all fun u => !Tryz.prog.wantsStandIn u) = true := by kernel_rfl
theorem f_main : Tryz.prog.mainIs = some (true, "c6c35c26350f8f1001e286baba07dbfbfaca16fe3311917b4f7043a2b45b2948".toList) := by rw [p_mainIs, p_sum]
theorem card : Rows.LetterSetsCardSaid :=
 Claim7.holds_tied_plain_at .later [] [.data, .data, .data, .data, .pinned] true (true, "c6c35c26350f8f1001e286baba07dbfbfaca16fe3311917b4f7043a2b45b2948") true holds (fun _ h => by cases h) f_wf (fun _ h => by cases h) letterSets_row_tie rfl ⟨rfl, rfl⟩ f_main rfl
  (fun f fn hf hfn => by
   obtain rfl : f = 6 := Option.some.inj (f_named.symm.trans hf) |>.symm
   obtain rfl : fn = Tryz.f6 := (Option.some.inj (Tryz.func6.symm.trans hfn)).symm
   refine ⟨p_looks, fun j t ht => ?_⟩
   rw [Tryz.params6] at ht
   have hm : t ∈ [28] := by
    simpa using Array.mem_of_getElem? ht
   exact (show Tryz.prog.wantsStandIn t = false by simpa using List.all_eq_true.1 f_stand t hm))
  f_goes
end Sets
#print axioms Sets.card
end Go.Proofs.YtjdgdinalodjfaaGreatDoor
