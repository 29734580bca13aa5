/-
  A part of the proof: Tr1 Tc K16.
-/
import Derived.Test.YtjdgdinalodjfaaGreatDoorK1
set_option linter.all false
set_option linter.unusedVariables false
set_option linter.unusedSimpArgs false
set_option linter.deprecated false
namespace Go.Proofs.Tryz
open Go.AL
theorem row126 : RowOK prog 126 ⟨c126, 8, [.cell 4 25]⟩ := ⟨f126, _, func126, rfl, ntmps126, rfl, by kernel_rfl⟩
theorem row127 : RowOK prog 127 ⟨c127, 45, [.tmp 4]⟩ := ⟨f127, _, func127, rfl, ntmps127, rfl, by kernel_rfl⟩
theorem row128 : RowOK prog 128 ⟨c128, 15, [.tmp 6]⟩ := ⟨f128, _, func128, rfl, ntmps128, rfl, by kernel_rfl⟩
theorem row129 : RowOK prog 129 ⟨c129, 9, [.tmp 4]⟩ := ⟨f129, _, func129, rfl, ntmps129, rfl, by kernel_rfl⟩
theorem row130 : RowOK prog 130 ⟨c130, 16, [.tmp 4]⟩ := ⟨f130, _, func130, rfl, ntmps130, rfl, by kernel_rfl⟩
theorem row131 : RowOK prog 131 ⟨c131, 39, [.tmp 6]⟩ := ⟨f131, _, func131, rfl, ntmps131, rfl, by kernel_rfl⟩
theorem row132 : RowOK prog 132 ⟨c132, 46, [.tmp 6]⟩ := ⟨f132, _, func132, rfl, ntmps132, rfl, by kernel_rfl⟩
theorem row133 : RowOK prog 133 ⟨c133, 26, []⟩ := ⟨f133, _, func133, rfl, ntmps133, rfl, by kernel_rfl⟩
theorem row136 : RowOK prog 136 ⟨c136, 26, [.tmp 4]⟩ := ⟨f136, _, func136, rfl, ntmps136, rfl, by kernel_rfl⟩
theorem row137 : RowOK prog 137 ⟨c137, 24, [.tmp 4]⟩ := ⟨f137, _, func137, rfl, ntmps137, rfl, by kernel_rfl⟩
theorem row138 : RowOK prog 138 ⟨c138, 6, [.tmp 2]⟩ := ⟨f138, _, func138, rfl, ntmps138, rfl, by kernel_rfl⟩
theorem row139 : RowOK prog 139 ⟨c139, 9, [.tmp 4]⟩ := ⟨f139, _, func139, rfl, ntmps139, rfl, by kernel_rfl⟩
theorem row140 : RowOK prog 140 ⟨c140, 20, [.tmp 6]⟩ := ⟨f140, _, func140, rfl, ntmps140, rfl, by kernel_rfl⟩
theorem row141 : RowOK prog 141 ⟨c141, 9, [.tmp 4]⟩ := ⟨f141, _, func141, rfl, ntmps141, rfl, by kernel_rfl⟩
theorem row142 : RowOK prog 142 ⟨c142, 8, [.tmp 3]⟩ := ⟨f142, _, func142, rfl, ntmps142, rfl, by kernel_rfl⟩
theorem row143 : RowOK prog 143 ⟨c143, 27, [.tmp 4]⟩ := ⟨f143, _, func143, rfl, ntmps143, rfl, by kernel_rfl⟩
theorem row145 : RowOK prog 145 ⟨c145, 50, [.tmp 4]⟩ := ⟨f145, _, func145, rfl, ntmps145, rfl, by kernel_rfl⟩
theorem row150 : RowOK prog 150 ⟨c150, 35, [.tmp 6]⟩ := ⟨f150, _, func150, rfl, ntmps150, rfl, by kernel_rfl⟩
theorem row151 : RowOK prog 151 ⟨c151, 11, [.tmp 3]⟩ := ⟨f151, _, func151, rfl, ntmps151, rfl, by kernel_rfl⟩
theorem row153 : RowOK prog 153 ⟨c153, 7, [.tmp 3]⟩ := ⟨f153, _, func153, rfl, ntmps153, rfl, by kernel_rfl⟩
theorem row155 : RowOK prog 155 ⟨c155, 19, [.tmp 4]⟩ := ⟨f155, _, func155, rfl, ntmps155, rfl, by kernel_rfl⟩
theorem row156 : RowOK prog 156 ⟨c156, 25, [.tmp 2]⟩ := ⟨f156, _, func156, rfl, ntmps156, rfl, by kernel_rfl⟩
theorem row160 : RowOK prog 160 ⟨c160, 9, []⟩ := ⟨f160, _, func160, rfl, ntmps160, rfl, by kernel_rfl⟩
theorem row161 : RowOK prog 161 ⟨c161, 2, [.cell 0 195]⟩ := ⟨f161, _, func161, rfl, ntmps161, rfl, by kernel_rfl⟩
theorem row162 : RowOK prog 162 ⟨c162, 19, [.tmp 4]⟩ := ⟨f162, _, func162, rfl, ntmps162, rfl, by kernel_rfl⟩
theorem row164 : RowOK prog 164 ⟨c164, 8, [.tmp 2]⟩ := ⟨f164, _, func164, rfl, ntmps164, rfl, by kernel_rfl⟩
theorem row165 : RowOK prog 165 ⟨c165, 44, [.tmp 2]⟩ := ⟨f165, _, func165, rfl, ntmps165, rfl, by kernel_rfl⟩
theorem row167 : RowOK prog 167 ⟨c167, 19, [.tmp 4]⟩ := ⟨f167, _, func167, rfl, ntmps167, rfl, by kernel_rfl⟩
theorem row168 : RowOK prog 168 ⟨c168, 19, [.tmp 4]⟩ := ⟨f168, _, func168, rfl, ntmps168, rfl, by kernel_rfl⟩
theorem row169 : RowOK prog 169 ⟨c169, 17, [.tmp 2]⟩ := ⟨f169, _, func169, rfl, ntmps169, rfl, by kernel_rfl⟩
theorem row170 : RowOK prog 170 ⟨c170, 19, [.tmp 4]⟩ := ⟨f170, _, func170, rfl, ntmps170, rfl, by kernel_rfl⟩
theorem row171 : RowOK prog 171 ⟨c171, 19, [.tmp 4]⟩ := ⟨f171, _, func171, rfl, ntmps171, rfl, by kernel_rfl⟩
theorem row172 : RowOK prog 172 ⟨c172, 11, [.tmp 3]⟩ := ⟨f172, _, func172, rfl, ntmps172, rfl, by kernel_rfl⟩
theorem row174 : RowOK prog 174 ⟨c174, 5, [.tmp 2]⟩ := ⟨f174, _, func174, rfl, ntmps174, rfl, by kernel_rfl⟩
theorem row225 : RowOK prog 225 ⟨c225, 11, [.tmp 2]⟩ := ⟨f225, _, func225, rfl, ntmps225, rfl, by kernel_rfl⟩
theorem row226 : RowOK prog 226 ⟨c226, 19, [.tmp 2]⟩ := ⟨f226, _, func226, rfl, ntmps226, rfl, by kernel_rfl⟩
theorem row227 : RowOK prog 227 ⟨c227, 24, [.tmp 2]⟩ := ⟨f227, _, func227, rfl, ntmps227, rfl, by kernel_rfl⟩
theorem row228 : RowOK prog 228 ⟨c228, 7, [.tmp 2]⟩ := ⟨f228, _, func228, rfl, ntmps228, rfl, by kernel_rfl⟩
theorem row229 : RowOK prog 229 ⟨c229, 19, [.tmp 2]⟩ := ⟨f229, _, func229, rfl, ntmps229, rfl, by kernel_rfl⟩
theorem row230 : RowOK prog 230 ⟨c230, 17, [.tmp 2]⟩ := ⟨f230, _, func230, rfl, ntmps230, rfl, by kernel_rfl⟩
end Go.Proofs.Tryz
namespace Go.Proofs.Tryz
open Go.AL
set_option maxRecDepth 10000 in
theorem tabOK : TrOK prog tab := ⟨row126, ⟨row81, ⟨row52, ⟨row37, ⟨row26, ⟨row25, ⟨row24, trivial, trivial⟩, trivial⟩, ⟨row32, ⟨row31, trivial, trivial⟩, trivial⟩⟩, ⟨row45, ⟨row41, ⟨row39, trivial, trivial⟩, trivial⟩, ⟨row50, trivial, trivial⟩⟩⟩, ⟨row74, ⟨row69, ⟨row61, ⟨row56, trivial, trivial⟩, trivial⟩, ⟨row73, trivial, trivial⟩⟩, ⟨row77, ⟨row76, ⟨row75, trivial, trivial⟩, trivial⟩, ⟨row79, trivial, trivial⟩⟩⟩⟩, ⟨row103, ⟨row87, ⟨row84, ⟨row83, ⟨row82, trivial, trivial⟩, trivial⟩, ⟨row86, trivial, trivial⟩⟩, ⟨row99, ⟨row98, ⟨row96, trivial, trivial⟩, trivial⟩, ⟨row100, trivial, trivial⟩⟩⟩, ⟨row114, ⟨row112, ⟨row106, ⟨row104, trivial, trivial⟩, trivial⟩, ⟨row113, trivial, trivial⟩⟩, ⟨row121, ⟨row120, ⟨row116, trivial, trivial⟩, trivial⟩, ⟨row122, trivial, trivial⟩⟩⟩⟩⟩, ⟨row156, ⟨row139, ⟨row132, ⟨row129, ⟨row128, ⟨row127, trivial, trivial⟩, trivial⟩, ⟨row131, ⟨row130, trivial, trivial⟩, trivial⟩⟩, ⟨row137, ⟨row136, ⟨row133, trivial, trivial⟩, trivial⟩, ⟨row138, trivial, trivial⟩⟩⟩, ⟨row145, ⟨row142, ⟨row141, ⟨row140, trivial, trivial⟩, trivial⟩, ⟨row143, trivial, trivial⟩⟩, ⟨row153, ⟨row151, ⟨row150, trivial, trivial⟩, trivial⟩, ⟨row155, trivial, trivial⟩⟩⟩⟩, ⟨row171, ⟨row165, ⟨row162, ⟨row161, ⟨row160, trivial, trivial⟩, trivial⟩, ⟨row164, trivial, trivial⟩⟩, ⟨row169, ⟨row168, ⟨row167, trivial, trivial⟩, trivial⟩, ⟨row170, trivial, trivial⟩⟩⟩, ⟨row227, ⟨row225, ⟨row174, ⟨row172, trivial, trivial⟩, trivial⟩, ⟨row226, trivial, trivial⟩⟩, ⟨row230, ⟨row229, ⟨row228, trivial, trivial⟩, trivial⟩, ⟨row231, trivial, trivial⟩⟩⟩⟩⟩⟩
end Go.Proofs.Tryz
namespace Go.AL
def dMap {α : Type} (d : AV → Option α) : List AV → Option (List α)
 | [] => some []
 | x :: l => match d x with
  | some a => match dMap d l with
   | some r => some (a :: r)
   | none => none
  | none => none
theorem dMap_eq {α : Type} {d : AV → Option α} {f : α → AV} (hd : ∀ x a, d x = some a → x = f a) : ∀ {l : List AV} {r : List α}, dMap d l = some r → l = r.map f
 | [], r, h => by cases h; rfl
 | x :: l, r, h => by
  unfold dMap at h
  split at h
  case h_2 => cases h
  rename_i a ha
  split at h
  case h_2 => cases h
  rename_i r' hr
  cases h
  rw [List.map_cons, ← hd _ _ ha, ← dMap_eq hd hr]
def dInt : AV → Option Int
 | .int .i64 n => some n
 | _ => none
theorem dInt_eq (x : AV) (n : Int) (h : dInt x = some n) : x = .int .i64 n := by
 unfold dInt at h
 split at h <;> cases h
 rfl
def dVI : AV → Option (List Int)
 | .slice .view es => dMap dInt es
 | _ => none
theorem dVI_eq (x : AV) (l : List Int) (h : dVI x = some l) : x = vI l := by
 unfold dVI at h
 split at h
 case h_2 => cases h
 rw [dMap_eq dInt_eq h]; rfl
def dStr : AV → Option (List UInt8)
 | .str l => some l
 | _ => none
theorem dStr_eq (x : AV) (l : List UInt8) (h : dStr x = some l) : x = .str l := by
 unfold dStr at h
 split at h <;> cases h
 rfl
def filtM {α : Type} (q : α → Option Bool) : List α → Option (List α)
 | [] => some []
 | x :: l => match q x with
  | some b => match filtM q l with
   | some r => some (bif b then x :: r else r)
   | none => none
  | none => none
theorem filtM_eq {α : Type} {q : α → Option Bool} : ∀ {l r : List α}, filtM q l = some r → (∀ x ∈ l, q x = some ((q x).getD false)) ∧ r = l.filter fun x => (q x).getD false
 | [], r, h => by cases h; exact ⟨fun _ h => (List.not_mem_nil h).elim, rfl⟩
 | x :: l, r, h => by
  unfold filtM at h
  split at h
  case h_2 => cases h
  rename_i b hb
  split at h
  case h_2 => cases h
  rename_i r' hr
  cases h
  obtain ⟨h1, h2⟩ := filtM_eq hr
  refine ⟨fun y hy => ?_, ?_⟩
  ·rcases List.mem_cons.1 hy with rfl | hy
   ·rw [hb]; rfl
   ·exact h1 y hy
  ·rw [List.filter_cons, hb, ← h2]
   cases b <;> rfl
end Go.AL
namespace Go.Proofs.Tryz
open Go Go.AL Go.RowKit Go.Proofs
variable {GI : World → Prop}
def dWord : AV → Option Word
 | .agg [s, c, .bool b] => match dVI s with
  | some s => match dVI c with
   | some c => some ⟨s, c, b⟩
   | none => none
  | none => none
 | _ => none
theorem dWord_eq (x : AV) (w : Word) (h : dWord x = some w) : x = wordA w := by
 unfold dWord at h
 split at h
 case h_2 => cases h
 split at h
 case h_2 => cases h
 rename_i h1
 split at h <;> cases h
 rename_i h2
 rw [dVI_eq _ _ h1, dVI_eq _ _ h2]; rfl
def dPair : AV → Option Pair
 | .agg [.int .i64 a, .int .i64 b, .int .i64 c, .int .i64 d] => some ⟨a, b, c, d⟩
 | _ => none
theorem dPair_eq (x : AV) (p : Pair) (h : dPair x = some p) : x = pairA p := by
 unfold dPair at h
 split at h <;> cases h
 rfl
def dEnd : AV → Option End
 | .agg [.int .i64 a, .int .i64 b] => some (a, b)
 | _ => none
theorem dEnd_eq (x : AV) (p : End) (h : dEnd x = some p) : x = endA p := by
 unfold dEnd at h
 split at h <;> cases h
 rfl
def dLine : AV → Option Line
 | .agg [.slice .view g, .bool b] => some ⟨g, b⟩
 | _ => none
theorem dLine_eq (x : AV) (p : Line) (h : dLine x = some p) : x = lineA p := by
 unfold dLine at h
 split at h <;> cases h
 rfl
def p108 : List AV → Option AOut
 | [.slice .view es] => if elemsOK 1 es = true ∧ es.length < 1048576 then some (.ret (.slice (if es.isEmpty then .nil else .own 3) es)) else none
 | _ => none
def p147 : List AV → Option AOut
 | [.slice .view es] => if elemsOK 2 es = true ∧ es.length < 1048576 then some (.ret (.slice (if es.isEmpty then .nil else .own 116) es)) else none
 | _ => none
def p78 : List AV → Option AOut
 | [] => some (.ret dA)
 | _ => none
def p157 : List AV → Option AOut
 | [.int .i64 n] => if 0 ≤ n ∧ n < 100 then some (.ret (.str (decs 20 n.toNat))) else none
 | _ => none
def p159 : List AV → Option AOut
 | [.str s, .str [c]] => if s.length < 4294967281 then some (.ret (strs (splitS c s))) else none
 | _ => none
def p173 : List AV → Option AOut
 | [.slice .view es, .str sep] => match dMap dStr es with
  | some ls => if ls.length ≤ 100000 ∧ (Lib.join ls sep).length ≤ 140737488355328 then some (.ret (.str (Lib.join ls sep))) else none
  | none => none
 | _ => none
def goodW (w : List UInt8) : Bool := !w.isEmpty && decide (w.length ≤ 3) && w.all (fun c => decide (48 ≤ c.toNat) && decide (c.toNat ≤ 57)) && decide (numV w < 100) && decs 20 (numV w).toNat == w
def p163 : List AV → Option AOut
 | [.slice .view es] => match dMap dStr es with
  | some ws => if ws.length ≤ 100000 ∧ ws.all goodW = true then some (.ret (.slice (if ws.isEmpty then .nil else .view) (ints (ws.map numV)))) else none
  | none => none
 | _ => none
def p110 : List AV → Option AOut
 | [.agg sA, .int .i64 L] => match (sA[7]? : Option AV) with
  | some (.slice .view es) => match dMap dWord es with
   | some ws => if sA.length = 10 ∧ sA.all AV.storable = true ∧ ws.length ≤ 100000 ∧ (ws.all fun w => decide (w.signs.length < 1000000) && decide (w.cuts.length < 1000000)) = true ∧ 0 ≤ L ∧ L < 4611686018427387904 then
     some (.ret (.agg ((sA.set 7 (.slice .view ((shorterW ws L.toNat).map wordA))).map AV.vw1))) else none
   | none => none
  | _ => none
 | _ => none
def p111 : List AV → Option AOut
 | [x] => match dWord x with
  | some w => if w.signs.length < 1000000 then some (.ret (.slice .view ((leftL w.signs).map vI))) else none
  | none => none
 | _ => none
def distinct : List Pair → Bool
 | [] => true
 | p :: ps => (ps.all fun q => !(decide (p.l = q.l) && decide (p.r = q.r))) && distinct ps
def p80 : List AV → Option AOut
 | [.agg sA] => match (sA[1]? : Option AV) with
  | some (.slice .view es) => match dMap dPair es with
   | some ps => if sA.length = 10 ∧ (sA.all fun x => x.storable && !isVal x) = true ∧ ps.length ≤ 100000 ∧ distinct ps = true then some (.ret (.agg ((sA ++ [spaces ps]).map AV.vw1))) else none
   | none => none
  | _ => none
 | _ => none
def prims0 : CallF := fun f args =>
 bif Nat.beq f 108 then p108 args else bif Nat.beq f 147 then p147 args else bif Nat.beq f 78 then p78 args else bif Nat.beq f 157 then p157 args else bif Nat.beq f 159 then p159 args else
 bif Nat.beq f 173 then p173 args else bif Nat.beq f 163 then p163 args else bif Nat.beq f 110 then p110 args else bif Nat.beq f 111 then p111 args else bif Nat.beq f 80 then p80 args else none
theorem distinct_get : ∀ {ps : List Pair}, distinct ps = true → ∀ i j (hi : i < ps.length) (hj : j < ps.length), i < j → ¬ ((ps[i]).l = (ps[j]).l ∧ (ps[i]).r = (ps[j]).r)
 | [], _, i, _, hi, _, _ => by cases hi
 | p :: ps, h, 0, j + 1, hi, hj, _ => by
  simp only [distinct, Bool.and_eq_true, List.all_eq_true] at h
  have := h.1 (ps[j]'(by simpa using hj)) (List.getElem_mem _)
  simp only [Bool.not_eq_true', Bool.and_eq_false_iff, decide_eq_false_iff_not] at this
  rintro ⟨h1, h2⟩
  rcases this with h | h
  ·exact h h1
  ·exact h h2
 | p :: ps, h, i + 1, j + 1, hi, hj, hij => by
  simp only [distinct, Bool.and_eq_true, List.all_eq_true] at h
  exact distinct_get h.2 i j _ _ (by omega)
theorem bsplit {α : Type} {b : Bool} {x y : Option α} {z : α} (h : (bif b then x else y) = some z) : (b = true ∧ x = some z) ∨ (b = false ∧ y = some z) := by
 cases b
 ·exact .inr ⟨rfl, h⟩
 ·exact .inl ⟨rfl, h⟩
theorem p108_ok (hG : Stable GI) {args : List AV} {out : AOut} (h : p108 args = some out) : AC prog GI 108 args out := by
 unfold p108 at h
 split at h
 case h_2 => cases h
 split at h <;> cases h
 rename_i hc
 exact ac108 hG _ hc.1 hc.2
theorem p147_ok (hG : Stable GI) {args : List AV} {out : AOut} (h : p147 args = some out) : AC prog GI 147 args out := by
 unfold p147 at h
 split at h
 case h_2 => cases h
 split at h <;> cases h
 rename_i hc
 exact ac147 hG _ hc.1 hc.2
theorem p78_ok (hG : Stable GI) {args : List AV} {out : AOut} (h : p78 args = some out) : AC prog GI 78 args out := by
 unfold p78 at h
 split at h <;> cases h
 exact ac78
theorem p157_ok (hG : Stable GI) {args : List AV} {out : AOut} (h : p157 args = some out) : AC prog GI 157 args out := by
 unfold p157 at h
 split at h
 case h_2 => cases h
 split at h <;> cases h
 rename_i n hc
 have := ac157s (GI := GI) n.toNat (by omega)
 rwa [show ((n.toNat : Nat) : Int) = n by omega] at this
theorem p159_ok (hML : ∀ w, GI w → ∃ m, w.cell? ⟨1, 0, none⟩ = some (.int .i64 m)) {args : List AV} {out : AOut} (h : p159 args = some out) : AC prog GI 159 args out := by
 unfold p159 at h
 split at h
 case h_2 => cases h
 split at h <;> cases h
 rename_i hc
 exact ac159 hML _ _ hc
theorem p173_ok (hG : Stable GI) {args : List AV} {out : AOut} (h : p173 args = some out) : AC prog GI 173 args out := by
 unfold p173 at h
 split at h
 case h_2 => cases h
 split at h
 case h_2 => cases h
 rename_i hd
 split at h <;> cases h
 rename_i hc
 rw [dMap_eq dStr_eq hd]
 exact ac173 _ _ hc.1 hc.2
theorem p163_ok (hG : Stable GI) {args : List AV} {out : AOut} (h : p163 args = some out) : AC prog GI 163 args out := by
 unfold p163 at h
 split at h
 case h_2 => cases h
 split at h
 case h_2 => cases h
 rename_i hd
 split at h <;> cases h
 rename_i hc
 rw [dMap_eq dStr_eq hd]
 have hg : ∀ w, goodW w = true → (w ≠ [] ∧ w.length ≤ 3 ∧ ∀ c ∈ w, digit c) ∧ numV w < 100 ∧ decs 20 (numV w).toNat = w := by
  intro w hw
  simp only [goodW, Bool.and_eq_true, Bool.not_eq_true', List.isEmpty_eq_false_iff, decide_eq_true_eq, List.all_eq_true, beq_iff_eq] at hw
  exact ⟨⟨hw.1.1.1.1, hw.1.1.1.2, hw.1.1.2⟩, hw.1.2, hw.2⟩
 have hall := List.all_eq_true.1 hc.2
 refine ac163 hG hc.1 (fun w hw => (hg w (hall w hw)).1) fun w hw => ?_
 obtain ⟨⟨h1, h2, h3⟩, h4, h5⟩ := hg w (hall w hw)
 have hr := numV_range w h3 h2
 have := ac157s (GI := GI) (numV w).toNat (by omega)
 rwa [show (((numV w).toNat : Nat) : Int) = numV w by omega, h5] at this
theorem p110_ok (hG : Stable GI) {args : List AV} {out : AOut} (h : p110 args = some out) : AC prog GI 110 args out := by
 unfold p110 at h
 split at h
 case h_2 => cases h
 rename_i sA L
 split at h
 case h_2 => cases h
 rename_i es hs7
 split at h
 case h_2 => cases h
 rename_i ws hd
 split at h <;> cases h
 rename_i hc
 obtain ⟨h1, h2, h3, h4, h5, h6⟩ := hc
 rw [dMap_eq dWord_eq hd] at hs7
 have h4 := List.all_eq_true.1 h4
 have := ac110 (L := L.toNat) hG h1 hs7 (List.all_eq_true.1 h2) h3 (fun w hw => by have := h4 w hw; simpa using this) (by omega)
 rwa [show ((L.toNat : Nat) : Int) = L by omega] at this
theorem p111_ok (hG : Stable GI) {args : List AV} {out : AOut} (h : p111 args = some out) : AC prog GI 111 args out := by
 unfold p111 at h
 split at h
 case h_2 => cases h
 split at h
 case h_2 => cases h
 rename_i hd
 split at h <;> cases h
 rename_i hc
 rw [dWord_eq _ _ hd]
 exact ac111 hG hc
theorem p80_ok (hG : Stable GI) {args : List AV} {out : AOut} (h : p80 args = some out) : AC prog GI 80 args out := by
 unfold p80 at h
 split at h
 case h_2 => cases h
 split at h
 case h_2 => cases h
 rename_i es hs1
 split at h
 case h_2 => cases h
 rename_i ps hd
 split at h <;> cases h
 rename_i hc
 obtain ⟨h1, h2, h3, h4⟩ := hc
 rw [dMap_eq dPair_eq hd] at hs1
 have h2 := List.all_eq_true.1 h2
 exact ac80 hG h1 hs1 (fun x hx => by have := h2 x hx; simpa using this) h3 (distinct_get h4)
theorem prims0_sound (hG : Stable GI) (hML : ∀ w, GI w → ∃ m, w.cell? ⟨1, 0, none⟩ = some (.int .i64 m)) (f : Nat) (args : List AV) (out : AOut) (h : prims0 f args = some out) : AC prog GI f args out := by
 unfold prims0 at h
 rcases bsplit h with ⟨hf, h⟩ | ⟨_, h⟩
 ·have := Nat.eq_of_beq_eq_true hf; subst this
  exact p108_ok hG h
 rcases bsplit h with ⟨hf, h⟩ | ⟨_, h⟩
 ·have := Nat.eq_of_beq_eq_true hf; subst this
  exact p147_ok hG h
 rcases bsplit h with ⟨hf, h⟩ | ⟨_, h⟩
 ·have := Nat.eq_of_beq_eq_true hf; subst this
  exact p78_ok hG h
 rcases bsplit h with ⟨hf, h⟩ | ⟨_, h⟩
 ·have := Nat.eq_of_beq_eq_true hf; subst this
  exact p157_ok hG h
 rcases bsplit h with ⟨hf, h⟩ | ⟨_, h⟩
 ·have := Nat.eq_of_beq_eq_true hf; subst this
  exact p159_ok hML h
 rcases bsplit h with ⟨hf, h⟩ | ⟨_, h⟩
 ·have := Nat.eq_of_beq_eq_true hf; subst this
  exact p173_ok hG h
 rcases bsplit h with ⟨hf, h⟩ | ⟨_, h⟩
 ·have := Nat.eq_of_beq_eq_true hf; subst this
  exact p163_ok hG h
 rcases bsplit h with ⟨hf, h⟩ | ⟨_, h⟩
 ·have := Nat.eq_of_beq_eq_true hf; subst this
  exact p110_ok hG h
 rcases bsplit h with ⟨hf, h⟩ | ⟨_, h⟩
 ·have := Nat.eq_of_beq_eq_true hf; subst this
  exact p111_ok hG h
 rcases bsplit h with ⟨hf, h⟩ | ⟨_, h⟩
 ·have := Nat.eq_of_beq_eq_true hf; subst this
  exact p80_ok hG h
 cases h
end Go.Proofs.Tryz
