/-
  A part of the proof: Al32 Al33 Al34 Al35.
-/
import Derived.Test.YtjdgdinalodjfaaGreatDoorA2
set_option linter.all false
set_option linter.unusedVariables false
set_option linter.unusedSimpArgs false
set_option linter.deprecated false
namespace Go.AL
open Go.RowKit
inductive TT (α : Type) where
 | lf (v : α)
 | nd (a b c d : TT α)
namespace TT
variable {α : Type}
noncomputable def G (z : α) (k : Nat) : TT α → Nat → α :=
 Nat.rec (motive := fun _ => TT α → Nat → α) (fun t _ => match t with | .lf v => v | .nd .. => z)
  (fun _ ih t i => match t with
   | .lf v => v
   | .nd a b c d => bif Nat.beq (i % 4) 0 then ih a (i / 4) else bif Nat.beq (i % 4) 1 then ih b (i / 4) else bif Nat.beq (i % 4) 2 then ih c (i / 4) else ih d (i / 4)) k
noncomputable def P (k : Nat) : TT α → Nat → α → TT α :=
 Nat.rec (motive := fun _ => TT α → Nat → α → TT α) (fun _ _ v => .lf v)
  (fun _ ih t i v => match t with
   | .lf x => bif Nat.beq (i % 4) 0 then .nd (ih (.lf x) (i / 4) v) (.lf x) (.lf x) (.lf x) else bif Nat.beq (i % 4) 1 then .nd (.lf x) (ih (.lf x) (i / 4) v) (.lf x) (.lf x) else bif Nat.beq (i % 4) 2 then .nd (.lf x) (.lf x) (ih (.lf x) (i / 4) v) (.lf x) else .nd (.lf x) (.lf x) (.lf x) (ih (.lf x) (i / 4) v)
   | .nd a b c d => bif Nat.beq (i % 4) 0 then .nd (ih a (i / 4) v) b c d else bif Nat.beq (i % 4) 1 then .nd a (ih b (i / 4) v) c d else bif Nat.beq (i % 4) 2 then .nd a b (ih c (i / 4) v) d else .nd a b c (ih d (i / 4) v)) k
noncomputable def M (f : α → α) (k : Nat) : TT α → TT α :=
 Nat.rec (motive := fun _ => TT α → TT α) (fun t => match t with | .lf v => .lf (f v) | t => t)
  (fun _ ih t => match t with
   | .lf v => .lf (f v)
   | .nd a b c d => .nd (ih a) (ih b) (ih c) (ih d)) k
theorem G_lf (z x : α) : ∀ k i, G z k (.lf x) i = x
 | 0, _ => rfl
 | _ + 1, _ => rfl
theorem G_nd (z : α) (k : Nat) (a b c d : TT α) (i : Nat) : G z (k + 1) (.nd a b c d) i = bif Nat.beq (i % 4) 0 then G z k a (i / 4) else bif Nat.beq (i % 4) 1 then G z k b (i / 4) else bif Nat.beq (i % 4) 2 then G z k c (i / 4) else G z k d (i / 4) := rfl
theorem four (i : Nat) : i % 4 = 0 ∨ i % 4 = 1 ∨ i % 4 = 2 ∨ i % 4 = 3 := by omega
theorem G_P (z : α) : ∀ (k : Nat) (t : TT α) (i j : Nat) (v : α), i < 4 ^ k → j < 4 ^ k → G z k (P k t i v) j = if j = i then v else G z k t j
 | 0, t, i, j, v, hi, hj => by
  have : i = 0 := by simpa using hi
  have : j = 0 := by simpa using hj
  subst_vars; rfl
 | k + 1, t, i, j, v, hi, hj => by
  have hi4 : i / 4 < 4 ^ k := by rw [Nat.pow_succ] at hi; omega
  have hj4 : j / 4 < 4 ^ k := by rw [Nat.pow_succ] at hj; omega
  have ih := fun t => G_P z k t (i / 4) (j / 4) v hi4 hj4
  have hd : j = i ↔ (j % 4 = i % 4 ∧ j / 4 = i / 4) := ⟨fun h => by subst h; exact ⟨rfl, rfl⟩, fun ⟨h1, h2⟩ => by omega⟩
  cases t with
  | lf x =>
   show G z (k + 1) (bif Nat.beq (i % 4) 0 then .nd (P k (.lf x) (i / 4) v) (.lf x) (.lf x) (.lf x) else bif Nat.beq (i % 4) 1 then .nd (.lf x) (P k (.lf x) (i / 4) v) (.lf x) (.lf x) else bif Nat.beq (i % 4) 2 then .nd (.lf x) (.lf x) (P k (.lf x) (i / 4) v) (.lf x) else .nd (.lf x) (.lf x) (.lf x) (P k (.lf x) (i / 4) v)) j = _
   rw [G_lf]
   have ih := ih (.lf x)
   rw [G_lf] at ih
   rcases four i with h | h | h | h <;> rcases four j with h' | h' | h' | h' <;> simp [h, h', G_nd, hd, ih, G_lf, Nat.beq]
  | nd a b c d =>
   show G z (k + 1) (bif Nat.beq (i % 4) 0 then .nd (P k a (i / 4) v) b c d else bif Nat.beq (i % 4) 1 then .nd a (P k b (i / 4) v) c d else bif Nat.beq (i % 4) 2 then .nd a b (P k c (i / 4) v) d else .nd a b c (P k d (i / 4) v)) j = _
   rcases four i with h | h | h | h <;> rcases four j with h' | h' | h' | h' <;> simp [h, h', G_nd, hd, ih, Nat.beq]
theorem G_M (z : α) (f : α → α) (hz : f z = z) : ∀ (k : Nat) (t : TT α) (j : Nat), G z k (M f k t) j = f (G z k t j)
 | 0, t, j => by cases t <;> first | rfl | exact hz.symm
 | k + 1, t, j => by
  cases t with
  | lf x => rfl
  | nd a b c d =>
   show G z (k + 1) (.nd (M f k a) (M f k b) (M f k c) (M f k d)) j = _
   rcases four j with h | h | h | h <;> simp [h, G_nd, G_M z f hz k, Nat.beq]
end TT
abbrev TS := TT AV
abbrev TH := TT (Option (List AV))
noncomputable def gT (s : TS) : Slots := fun t => bif Nat.ble 256 t then undefA else s.G undefA 4 t
noncomputable def gU (h : TH) : Boxes := fun t => bif Nat.ble 256 t then none else h.G none 4 t
noncomputable def setT {α : Type} (s : TT α) (i : Nat) (v : α) : Option (TT α) := bif Nat.ble 256 i then none else some (s.P 4 i v)
theorem setT_get {α : Type} {s s' : TT α} {i : Nat} {v : α} (z : α) (h : setT s i v = some s') : (fun t => bif Nat.ble 256 t then z else s'.G z 4 t) = upd (fun t => bif Nat.ble 256 t then z else s.G z 4 t) i v := by
 unfold setT at h
 cases hb : Nat.ble 256 i with
 | true => rw [hb] at h; cases h
 | false =>
  rw [hb] at h
  cases h
  have hi : i < 256 := by
   have : ¬ 256 ≤ i := fun hh => by rw [Nat.ble_eq_true_of_le hh] at hb; cases hb
   omega
  funext t
  unfold upd
  cases ht : Nat.ble 256 t with
  | true =>
   have : 256 ≤ t := Nat.le_of_ble_eq_true ht
   rw [if_neg (by omega)]
   simp [ht]
  | false =>
   have : t < 256 := by
    have : ¬ 256 ≤ t := fun hh => by rw [Nat.ble_eq_true_of_le hh] at ht; cases ht
    omega
   simp only [ht, cond_false]
   exact TT.G_P z 4 s i t v hi this
theorem setS_get {s s' : TS} {i : Nat} {v : AV} (h : setT s i v = some s') : gT s' = upd (gT s) i v := setT_get undefA h
theorem setU_get {s s' : TH} {i : Nat} {v : Option (List AV)} (h : setT s i v = some s') : gU s' = upd (gU s) i v := setT_get none h
noncomputable def scrubT (d : Nat) (s : TS) : TS := s.M (scrub d) 4
theorem scrubT_get (d : Nat) (s : TS) : gT (scrubT d s) = fun t => scrub d (gT s t) := by
 funext t
 unfold gT scrubT
 cases Nat.ble 256 t with
 | true => rfl
 | false => exact TT.G_M undefA (scrub d) rfl 4 s t
noncomputable def putT (s : TS) : Option Nat → AV → Option TS
 | some d, v => setT s d v
 | none, _ => some s
theorem putT_get {s s' : TS} {d : Option Nat} {v : AV} (h : putT s d v = some s') : gT s' = putD (gT s) d v := by
 cases d with
 | none => cases h; rfl
 | some d => exact setS_get h
noncomputable def effT (e : Eff) (dst : Option Nat) (s : TS) (h : TH) : Option (TS × TH) :=
 match (match e.dm with | some t => setT s t (gT s t).dem | none => some s) with
 | none => none
 | some s1 => match putT s1 dst e.v with
  | none => none
  | some s2 => match e.hw with
   | some (i, cs) => match setT h i (some cs) with
    | some h' => some (s2, h')
    | none => none
   | none => some (s2, h)
theorem effT_get {e : Eff} {dst : Option Nat} {s s' : TS} {h h' : TH} (hh : effT e dst s h = some (s', h')) : gT s' = e.S (gT s) dst ∧ gU h' = e.H (gU h) := by
 unfold effT at hh
 split at hh
 ·cases hh
 rename_i s1 h1
 have e1 : gT s1 = (match e.dm with | some t => upd (gT s) t (gT s t).dem | none => gT s) := by
  cases hd : e.dm with
  | none => rw [hd] at h1; cases h1; rfl
  | some t => rw [hd] at h1; exact setS_get h1
 split at hh
 ·cases hh
 rename_i s2 h2
 have e2 := putT_get h2
 unfold Eff.S Eff.H
 rw [e1] at e2
 split at hh
 ·rename_i i cs hw
  split at hh <;> cases hh
  rename_i h3
  exact ⟨e2, by rw [hw]; exact setU_get h3⟩
 ·rename_i hw
  cases hh
  exact ⟨e2, by rw [hw]⟩
inductive ResT where
 | go (s : TS) (h : TH) | panic (v : AV)
noncomputable def ResT.on (K : Slots → Boxes → Prop) (Qp : AV → Prop) : ResT → Prop
 | .go s h => K (gT s) (gU h)
 | .panic v => Qp v
noncomputable def outT (dst : Option Nat) (s : TS) (h : TH) : AOut → Option ResT
 | .ret v => (putT s dst v).map fun s' => .go s' h
 | .panic v => some (.panic v)
noncomputable def stepT (P : Program) (call : CallF) (op : AOp) (dst : Option Nat) (s : TS) (h : TH) : Option ResT :=
 match op with
 | .alloc _ zero => match dst with
  | some d => match setT (scrubT d s) d (.box d 0), setT h d (some zero) with
   | some s', some h' => some (.go s' h')
   | _, _ => none
  | none => none
 | .box _ size x => match dst with
  | some d => if (ev (gT s) x).cells.length = size ∧ (ev (gT s) x).storable = true then
    match setT (scrubT d s) d (.box d 0), setT h d (some ((ev (gT s) x).cells.map AV.dem)) with
    | some s', some h' => some (.go s' h')
    | _, _ => none
   else none
  | none => none
 | .call f args => match callL P call f (args.map fun y => fz (gU h) (ev (gT s) y)) (args.any fun y => boxy (ev (gT s) y)) with
  | some out => outT dst s h out
  | none => none
 | .callv f args => match ev (gT s) f with
  | .func (.func k) first cap => match callL P call k ((first ++ args.map (ev (gT s)) ++ cap).map (fz (gU h))) ((first ++ args.map (ev (gT s)) ++ cap).any boxy) with
   | some out => outT dst s h out
   | none => none
  | _ => none
 | .panic x => match ev (gT s) x with
  | .iface t v => some (.panic (.iface t v))
  | _ => none
 | op => match apure (gT s) (gU h) op with
  | some e => (effT e dst s h).map fun (s', h') => .go s' h'
  | none => none
noncomputable def opsT (P : Program) (call : CallF) : List AOpr → TS → TH → Option ResT
 | [], s, h => some (.go s h)
 | o :: rest, s, h => match awanted (gT s) o.guard with
  | some true => match stepT P call o.op o.dst s h with
   | some (.go s' h') => opsT P call rest s' h'
   | r => r
  | some false => match putT s o.dst undefA with
   | some s' => opsT P call rest s' h
   | none => none
  | none => none
noncomputable def prolT : List AOpr → TS → TH → Option (TS × TH)
 | [], s, h => some (s, h)
 | o :: l, s, h => match allocOf o with
  | some (d, z) => match setT (scrubT d s) d (.box d 0), setT h d (some z) with
   | some s', some h' => prolT l s' h'
   | _, _ => none
  | none => prolT l s h
noncomputable def dstepT (P : Program) (call : CallF) (op : AOp) (dst : Option Nat) (s : TS) (h : TH) : Option (TS × TH) :=
 match op with
 | .alloc _ _ => match dst with
  | some d => (setT s d (.box d 0)).map fun s' => (s', h)
  | none => none
 | .box .. | .panic _ | .other => none
 | .call f args => if (args.any fun y => boxy (ev (gT s) y)) then none else match stepT P call (.call f args) dst s h with
  | some (.go s' h') => some (s', h')
  | _ => none
 | .callv f args => if (match ev (gT s) f with | .func _ first cap => (first ++ args.map (ev (gT s)) ++ cap).any boxy | _ => true) then none else match stepT P call (.callv f args) dst s h with
  | some (.go s' h') => some (s', h')
  | _ => none
 | op => match stepT P call op dst s h with
  | some (.go s' h') => some (s', h')
  | _ => none
noncomputable def dopsT (P : Program) (call : CallF) : List AOpr → TS → TH → Option (TS × TH)
 | [], s, h => some (s, h)
 | o :: rest, s, h => match awanted (gT s) o.guard with
  | some true => match dstepT P call o.op o.dst s h with
   | some (s', h') => dopsT P call rest s' h'
   | none => none
  | some false => match putT s o.dst undefA with
   | some s' => dopsT P call rest s' h
   | none => none
  | none => none
noncomputable def loopT (body : TS → TH → Option (AExit × TS × TH)) : Nat → TS → TH → Option (AExit × TS × TH)
 | 0, _, _ => none
 | k + 1, s, h => match body s h with
  | some (.normal, s', h') => loopT body k s' h'
  | r => r
noncomputable def codeT (P : Program) (call : CallF) (m : Nat) : ACode → TS → TH → Option (AExit × TS × TH)
 | .skip, s, h => some (.normal, s, h)
 | .ops l, s, h => match opsT P call l s h with
  | some (.go s' h') => some (.normal, s', h')
  | some (.panic v) => some (.panic v, s, h)
  | none => none
 | .dops l, s, h => match prolT l s h with
  | some (s1, h1) => match dopsT P call l s1 h1 with
   | some (s', h') => some (.normal, s', h')
   | none => none
  | none => none
 | .seq x y, s, h => match codeT P call m x s h with
  | some (.normal, s', h') => codeT P call m y s' h'
  | r => r
 | .cond c x y, s, h => match ev (gT s) c with
  | .bool true => codeT P call m x s h
  | .bool false => codeT P call m y s h
  | _ => none
 | .block id c, s, h => match codeT P call m c s h with
  | some (.exit j, s', h') => if j = id then some (.normal, s', h') else some (.exit j, s', h')
  | r => r
 | .loop c, s, h => loopT (codeT P call m c) m s h
 | .exit id, s, h => some (.exit id, s, h)
 | .ret, s, h => some (.ret, s, h)
 | .bad, _, _ => none
section
variable {P : Program} {GI : World → Prop} {call : CallF} (hcall : ∀ f args out, call f args = some out → AC P GI f args out)
include hcall
omit hcall in
theorem outT_on {dst : Option Nat} {s : TS} {h : TH} {out : AOut} {r : ResT} (hr : outT dst s h out = some r) {K : Slots → Boxes → Prop} {Qp : AV → Prop}
  (hk : r.on K Qp) : onOut out (fun v => K (putD (gT s) dst v) (gU h)) Qp := by
 cases out with
 | ret v =>
  simp only [outT, Option.map_eq_some_iff] at hr
  obtain ⟨s', h1, rfl⟩ := hr
  show K _ _
  rw [← putT_get h1]; exact hk
 | panic v => cases hr; exact hk
theorem stepT_sound {op : AOp} {dst : Option Nat} {s : TS} {h : TH} {r : ResT} (hr : stepT P call op dst s h = some r) {K : Slots → Boxes → Prop} {Qp : AV → Prop}
  (hk : r.on K Qp) : astep P GI op dst K Qp (gT s) (gU h) := by
 cases op
 case alloc t z =>
  cases dst with
  | none => cases hr
  | some d =>
   simp only [stepT] at hr
   split at hr <;> cases hr
   rename_i h1 h2
   simp only [astep]
   rw [← scrubT_get, ← setS_get h1, ← setU_get h2]; exact hk
 case box t size x =>
  cases dst with
  | none => cases hr
  | some d =>
   simp only [stepT] at hr
   split at hr
   case isFalse => cases hr
   rename_i hc
   split at hr <;> cases hr
   rename_i h1 h2
   simp only [astep]
   rw [← scrubT_get, ← setS_get h1, ← setU_get h2]; exact ⟨hc.1, hc.2, hk⟩
 case call f args =>
  simp only [stepT] at hr
  split at hr
  case h_2 => cases hr
  rename_i out ho
  exact callL_acall hcall ho (outT_on hr hk)
 case callv f args =>
  simp only [stepT] at hr
  simp only [astep]
  split at hr
  case h_2 => cases hr
  rename_i k first cap hf
  rw [hf]
  split at hr
  case h_2 => cases hr
  rename_i out ho
  exact callL_acall hcall ho (outT_on hr hk)
 case panic x =>
  simp only [stepT] at hr
  split at hr
  case h_2 => cases hr
  rename_i t v hx
  cases hr
  simp only [astep, hx]; exact hk
 case other => cases hr
 all_goals
  simp only [stepT] at hr
  simp only [astep]
  split at hr
  case h_2 => cases hr
  rename_i e he
  simp only [Option.map_eq_some_iff, Prod.exists] at hr
  obtain ⟨s', h', h1, rfl⟩ := hr
  rw [he]
  obtain ⟨e1, e2⟩ := effT_get h1
  simp only
  rw [← e1, ← e2]; exact hk
theorem opsT_sound : ∀ {l : List AOpr} {s : TS} {h : TH} {r : ResT}, opsT P call l s h = some r → ∀ {K : Slots → Boxes → Prop} {Qp : AV → Prop},
  r.on K Qp → aops P GI l K Qp (gT s) (gU h)
 | [], s, h, r, hr, K, Qp, hk => by cases hr; exact hk
 | o :: l, s, h, r, hr, K, Qp, hk => by
  simp only [opsT] at hr
  simp only [aops]
  split at hr
  ·rename_i hw
   rw [hw]
   simp only
   split at hr
   ·rename_i s' h' hs
    exact stepT_sound hcall hs (r := .go s' h') (opsT_sound hr hk)
   ·rename_i hne
    cases r with
    | go s' h' => exact absurd hr (hne s' h')
    | panic v => exact stepT_sound hcall hr hk
  ·rename_i hw
   rw [hw]
   simp only
   split at hr
   case h_2 => cases hr
   rename_i s' hs
   rw [← putT_get hs]
   exact opsT_sound hr hk
  ·cases hr
omit hcall in
theorem prolT_get : ∀ {l : List AOpr} {s s' : TS} {h h' : TH}, prolT l s h = some (s', h') → gT s' = prol l (gT s) ∧ gU h' = prolH l (gU h)
 | [], s, s', h, h', hh => by cases hh; exact ⟨rfl, rfl⟩
 | o :: l, s, s', h, h', hh => by
  simp only [prolT] at hh
  simp only [prol, prolH]
  split at hh
  ·rename_i d z ha
   try rw [ha]
   try simp only
   split at hh
   case h_2 => cases hh
   rename_i s1 h1 e1 e2
   rw [← scrubT_get, ← setS_get e1, ← setU_get e2]
   exact prolT_get hh
  ·rename_i ha
   try rw [ha]
   exact prolT_get hh
theorem dstepT_sound {op : AOp} {dst : Option Nat} {s s' : TS} {h h' : TH} (hr : dstepT P call op dst s h = some (s', h')) {K : Slots → Boxes → Prop} (hk : K (gT s') (gU h')) : dstep P GI op dst K (gT s) (gU h) := by
 cases op
 case alloc t z =>
  simp only [dstepT] at hr
  split at hr
  case h_2 => cases hr
  simp only [Option.map_eq_some_iff] at hr
  obtain ⟨s1, h1, h2⟩ := hr
  cases h2
  simp only [dstep]
  rw [← setS_get h1]; exact hk
 case box => cases hr
 case panic => cases hr
 case other => cases hr
 case call f args =>
  simp only [dstepT] at hr
  split at hr
  case isTrue => cases hr
  rename_i hb
  split at hr
  case h_2 => cases hr
  rename_i s1 h1 hs
  cases hr
  exact ⟨by simpa using hb, stepT_sound hcall hs (r := .go s' h') hk⟩
 case callv f args =>
  unfold dstepT at hr
  simp only at hr
  by_cases hb : (match ev (gT s) f with | .func _ first cap => (first ++ args.map (ev (gT s)) ++ cap).any boxy | _ => true) = true
  ·rw [if_pos hb] at hr; cases hr
  ·rw [if_neg hb] at hr
   split at hr
   case h_2 => cases hr
   rename_i s1 h1 hs
   cases hr
   refine ⟨?_, stepT_sound hcall hs (r := .go s' h') hk⟩
   generalize ev (gT s) f = q at hb
   cases q <;> first | exact absurd trivial hb | exact absurd rfl hb | (exact Bool.eq_false_iff.2 hb)
 all_goals
  simp only [dstepT] at hr
  split at hr
  case h_2 => cases hr
  rename_i s1 h1 hs
  cases hr
  exact stepT_sound hcall hs (r := .go s' h') (Qp := fun _ => False) hk
theorem dopsT_sound : ∀ {l : List AOpr} {s s' : TS} {h h' : TH}, dopsT P call l s h = some (s', h') → ∀ {K : Slots → Boxes → Prop}, K (gT s') (gU h') → dops P GI l K (gT s) (gU h)
 | [], s, s', h, h', hr, K, hk => by cases hr; exact hk
 | o :: l, s, s', h, h', hr, K, hk => by
  simp only [dopsT] at hr
  simp only [dops]
  split at hr
  ·rename_i hw
   rw [hw]
   simp only
   split at hr
   case h_2 => cases hr
   rename_i s1 h1 hs
   exact dstepT_sound hcall hs (dopsT_sound hr hk)
  ·rename_i hw
   rw [hw]
   simp only
   split at hr
   case h_2 => cases hr
   rename_i s1 hs
   rw [← putT_get hs]
   exact dopsT_sound hr hk
  ·cases hr
theorem codeT_sound {m : Nat} : ∀ {c : ACode} {s s' : TS} {h h' : TH} {e : AExit}, codeT P call m c s h = some (e, s', h') → ∀ {Q : AExit → Slots → Boxes → Prop}, Q e (gT s') (gU h') → awp P GI c Q (gT s) (gU h)
 | .skip, s, s', h, h', e, hr, Q, hq => by cases hr; exact hq
 | .ops l, s, s', h, h', e, hr, Q, hq => by
  simp only [codeT] at hr
  simp only [awp]
  split at hr <;> cases hr
  ·rename_i hs; exact opsT_sound hcall hs (r := .go s' h') hq
  ·rename_i v hs; exact opsT_sound hcall hs (r := .panic v) hq
 | .dops l, s, s', h, h', e, hr, Q, hq => by
  simp only [codeT] at hr
  simp only [awp]
  split at hr
  case h_2 => cases hr
  rename_i s1 h1 hp
  split at hr <;> cases hr
  rename_i hs
  obtain ⟨e1, e2⟩ := prolT_get hp
  rw [← e1, ← e2]
  exact dopsT_sound hcall hs hq
 | .seq x y, s, s', h, h', e, hr, Q, hq => by
  simp only [codeT] at hr
  simp only [awp]
  split at hr
  ·rename_i s1 h1 hx
   exact codeT_sound hx (show thenQ _ _ _ _ _ from codeT_sound hr hq)
  ·rename_i hne
   refine codeT_sound hr ?_
   cases e with
   | normal => exact absurd hr (hne _ _)
   | exit id => exact hq
   | ret => exact hq
   | panic v => exact hq
 | .cond c x y, s, s', h, h', e, hr, Q, hq => by
  simp only [codeT] at hr
  simp only [awp]
  split at hr
  ·rename_i hc; rw [hc]; exact codeT_sound hr hq
  ·rename_i hc; rw [hc]; exact codeT_sound hr hq
  ·cases hr
 | .block id c, s, s', h, h', e, hr, Q, hq => by
  simp only [codeT] at hr
  simp only [awp]
  split at hr
  ·rename_i j s1 h1 hx
   refine codeT_sound hx ?_
   simp only [blockQ]
   split at hr
   ·rename_i hj; cases hr; rw [if_pos hj]; exact hq
   ·rename_i hj; cases hr; rw [if_neg hj]; exact hq
  ·rename_i hne
   refine codeT_sound hr ?_
   cases e with
   | normal => exact hq
   | exit j => exact absurd hr (hne _ _ _)
   | ret => exact hq
   | panic v => exact hq
 | .loop c, s, s', h, h', e, hr, Q, hq => by
  simp only [codeT] at hr
  simp only [awp]
  let p : Slots → Boxes → Nat → Prop := fun S H k => ∃ s h, gT s = S ∧ gU h = H ∧ loopT (codeT P call m c) k s h = some (e, s', h')
  refine ⟨fun S H => ∃ k, p S H k, fun S H => least (p S H), ⟨m, s, h, rfl, rfl, hr⟩, ?_⟩
  intro S H hI
  obtain ⟨⟨s1, h1, rfl, rfl, hl⟩, _⟩ := least_spec hI
  generalize hk : least (p (gT s1) (gU h1)) = k at hl
  cases k with
  | zero => cases hl
  | succ k =>
   simp only [loopT] at hl
   split at hl
   ·rename_i s2 h2 hb
    refine codeT_sound hb ?_
    have hp : p (gT s2) (gU h2) k := ⟨s2, h2, rfl, rfl, hl⟩
    refine ⟨⟨k, hp⟩, ?_⟩
    have := (least_spec ⟨k, hp⟩).2 k hp
    show least (p (gT s2) (gU h2)) < least (p (gT s1) (gU h1))
    omega
   ·rename_i hne
    refine codeT_sound hl ?_
    cases e with
    | normal => exact absurd hl (hne _ _)
    | exit id => exact hq
    | ret => exact hq
    | panic v => exact hq
 | .exit id, s, s', h, h', e, hr, Q, hq => by cases hr; exact hq
 | .ret, s, s', h, h', e, hr, Q, hq => by cases hr; exact hq
 | .bad, s, s', h, h', e, hr, Q, hq => by cases hr
end
noncomputable def startF : TS → Nat → List AV → TS
 | s, _, [] => s
 | s, i, v :: vs => startF (s.P 4 i v.dem) (i + 1) vs
theorem startF_get : ∀ (args : List AV) (s : TS) (i : Nat), i + args.length ≤ 256 → gT (startF s i args) = fun t => if t < i then gT s t else if t < i + args.length then (args.getD (t - i) undefA).dem else gT s t
 | [], s, i, _ => by
  funext t
  simp only [startF, List.length_nil, Nat.add_zero]
  split
  ·rfl
  ·rfl
 | v :: vs, s, i, hl => by
  simp only [List.length_cons] at hl
  rw [startF, startF_get vs _ (i + 1) (by omega)]
  have hs : setT s i v.dem = some (s.P 4 i v.dem) := by
   unfold setT
   have : Nat.ble 256 i = false := by
    cases h : Nat.ble 256 i with
    | false => rfl
    | true => have := Nat.le_of_ble_eq_true h; omega
   rw [this]; rfl
  rw [setS_get hs]
  funext t
  by_cases h1 : t < i
  ·rw [if_pos (by omega), if_pos h1, upd_ne _ _ (by omega)]
  ·by_cases h2 : t = i
   ·subst h2
    rw [if_pos (by omega), if_neg (by omega), if_pos (by simp), upd_same]
    simp
   ·rw [if_neg (by omega), if_neg h1]
    by_cases h3 : t < i + 1 + vs.length
    ·rw [if_pos h3, if_pos (by simp; omega)]
     have : t - i = (t - (i + 1)) + 1 := by omega
     rw [this]; rfl
    ·rw [if_neg h3, if_neg (by simp; omega), upd_ne _ _ h2]
noncomputable def startT (args : List AV) : TS := startF (.lf undefA) 0 args
theorem startT_get (args : List AV) (h : args.length ≤ 256) : gT (startT args) = start args := by
 unfold startT
 rw [startF_get args _ 0 (by omega)]
 funext t
 simp only [Nat.not_lt_zero, if_false, Nat.zero_add, start]
 by_cases ht : t < args.length
 ·simp [ht]
 ·have : args[t]? = none := List.getElem?_eq_none (by omega)
  simp only [ht, if_false]
  unfold gT
  cases Nat.ble 256 t <;> simp [TT.G_lf, this, undefA, AV.dem, ht]
theorem gU_none : gU (.lf none) = fun _ => none := by
 funext t
 unfold gU
 cases Nat.ble 256 t <;> rfl
noncomputable def bodyT (P : Program) (call : CallF) (m : Nat) (fn : FnL) (args : List AV) : Option AOut :=
 bif Nat.ble args.length fn.n && Nat.ble args.length 256 then
  match codeT P call m fn.code (startT args) (.lf none) with
  | some (.normal, s, h) | some (.ret, s, h) => (ares P fn.n fn.res (gT s) (gU h)).map .ret
  | some (.panic v, _, _) => some (.panic v)
  | _ => none
 else none
noncomputable def runT (P : Program) (prims : CallF) (tbl : Nat → Option FnL) (m : Nat) (d : Nat) : CallF :=
 Nat.rec (motive := fun _ => CallF) (fun _ _ => none) (fun _ ih f args => match tbl f with
  | some fn => bodyT P ih m fn args
  | none => prims f args) d
theorem runT_sound {P : Program} {GI : World → Prop} (hG : Stable GI) (hm : P.follows .mixedOrders = true) {prims : CallF} {tbl : Nat → Option FnL} {m : Nat} (hp : ∀ f args out, prims f args = some out → AC P GI f args out) (ht : TblOK P tbl) :
  ∀ (d : Nat) (f : Nat) (args : List AV) (out : AOut), runT P prims tbl m d f args = some out → AC P GI f args out
 | 0, _, _, _, h => by cases h
 | d + 1, f, args, out, h => by
  have h : (match tbl f with | some fn => bodyT P (runT P prims tbl m d) m fn args | none => prims f args) = some out := h
  split at h
  case h_2 => exact hp _ _ _ h
  rename_i fn hf
  obtain ⟨F, c, h1, h2, h3, h4, h5⟩ := ht f fn hf
  unfold bodyT at h
  cases hb : (Nat.ble args.length fn.n && Nat.ble args.length 256) with
  | false => rw [hb] at h; cases h
  | true =>
  rw [hb] at h
  simp only [cond_true] at h
  rw [Bool.and_eq_true] at hb
  have hl := Nat.le_of_ble_eq_true hb.1
  have hl2 := Nat.le_of_ble_eq_true hb.2
  have hs := fun (e : AExit) (s : TS) (hh : TH) => @codeT_sound P GI (runT P prims tbl m d) (fun f args out => runT_sound hG hm hp ht d f args out) m fn.code (startT args) s (.lf none) hh e
  simp only [startT_get args hl2, gU_none] at hs
  refine AC.of_body hG hm h1 h2 h3 hl h5 ?_
  rw [h4]
  split at h
  ·rename_i s hh hc
   simp only [Option.map_eq_some_iff] at h
   obtain ⟨v, hv, rfl⟩ := h
   exact hs _ _ _ hc ⟨v, hv, rfl⟩
  ·rename_i s hh hc
   simp only [Option.map_eq_some_iff] at h
   obtain ⟨v, hv, rfl⟩ := h
   exact hs _ _ _ hc ⟨v, hv, rfl⟩
  ·rename_i v s hh hc
   cases h
   exact hs _ _ _ hc rfl
  ·cases h
end Go.AL
namespace Go.AL
open Go.RowKit
def apureC : AOp → Slots → Boxes → Option Eff
 | .mv take x => fun S H => if take then some { v := ev S x, dm := tmpOf x } else some { v := (ev S x).dem }
 | .pick c a b => fun S H => match ev S c with
  | .bool t => some { v := (if t then ev S a else ev S b).dem }
  | _ => none
 | .build zero parts => fun S H => (fillA zero (parts.map fun (o, s, x) => (o, s, ev S x))).map fun cs => { v := .agg cs }
 | .buildSlice _ e size parts => fun S H =>
  if elemsOK size (parts.map (ev S)) && parts.length * size ≤ 16777216 then some { v := .slice (.own e) ((parts.map (ev S)).map AV.vw) } else none
 | .load hr agg size x => fun S H => match ev S x with
  | .box i off => if hr.okB i then match H i with
   | some cs => (loadA agg size (cs.drop off)).map fun v => { v := v }
   | none => none
   else none
  | .ref cs => (loadA agg size cs).map fun v => { v := v }
  | _ => none
 | .loadT hr x => fun S H => match ev S x with
  | .box i off => if hr.okB i then match H i with
   | some cs => match cs[off]? with
    | some v => some { v := v, hw := some (i, cs.set off v.dem) }
    | none => none
   | none => none
   else none
  | _ => none
 | .store hr size x y => fun S H => match ev S x with
  | .box i off => if hr.okB i then match H i with
   | some cs => if (ev S y).cells.length = size ∧ off + size ≤ cs.length ∧ (ev S y).storable = true then
     some { v := undefA, dm := tmpOf y, hw := some (i, splice cs off (ev S y).scells) } else none
   | none => none
   else none
  | _ => none
 | .bin op x y => fun S H => (abin op (ev S x) (ev S y)).map fun v => { v := v }
 | .eqB neg x y => fun S H => match ev S x, ev S y with
  | .bool a, .bool b => some { v := .bool (if neg then a != b else a == b) }
  | _, _ => none
 | .eqs neg k x y => fun S H => match ev S x, ev S y with
  | .agg xs, .agg ys => match intsOf xs, intsOf ys with
   | some a, some b => if a.length = k ∧ b.length = k then some { v := .bool (if neg then a != b else a == b) } else none
   | _, _ => none
  | _, _ => none
 | .indexA ag len size x i => fun S H => match ev S x, ev S i with
  | .agg cs, .int .i64 k => if 0 ≤ k ∧ k < len then (loadA ag size (cs.drop (k.toNat * size))).map fun v => { v := v } else none
  | _, _ => none
 | .buildF xs => fun S H => if (xs.map (ev S)).all isFn then some { v := .fagg (xs.map (ev S)) } else none
 | .indexF len x i => fun S H => match ev S x, ev S i with
  | .fagg fs, .int .i64 k => if 0 ≤ k ∧ k < len then match fs[k.toNat]? with
    | some v => if isFn v then some { v := v } else none
    | none => none
   else none
  | _, _ => none
 | .bstr x => fun S H => match ev S x with
  | .slice _ es => (bytesOf es).map fun l => { v := .str l }
  | _ => none
 | .lookup k z x i => fun S H => match ev S x, ev S i with
  | .map ks vs, .agg c => match intsOf c with
   | some key => if key.length = k then match lookA key ks vs with
     | some (some v) => some { v := .tup [v.dem, .bool true] }
     | some none => some { v := .tup [z, .bool false] }
     | none => none
    else none
   | none => none
  | _, _ => none
 | .not x => fun S H => match ev S x with
  | .bool b => some { v := .bool !b }
  | _ => none
 | .conv k x => fun S H => match ev S x with
  | .int _ n => some { v := .int k (k.wrap n) }
  | _ => none
 | .iface t x => fun S H => if (ev S x).storable then some { v := .iface t (ev S x).vw } else none
 | .mkf fn first cap => fun S H => some { v := .func fn (first.map fun x => (ev S x).dem) (cap.map fun x => (ev S x).dem) }
 | .sliceS x lo hi => fun S H => match ev S x with
  | .str l => match bound (lo.map (ev S)) 0, bound (hi.map (ev S)) l.length with
   | some a, some b => if 0 ≤ a ∧ a ≤ b ∧ b ≤ l.length then some { v := .str ((l.take b.toNat).drop a.toNat) } else none
   | _, _ => none
  | _ => none
 | .sliceR len x => fun S H => match ev S x with
  | .ref cs => if cs.length = len then some { v := .slice .view cs } else none
  | _ => none
 | .sliceL size x lo hi => fun S H => match ev S x with
  | .slice _ es => match bound (lo.map (ev S)) 0, bound (hi.map (ev S)) es.length with
   | some a, some b => if 0 ≤ a ∧ a ≤ b ∧ b ≤ es.length ∧ elemsOK size es = true then some { v := .slice .view ((es.take b.toNat).drop a.toNat) } else none
   | _, _ => none
  | _ => none
 | .fieldAddr off x => fun S H => match ev S x with
  | .box i o => some { v := .box i (o + off) }
  | .ref cs => some { v := .ref (cs.drop off) }
  | _ => none
 | .indexAddr size x i => fun S H => match ev S x, ev S i with
  | .slice _ es, .int .i64 k => if 0 ≤ k then match es[k.toNat]? with
    | some v => if v.cells.length = size then some { v := .ref v.cells } else none
    | none => none
   else none
  | _, _ => none
 | .indexS x i => fun S H => match ev S x, ev S i with
  | .str l, .int .i64 k => if 0 ≤ k then match l[k.toNat]? with
    | some b => some { v := .int .u8 b.toNat }
    | none => none
   else none
  | _, _ => none
 | .extract x i => fun S H => match ev S x with
  | .tup vs => (vs[i]?).map fun v => { v := v.dem }
  | _ => none
 | .lenS x => fun S H => match ev S x with
  | .str l => some { v := .int .i64 l.length }
  | _ => none
 | .lenL x => fun S H => match ev S x with
  | .slice _ es => some { v := .int .i64 es.length }
  | _ => none
 | .isNil neg x => fun S H => match ev S x with
  | .slice _ es => some { v := if es.isEmpty then .anyb else .bool neg }
  | _ => none
 | .empty _ => fun S H => some { v := .slice .nil [] }
 | .append _ e size _ x y => fun S H => match ev S x, ev S y with
  | .slice .nil [], .slice _ ys => if elemsOK size ys && ys.length < 1048576 then some { v := .slice (if ys.isEmpty then .nil else .own e) ys } else none
  | .slice (.own e') xs, .slice _ ys => if e' = e ∧ (elemsOK size ys && elemsOK size xs && (xs.length + ys.length < 1048576)) = true then some { v := .slice (.own e) (xs ++ ys), dm := tmpOf x } else none
  | _, _ => none
 | .max x y => fun S H => match ev S x, ev S y with
  | .int .i64 a, .int .i64 b => some { v := .int .i64 (max a b) }
  | _, _ => none
 | .min x y => fun S H => match ev S x, ev S y with
  | .int .i64 a, .int .i64 b => some { v := .int .i64 (min a b) }
  | _, _ => none
 | .assert t zero x => fun S H => match ev S x with
  | .iface t' v => some { v := if t' = t then .tup [v, .bool true] else .tup [zero, .bool false] }
  | .nili => some { v := .tup [zero, .bool false] }
  | _ => none
 | _ => fun S H => none
theorem apureC_eq (S : Slots) (H : Boxes) (op : AOp) : apureC op S H = apure S H op := by
 cases op <;> rfl
noncomputable def stepC : AOp → (P : Program) → (call : CallF) → (dst : Option Nat) → (s : TS) → (h : TH) → Option ResT
 | .alloc _ zero => fun _ _ dst s h => match dst with
  | some d => match setT (scrubT d s) d (.box d 0), setT h d (some zero) with
   | some s', some h' => some (.go s' h')
   | _, _ => none
  | none => none
 | .box _ size x => fun _ _ dst s h => match dst with
  | some d => if (ev (gT s) x).cells.length = size ∧ (ev (gT s) x).storable = true then
    match setT (scrubT d s) d (.box d 0), setT h d (some ((ev (gT s) x).cells.map AV.dem)) with
    | some s', some h' => some (.go s' h')
    | _, _ => none
   else none
  | none => none
 | .call f args => fun P call dst s h => match callL P call f (args.map fun y => fz (gU h) (ev (gT s) y)) (args.any fun y => boxy (ev (gT s) y)) with
  | some out => outT dst s h out
  | none => none
 | .callv f args => fun P call dst s h => match ev (gT s) f with
  | .func (.func k) first cap => match callL P call k ((first ++ args.map (ev (gT s)) ++ cap).map (fz (gU h))) ((first ++ args.map (ev (gT s)) ++ cap).any boxy) with
   | some out => outT dst s h out
   | none => none
  | _ => none
 | .panic x => fun _ _ _ s _ => match ev (gT s) x with
  | .iface t v => some (.panic (.iface t v))
  | _ => none
 | op => fun _ _ dst s h => match apureC op (gT s) (gU h) with
  | some e => (effT e dst s h).map fun (s', h') => .go s' h'
  | none => none
theorem stepC_eq (op : AOp) (P : Program) (call : CallF) (dst : Option Nat) (s : TS) (h : TH) : stepC op P call dst s h = stepT P call op dst s h := by
 cases op <;> first | rfl | (simp only [stepC, stepT, apureC_eq])
noncomputable def opsF (P : Program) (call : CallF) (l : List AOpr) : TS → TH → Option ResT :=
 List.rec (motive := fun _ => TS → TH → Option ResT) (fun s h => some (.go s h)) (fun o _ ih s h => match awanted (gT s) o.guard with
  | some true => match stepC o.op P call o.dst s h with
   | some (.go s' h') => ih s' h'
   | r => r
  | some false => match putT s o.dst undefA with
   | some s' => ih s' h
   | none => none
  | none => none) l
theorem opsF_eq (P : Program) (call : CallF) : ∀ (l : List AOpr) (s : TS) (h : TH), opsF P call l s h = opsT P call l s h
 | [], _, _ => rfl
 | o :: l, s, h => by
  have e : opsF P call (o :: l) s h = (match awanted (gT s) o.guard with
   | some true => match stepC o.op P call o.dst s h with
    | some (.go s' h') => opsF P call l s' h'
    | r => r
   | some false => match putT s o.dst undefA with
    | some s' => opsF P call l s' h
    | none => none
   | none => none) := rfl
  rw [e]
  simp only [opsT, stepC_eq, opsF_eq P call l]
  try rfl
noncomputable def dstepC : AOp → (P : Program) → (call : CallF) → (dst : Option Nat) → (s : TS) → (h : TH) → Option (TS × TH)
 | .alloc _ _ => fun _ _ dst s h => match dst with
  | some d => (setT s d (.box d 0)).map fun s' => (s', h)
  | none => none
 | .box .. | .panic _ | .other => fun _ _ _ _ _ => none
 | .call f args => fun P call dst s h => if (args.any fun y => boxy (ev (gT s) y)) then none else match stepC (.call f args) P call dst s h with
  | some (.go s' h') => some (s', h')
  | _ => none
 | .callv f args => fun P call dst s h => if (match ev (gT s) f with | .func _ first cap => (first ++ args.map (ev (gT s)) ++ cap).any boxy | _ => true) then none else match stepC (.callv f args) P call dst s h with
  | some (.go s' h') => some (s', h')
  | _ => none
 | op => fun P call dst s h => match stepC op P call dst s h with
  | some (.go s' h') => some (s', h')
  | _ => none
theorem dstepC_eq (op : AOp) (P : Program) (call : CallF) (dst : Option Nat) (s : TS) (h : TH) : dstepC op P call dst s h = dstepT P call op dst s h := by
 cases op <;> first | rfl | (simp only [dstepC, dstepT, stepC_eq])
noncomputable def dopsF (P : Program) (call : CallF) (l : List AOpr) : TS → TH → Option (TS × TH) :=
 List.rec (motive := fun _ => TS → TH → Option (TS × TH)) (fun s h => some (s, h)) (fun o _ ih s h => match awanted (gT s) o.guard with
  | some true => match dstepC o.op P call o.dst s h with
   | some (s', h') => ih s' h'
   | none => none
  | some false => match putT s o.dst undefA with
   | some s' => ih s' h
   | none => none
  | none => none) l
theorem dopsF_eq (P : Program) (call : CallF) : ∀ (l : List AOpr) (s : TS) (h : TH), dopsF P call l s h = dopsT P call l s h
 | [], _, _ => rfl
 | o :: l, s, h => by
  have e : dopsF P call (o :: l) s h = (match awanted (gT s) o.guard with
   | some true => match dstepC o.op P call o.dst s h with
    | some (s', h') => dopsF P call l s' h'
    | none => none
   | some false => match putT s o.dst undefA with
    | some s' => dopsF P call l s' h
    | none => none
   | none => none) := rfl
  rw [e]
  simp only [dopsT, dstepC_eq, dopsF_eq P call l]
  try rfl
abbrev CodeR := TS → TH → Option (AExit × TS × TH)
noncomputable def loopF (body : CodeR) (k : Nat) : CodeR :=
 Nat.rec (motive := fun _ => CodeR) (fun _ _ => none) (fun _ ih s h => match body s h with
  | some (.normal, s', h') => ih s' h'
  | r => r) k
theorem loopF_eq (body : CodeR) : ∀ (k : Nat) (s : TS) (h : TH), loopF body k s h = loopT body k s h
 | 0, _, _ => rfl
 | k + 1, s, h => by
  have e : loopF body (k + 1) s h = (match body s h with
   | some (.normal, s', h') => loopF body k s' h'
   | r => r) := rfl
  rw [e]
  simp only [loopT, loopF_eq body k]
  try rfl
noncomputable def codeF (P : Program) (call : CallF) (m : Nat) (c : ACode) : CodeR :=
 ACode.rec (motive := fun _ => CodeR) (fun s h => some (.normal, s, h))
  (fun l s h => match opsF P call l s h with
   | some (.go s' h') => some (.normal, s', h')
   | some (.panic v) => some (.panic v, s, h)
   | none => none)
  (fun l s h => match prolT l s h with
   | some (s1, h1) => match dopsF P call l s1 h1 with
    | some (s', h') => some (.normal, s', h')
    | none => none
   | none => none)
  (fun _ _ ihx ihy s h => match ihx s h with
   | some (.normal, s', h') => ihy s' h'
   | r => r)
  (fun c _ _ ihx ihy s h => match ev (gT s) c with
   | .bool true => ihx s h
   | .bool false => ihy s h
   | _ => none)
  (fun id _ ih s h => match ih s h with
   | some (.exit j, s', h') => if j = id then some (.normal, s', h') else some (.exit j, s', h')
   | r => r)
  (fun _ ih s h => loopF ih m s h)
  (fun id s h => some (.exit id, s, h))
  (fun s h => some (.ret, s, h))
  (fun _ _ => none) c
theorem codeF_eq (P : Program) (call : CallF) (m : Nat) : ∀ (c : ACode), codeF P call m c = codeT P call m c
 | .skip => rfl
 | .ops l => by
  funext s h
  show (match opsF P call l s h with
   | some (.go s' h') => some (AExit.normal, s', h')
   | some (.panic v) => some (.panic v, s, h)
   | none => none) = _
  rw [opsF_eq]; rfl
 | .dops l => by
  funext s h
  show (match prolT l s h with
   | some (s1, h1) => match dopsF P call l s1 h1 with
    | some (s', h') => some (AExit.normal, s', h')
    | none => none
   | none => none) = _
  simp only [dopsF_eq, codeT]
  try rfl
 | .seq x y => by
  funext s h
  show (match codeF P call m x s h with
   | some (.normal, s', h') => codeF P call m y s' h'
   | r => r) = _
  rw [codeF_eq P call m x, codeF_eq P call m y]; rfl
 | .cond c x y => by
  funext s h
  show (match ev (gT s) c with
   | .bool true => codeF P call m x s h
   | .bool false => codeF P call m y s h
   | _ => none) = _
  rw [codeF_eq P call m x, codeF_eq P call m y]; rfl
 | .block id c => by
  funext s h
  show (match codeF P call m c s h with
   | some (AExit.exit j, s', h') => if j = id then some (AExit.normal, s', h') else some (AExit.exit j, s', h')
   | r => r) = _
  rw [codeF_eq P call m c]; rfl
 | .loop c => by
  funext s h
  show loopF (codeF P call m c) m s h = _
  rw [loopF_eq, codeF_eq P call m c]; rfl
 | .exit id => rfl
 | .ret => rfl
 | .bad => rfl
noncomputable def bodyF (P : Program) (call : CallF) (m : Nat) (fn : FnL) (args : List AV) : Option AOut :=
 bif Nat.ble args.length fn.n && Nat.ble args.length 256 then
  match codeF P call m fn.code (startT args) (.lf none) with
  | some (.normal, s, h) | some (.ret, s, h) => (ares P fn.n fn.res (gT s) (gU h)).map .ret
  | some (.panic v, _, _) => some (.panic v)
  | _ => none
 else none
theorem bodyF_eq (P : Program) (call : CallF) (m : Nat) (fn : FnL) (args : List AV) : bodyF P call m fn args = bodyT P call m fn args := by
 unfold bodyF bodyT
 rw [codeF_eq]
 try rfl
noncomputable def runF (P : Program) (prims : CallF) (tbl : Nat → Option FnL) (m : Nat) (d : Nat) : CallF :=
 Nat.rec (motive := fun _ => CallF) (fun _ _ => none) (fun _ ih f args => match tbl f with
  | some fn => bodyF P ih m fn args
  | none => prims f args) d
theorem runF_eq (P : Program) (prims : CallF) (tbl : Nat → Option FnL) (m : Nat) : ∀ d, runF P prims tbl m d = AL.runT P prims tbl m d
 | 0 => rfl
 | d + 1 => by
  funext f args
  show (match tbl f with | some fn => bodyF P (runF P prims tbl m d) m fn args | none => prims f args) = _
  rw [runF_eq P prims tbl m d]
  simp only [bodyF_eq]
  try rfl
theorem runF_sound {P : Program} {GI : World → Prop} (hG : Stable GI) (hm : P.follows .mixedOrders = true) {prims : CallF} {tbl : Nat → Option FnL} {m : Nat} (hp : ∀ f args out, prims f args = some out → AC P GI f args out) (ht : TblOK P tbl)
  (d : Nat) (f : Nat) (args : List AV) (out : AOut) (h : runF P prims tbl m d f args = some out) : AC P GI f args out := by
 rw [runF_eq] at h
 exact runT_sound hG hm hp ht d f args out h
end Go.AL
namespace Go.AL
open Go.RowKit
noncomputable def frzT (i : Nat) (cs : List AV) (s : TS) : TS := s.M (frz i cs) 4
theorem frzT_get (i : Nat) (cs : List AV) (s : TS) : gT (frzT i cs s) = fun t => frz i cs (gT s t) := by
 funext t
 unfold gT frzT
 cases Nat.ble 256 t with
 | true => rfl
 | false => exact TT.G_M undefA (frz i cs) rfl 4 s t
noncomputable def frzF (P : Program) (call : CallF) (m i : Nat) (k : Nat) : ACode → CodeR :=
 Nat.rec (motive := fun _ => ACode → CodeR)
  (fun ac s h => match gU h i with
   | some cs => match setT h i none with
    | some h' => codeF P call m ac (frzT i cs s) h'
    | none => none
   | none => none)
  (fun _ ih ac s h => match ac with
   | .seq x y => match codeF P call m x s h with
    | some (.normal, s', h') => ih y s' h'
    | r => r
   | _ => none) k
section
variable {P : Program} {GI : World → Prop} {call : CallF} {n : Nat} {ro : Option Nat} {Q : Post} {old : Old}
theorem codeF_awp (hcall : ∀ f args out, call f args = some out → AC P GI f args out) {m : Nat} {c : ACode} {s s' : TS} {h h' : TH} {e : AExit} (hr : codeF P call m c s h = some (e, s', h')) {Q : AExit → Slots → Boxes → Prop} (hq : Q e (gT s') (gU h')) : awp P GI c Q (gT s) (gU h) := by
 rw [codeF_eq] at hr
 exact codeT_sound hcall hr hq
def noPanic : AExit → Bool
 | .panic _ => false
 | _ => true
theorem SW.of_codeF (hG : Stable GI) (hm : P.follows .mixedOrders = true) (hcall : ∀ f args out, call f args = some out → AC P GI f args out) {m : Nat} {c : Code} (hc : calmC c = true) (hbx : ∀ d, ¬ old.bx d) {s s' : TS} {h h' : TH} {e : AExit} (hr : codeF P call m (compC P n c) s h = some (e, s', h')) (hp : noPanic e = true) (hq : Q e old (gT s') (gU h')) : SW P GI n ro c Q old (gT s) (gU h) := by
 refine SW.of_awp hG hm hc (fun d _ => hbx d) rfl (codeF_awp hcall hr ?_)
 cases e with
 | panic v => cases hp
 | _ => exact hq
theorem compC_seq {c : Code} {x y : ACode} (h : compC P n c = .seq x y) : ∃ x' y', c = .seq x' y' ∧ compC P n x' = x ∧ compC P n y' = y := by
 cases c with
 | seq x' y' => simp only [compC, ACode.seq.injEq] at h; exact ⟨x', y', rfl, h.1, h.2⟩
 | region id ops draw =>
  simp only [compC] at h
  split at h
  ·split at h <;> cases h
  ·split at h <;> cases h
 | cond c x y => simp only [compC] at h; split at h <;> cases h
 | _ => cases h
theorem frzF_sound (hG : Stable GI) (hm : P.follows .mixedOrders = true) (hcall : ∀ f args out, call f args = some out → AC P GI f args out) {m i : Nat} (hbx : ∀ d, ¬ old.bx d) (hf : old.facts = []) :
  ∀ (k : Nat) {c : Code} (_ : calmC c = true) {s s' : TS} {h h' : TH} {e : AExit} (_ : frzF P call m i k (compC P n c) s h = some (e, s', h')) (_ : noPanic e = true) (_ : Q e old (gT s') (gU h')), SW P GI n ro c Q old (gT s) (gU h)
 | 0, c, hc, s, s', h, h', e, hr, hp, hq => by
  have hr : (match gU h i with
   | some cs => match setT h i none with
    | some h1 => codeF P call m (compC P n c) (frzT i cs s) h1
    | none => none
   | none => none) = some (e, s', h') := hr
  split at hr
  case h_2 => cases hr
  rename_i cs hcs
  split at hr
  case h_2 => cases hr
  rename_i h1 hh
  refine SW.freeze hcs hf ?_
  rw [← frzT_get, ← setU_get hh]
  exact SW.of_codeF hG hm hcall hc hbx hr hp hq
 | k + 1, c, hc, s, s', h, h', e, hr, hp, hq => by
  have hr : (match compC P n c with
   | .seq x y => match codeF P call m x s h with
    | some (.normal, s1, h1) => frzF P call m i k y s1 h1
    | r => r
   | _ => none) = some (e, s', h') := hr
  cases hac : compC P n c <;> rw [hac] at hr <;> try (cases hr; done)
  rename_i xa ya
  obtain ⟨x, y, rfl, rfl, rfl⟩ := compC_seq hac
  simp only [calmC, Bool.and_eq_true] at hc
  simp only at hr
  split at hr
  ·rename_i s1 h1 hx
   refine SW.seq (SW.of_codeF hG hm hcall hc.1 hbx hx rfl ?_)
   exact frzF_sound hG hm hcall hbx hf k hc.2 hr hp hq
  ·rename_i hne
   refine SW.seq (SW.of_codeF hG hm hcall hc.1 hbx hr hp ?_)
   cases e with
   | normal => exact absurd hr (hne _ _)
   | panic v => cases hp
   | _ => exact hq
end
noncomputable def frzFn (P : Program) (call : CallF) (m i k : Nat) (fn : FnL) (args : List AV) : Option AOut :=
 bif Nat.ble args.length fn.n && Nat.ble args.length 256 then match frzF P call m i k fn.code (startT args) (.lf none) with
  | some (.normal, _, _) => none
  | some (.ret, s, h) => (ares P fn.n fn.res (gT s) (gU h)).map .ret
  | _ => none
 else none
theorem frzFn_sound {P : Program} {GI : World → Prop} (hG : Stable GI) (hm : P.follows .mixedOrders = true) {call : CallF} (hcall : ∀ f args out, call f args = some out → AC P GI f args out) {m i k f : Nat} {fn : FnL} (hrow : ∃ (F : Func) (c : Code), P.funcs[f]? = some F ∧ F.body = some c ∧ F.ntmps = fn.n ∧ F.results.toList = fn.res ∧ compC P fn.n c = fn.code ∧ calmC c = true)
  {args : List AV} {out : AOut} (h : frzFn P call m i k fn args = some out) : AC P GI f args out := by
 obtain ⟨F, c, h1, h2, h3, h4, h5, h6⟩ := hrow
 unfold frzFn at h
 cases hb : (Nat.ble args.length fn.n && Nat.ble args.length 256) with
 | false => rw [hb] at h; cases h
 | true =>
 rw [hb] at h
 simp only [cond_true] at h
 rw [Bool.and_eq_true] at hb
 have hl := Nat.le_of_ble_eq_true hb.1
 have hl2 := Nat.le_of_ble_eq_true hb.2
 split at h
 ·cases h
 ·rename_i s hh hc
  simp only [Option.map_eq_some_iff] at h
  obtain ⟨v, hv, rfl⟩ := h
  refine AC.of_SW h1 h2 h3 hl fun cc w => ?_
  rw [← startT_get args hl2, ← gU_none]
  refine frzF_sound hG hm hcall (fun _ h => h) rfl k h6 (by rw [h5]; exact hc) rfl ?_
  rw [h4]
  exact ⟨Marked.plain rfl, rfl, v, hv, rfl⟩
 ·cases h
end Go.AL
namespace Go.AL
open Go.RowKit
section
variable {P : Program} {GI : World → Prop} {n : Nat} {w0 : World}
def awpF (P : Program) (GI : World → Prop) (i : Nat) : Nat → ACode → (AExit → Slots → Boxes → Prop) → Slots → Boxes → Prop
 | 0, ac, Q, S, H => ∃ cs, H i = some cs ∧ awp P GI ac Q (fun t => frz i cs (S t)) (upd H i none)
 | k + 1, .seq x y, Q, S, H => awp P GI x (fun e S' H' => match e with
  | .normal => awpF P GI i k y Q S' H'
  | e => Q e S' H') S H
 | _ + 1, _, _, _, _ => False
theorem awpF_wp (hG : Stable GI) (hG0 : GI w0) (hm : P.follows .mixedOrders = true) {old : Old} {i : Nat} (hf : old.facts = []) (hbx : ∀ d, ¬ old.bx d) : ∀ (k : Nat) (c : Code) (Q : AExit → Slots → Boxes → Prop) (g : Gh) (S : Slots) (H : Boxes) (a : Act) (w : World), g.old = old → Rel P w0 n NoU g S H a w → awpF P GI i k (compC P n c) Q S H → c.wp P (QQ P w0 n old Q) a w
 | 0, c, Q, g, S, H, a, w, ho, R, h => by
  obtain ⟨cs, hH, h⟩ := h
  obtain ⟨g', h1, R'⟩ := R.freeze hH (by rw [ho]; exact hf)
  exact awp_wp hG hG0 hm c _ g' _ _ a w (fun d _ => hbx d) (h1.trans ho) R' h
 | k + 1, c, Q, g, S, H, a, w, ho, R, h => by
  cases hac : compC P n c <;> rw [hac] at h <;> try (exact h.elim)
  rename_i xa ya
  obtain ⟨x, y, rfl, rfl, rfl⟩ := compC_seq hac
  refine wp_seq (wp_mono (awp_wp hG hG0 hm x _ g S H a w (fun d _ => hbx d) ho R h) ?_)
  intro e a' w' he
  cases e with
  | normal =>
   obtain ⟨g', S', H', e1, R', h'⟩ := he
   exact awpF_wp hG hG0 hm hf hbx k y Q g' S' H' a' w' e1 R' h'
  | _ => exact he
theorem AC.of_bodyZ (hG : Stable GI) (hm : P.follows .mixedOrders = true) {f : Nat} {fn : Func} {c : Code} {args : List AV} {out : AOut} (i k : Nat) (hf : P.funcs[f]? = some fn) (hb : fn.body = some c) (hn : fn.ntmps = n) (hl : args.length ≤ n) {ac : ACode} (hc : compC P n c = ac)
  (h : awpF P GI i k ac (post P n fn.results.toList out) (start args) (fun _ => none)) : AC P GI f args out := by
 intro w old cargs hGw hlen hr
 refine calls_of_wp hf hb ?_
 subst hc
 have R : Rel P w n NoU _ (start args) (fun _ => none) { tmps := cargs ++ Array.replicate (fn.ntmps - cargs.size) undef, defers := [] } w := Rel.begin hn hl hlen hr
 refine wp_mono (awpF_wp hG hGw hm (old := Old.plain old w) rfl (fun _ h => h) k c _ _ _ _ _ w rfl R h) ?_
 intro e a' w' he
 have fin : (∃ g' S H, g'.old = Old.plain old w ∧ Rel P w n NoU g' S H a' w' ∧ ∃ v, ares P n fn.results.toList S H = some v ∧ out = .ret v) →
   a'.defers = [] ∧ ∃ v, (results fn a'.tmps).run P w' = .ok v w' ∧ Ends P old w out (.returned v) w' := by
  rintro ⟨g', S, H, e1, R', v, hv, rfl⟩
  obtain ⟨c, r1, r2, r3⟩ := ares_sound R' hv
  refine ⟨by rw [R'.defers, e1]; rfl, c, r1, ?_, g'.hi, fun b hb => (R'.fresh b hb).1, c, rfl, ?_, ?_⟩
  ·have := R'.below; rwa [R'.base] at this
  ·have : g'.Pr = prOf w.heap.size old g'.hi := by
    funext b k
    simp only [Gh.Pr, prOf, R'.base, e1, Old.plain]
   rw [this] at r2; exact .data _ _ r2
  ·rwa [R'.base] at r3
 cases e with
 | normal => exact fin he
 | ret => exact fin he
 | exit id => obtain ⟨_, _, _, _, _, h⟩ := he; exact h.elim
 | panic chain =>
  obtain ⟨hd, v, c, hi, S, H, h1, h2, h3, h4, h5⟩ := he
  subst h1
  cases (show out = .panic v from h5)
  exact ⟨hd, h2, hi, h3, c, rfl, h4⟩
 | goto l => exact he.elim
 | outgrown => exact he.elim
theorem awpF_cut {i k : Nat} {x y : ACode} {Q : AExit → Slots → Boxes → Prop} {S : Slots} {H : Boxes} (K : Slots → Boxes → Prop) (hx : awp P GI x (fun e S H => e = .normal ∧ K S H) S H) (hmono : ∀ {Q Q' : AExit → Slots → Boxes → Prop}, (∀ e S H, Q e S H → Q' e S H) → awp P GI x Q S H → awp P GI x Q' S H) (hy : ∀ S' H', K S' H' → awpF P GI i k y Q S' H') : awpF P GI i (k + 1) (.seq x y) Q S H :=
 hmono (fun e S' H' h => by obtain ⟨rfl, h⟩ := h; exact hy S' H' h) hx
theorem awpF_zero {i : Nat} {ac : ACode} {Q : AExit → Slots → Boxes → Prop} {S : Slots} {H : Boxes} (cs : List AV) (K : Slots → Boxes → Prop) (hH : H i = some cs) (hK : K (fun t => frz i cs (S t)) (upd H i none)) (hc : ∀ S' H', K S' H' → awp P GI ac Q S' H') : awpF P GI i 0 ac Q S H := ⟨cs, hH, hc _ _ hK⟩
end
end Go.AL
