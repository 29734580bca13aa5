/-
  A part of the proof: K23.
-/
import Derived.Test.YtjdgdinalodjfaaGreatDoorK21
import Derived.Test.YtjdgdinalodjfaaGreatDoorK22
set_option linter.all false
set_option linter.unusedVariables false
set_option linter.unusedSimpArgs false
set_option linter.deprecated false
namespace Go.Proofs.Tryz
open Go Go.AL Go.RowKit Go.Proofs
variable {GI:World→Prop}
def q1 (s:Sheet) (out:AOut):List AV→Option AOut
 |[a]=>match dSheet a with
  |some x=>bif decide (x=s) then some out else none
  |none=>none
 |_=>none
def q2 (s:Sheet) (es:List End) (out:AOut):List AV→Option AOut
 |[a,b]=>match dSheet a with
  |some x=>match dSetting b with
   |some y=>bif decide (x=s) && decide (y=([],es)) then some out else none
   |none=>none
  |none=>none
 |_=>none
def q3 (s:Sheet) (es:List End) (n:Int) (out:AOut):List AV→Option AOut
 |[a,b,.int .i64 k]=>match dSheet a with
  |some x=>match dSetting b with
   |some y=>bif decide (x=s) && decide (y=([],es)) && decide (k=n) then some out else none
   |none=>none
  |none=>none
 |_=>none
def qs (s:List UInt8) (out:AOut):List AV→Option AOut
 |[.str t]=>bif decide (t=s) then some out else none
 |_=>none
theorem q1_eq {s:Sheet} {out o:AOut} {args:List AV} (h:q1 s out args=some o):args=[sheetA s]∧o=out:=by
 unfold q1 at h
 split at h
 case h_2=>cases h
 split at h
 case h_2=>cases h
 rename_i hd
 rcases bsplit h with ⟨hc,h⟩ | ⟨_,h⟩
 case inr=>cases h
 cases h
 have:=of_decide_eq_true hc
 subst this
 rw [dSheet_eq _ _ hd]
 exact ⟨rfl,rfl⟩
theorem q2_eq {s:Sheet} {es:List End} {out o:AOut} {args:List AV} (h:q2 s es out args=some o):args=[sheetA s,settingA [] es]∧o=out:=by
 unfold q2 at h
 split at h
 case h_2=>cases h
 split at h
 case h_2=>cases h
 rename_i hd
 split at h
 case h_2=>cases h
 rename_i he
 rcases bsplit h with ⟨hc,h⟩ | ⟨_,h⟩
 case inr=>cases h
 cases h
 rw [Bool.and_eq_true] at hc
 have h1:=of_decide_eq_true hc.1
 have h2:=of_decide_eq_true hc.2
 subst h1
 subst h2
 rw [dSheet_eq _ _ hd,dSetting_eq _ _ he]
 exact ⟨rfl,rfl⟩
theorem q3_eq {s:Sheet} {es:List End} {n:Int} {out o:AOut} {args:List AV} (h:q3 s es n out args=some o):args=[sheetA s,settingA [] es,.int .i64 n]∧o=out:=by
 unfold q3 at h
 split at h
 case h_2=>cases h
 split at h
 case h_2=>cases h
 rename_i hd
 split at h
 case h_2=>cases h
 rename_i he
 rcases bsplit h with ⟨hc,h⟩ | ⟨_,h⟩
 case inr=>cases h
 cases h
 rw [Bool.and_eq_true,Bool.and_eq_true] at hc
 have h1:=of_decide_eq_true hc.1.1
 have h2:=of_decide_eq_true hc.1.2
 have h3:=of_decide_eq_true hc.2
 subst h1
 subst h2
 subst h3
 rw [dSheet_eq _ _ hd,dSetting_eq _ _ he]
 exact ⟨rfl,rfl⟩
theorem qs_eq {s:List UInt8} {out o:AOut} {args:List AV} (h:qs s out args=some o):args=[.str s]∧o=out:=by
 unfold qs at h
 split at h
 case h_2=>cases h
 rcases bsplit h with ⟨hc,h⟩ | ⟨_,h⟩
 case inr=>cases h
 cases h
 have:=of_decide_eq_true hc
 subst this
 exact ⟨rfl,rfl⟩
noncomputable def tab4 (f:Nat):Option FnL :=
 bif Nat.beq f 26 then none else bif Nat.beq f 31 then none else bif Nat.beq f 32 then none else bif Nat.beq f 25 then none else bif Nat.beq f 39 then none else bif Nat.beq f 45 then none else
 bif Nat.beq f 50 then none else bif Nat.beq f 56 then none else bif Nat.beq f 61 then none else bif Nat.beq f 69 then none else tab.get f
theorem tab4_ok:TblOK prog tab4:=by
 intro f fn h
 unfold tab4 at h
 iterate 10 (rcases bsplit h with ⟨_,h⟩ | ⟨_,h⟩;· cases h)
 exact TrOK.tbl tabOK f fn h
noncomputable def prims4:CallF:=fun f args =>
 bif Nat.beq f 26 then q3 shA yY 0 (.ret (.tup [vI [35,8],iA 0])) args else
 bif Nat.beq f 31 then q3 shA xX 9 (.ret (.tup [.bool true,iA 0])) args else
 bif Nat.beq f 32 then q2 shA xX (.ret (.tup [iA 9,iA 0])) args else
 bif Nat.beq f 25 then q3 shA xX 9 (.ret (.tup [.slice .view [vI [0,9,17],vI [0,9]],iA 0])) args else
 bif Nat.beq f 39 then q1 shA (.ret (.tup [iA 2,iA 0])) args else
 bif Nat.beq f 40 then q1 shA (.ret (.tup [settingA [] xX,iA 9,iA 0])) args else
 bif Nat.beq f 45 then q1 shA (.ret (.tup [iA 1,iA 0])) args else
 bif Nat.beq f 46 then q1 shC (.ret (.tup [.int .i64 40,.int .i64 0])) args else
 bif Nat.beq f 50 then q1 shC (.ret (.tup [vI [1],.int .i64 0])) args else
 bif Nat.beq f 56 then q1 shB (.ret (.tup [.int .i64 3,.int .i64 0])) args else
 bif Nat.beq f 61 then q1 shD (.ret (.tup [.int .i64 0,.int .i64 1,.int .i64 0])) args else
 bif Nat.beq f 68 then qs txt (.ret (.tup [sheetA shT,.int .i64 0])) args else
 bif Nat.beq f 69 then q1 shT (.ret (.str txt)) args else prims0 f args
theorem prims4_sound (hG:Stable GI) (hML:∀ w,GI w→∃ m,w.cell? ⟨1,0,none⟩=some (.int .i64 m)) (f:Nat) (args:List AV) (out:AOut) (h:prims4 f args=some out):AC prog GI f args out:=by
 have R:=run3_sound (GI:=GI) hG hML
 unfold prims4 at h
 rcases bsplit h with ⟨hf,h⟩ | ⟨_,h⟩
 ·have:=Nat.eq_of_beq_eq_true hf;subst this
  obtain ⟨rfl,rfl⟩:=q3_eq h
  exact R _ _ _ r26
 rcases bsplit h with ⟨hf,h⟩ | ⟨_,h⟩
 ·have:=Nat.eq_of_beq_eq_true hf;subst this
  obtain ⟨rfl,rfl⟩:=q3_eq h
  exact R _ _ _ r31
 rcases bsplit h with ⟨hf,h⟩ | ⟨_,h⟩
 ·have:=Nat.eq_of_beq_eq_true hf;subst this
  obtain ⟨rfl,rfl⟩:=q2_eq h
  exact R _ _ _ r32
 rcases bsplit h with ⟨hf,h⟩ | ⟨_,h⟩
 ·have:=Nat.eq_of_beq_eq_true hf;subst this
  obtain ⟨rfl,rfl⟩:=q3_eq h
  exact R _ _ _ r25
 rcases bsplit h with ⟨hf,h⟩ | ⟨_,h⟩
 ·have:=Nat.eq_of_beq_eq_true hf;subst this
  obtain ⟨rfl,rfl⟩:=q1_eq h
  exact R _ _ _ r39
 rcases bsplit h with ⟨hf,h⟩ | ⟨_,h⟩
 ·have:=Nat.eq_of_beq_eq_true hf;subst this
  obtain ⟨rfl,rfl⟩:=q1_eq h
  exact R _ _ _ r40
 rcases bsplit h with ⟨hf,h⟩ | ⟨_,h⟩
 ·have:=Nat.eq_of_beq_eq_true hf;subst this
  obtain ⟨rfl,rfl⟩:=q1_eq h
  exact R _ _ _ r45
 rcases bsplit h with ⟨hf,h⟩ | ⟨_,h⟩
 ·have:=Nat.eq_of_beq_eq_true hf;subst this
  obtain ⟨rfl,rfl⟩:=q1_eq h
  exact R _ _ _ r46
 rcases bsplit h with ⟨hf,h⟩ | ⟨_,h⟩
 ·have:=Nat.eq_of_beq_eq_true hf;subst this
  obtain ⟨rfl,rfl⟩:=q1_eq h
  exact R _ _ _ r50
 rcases bsplit h with ⟨hf,h⟩ | ⟨_,h⟩
 ·have:=Nat.eq_of_beq_eq_true hf;subst this
  obtain ⟨rfl,rfl⟩:=q1_eq h
  exact R _ _ _ r56
 rcases bsplit h with ⟨hf,h⟩ | ⟨_,h⟩
 ·have:=Nat.eq_of_beq_eq_true hf;subst this
  obtain ⟨rfl,rfl⟩:=q1_eq h
  exact R _ _ _ r61
 rcases bsplit h with ⟨hf,h⟩ | ⟨_,h⟩
 ·have:=Nat.eq_of_beq_eq_true hf;subst this
  obtain ⟨rfl,rfl⟩:=qs_eq h
  exact R _ _ _ r68
 rcases bsplit h with ⟨hf,h⟩ | ⟨_,h⟩
 ·have:=Nat.eq_of_beq_eq_true hf;subst this
  obtain ⟨rfl,rfl⟩:=q1_eq h
  exact R _ _ _ r69
 exact prims0_sound hG hML f args out h
def isTrue:Option AOut→Bool
 |some (.ret (.bool true))=>true
 |_=>false
theorem isTrue_eq {o:Option AOut} (h:isTrue o=true):o=some (.ret (.bool true)):=by
 unfold isTrue at h
 split at h
 ·rfl
 ·cases h
theorem known_run:isTrue (runF prog prims4 tab4 1000 60 24 [])=true:=by kernel_rfl
theorem ac24 (hG:Stable GI) (hML:∀ w,GI w→∃ m,w.cell? ⟨1,0,none⟩=some (.int .i64 m)):AC prog GI 24 [] (.ret (.bool true)) :=
 runF_sound hG hmix (prims4_sound hG hML) tab4_ok 60 24 [] _ (isTrue_eq known_run)
#print axioms ac24
end Go.Proofs.Tryz
