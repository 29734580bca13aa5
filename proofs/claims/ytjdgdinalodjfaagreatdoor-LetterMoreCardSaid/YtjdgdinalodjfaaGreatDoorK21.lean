/-
  A part of the proof: K21.
-/
import Derived.Test.YtjdgdinalodjfaaGreatDoorK2
set_option linter.all false
set_option linter.unusedVariables false
set_option linter.unusedSimpArgs false
set_option linter.deprecated false
namespace Go.Proofs.Tryz
open Go Go.AL Go.RowKit Go.Proofs
def iA (n:Int):AV := .int .i64 n
theorem r26:run3 26 [sheetA shA,settingA [] yY,iA 0]=some (.ret (.tup [vI [35,8],iA 0])):=by kernel_rfl
theorem r31:run3 31 [sheetA shA,settingA [] xX,iA 9]=some (.ret (.tup [.bool true,iA 0])):=by kernel_rfl
theorem r32:run3 32 [sheetA shA,settingA [] xX]=some (.ret (.tup [iA 9,iA 0])):=by kernel_rfl
theorem r25:run3 25 [sheetA shA,settingA [] xX,iA 9]=some (.ret (.tup [.slice .view [vI [0,9,17],vI [0,9]],iA 0])):=by kernel_rfl
theorem r39:run3 39 [sheetA shA]=some (.ret (.tup [iA 2,iA 0])):=by kernel_rfl
theorem r40:run3 40 [sheetA shA]=some (.ret (.tup [settingA [] xX,iA 9,iA 0])):=by kernel_rfl
theorem r45:run3 45 [sheetA shA]=some (.ret (.tup [iA 1,iA 0])):=by kernel_rfl
end Go.Proofs.Tryz
