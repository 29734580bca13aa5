/-
  A part of the proof: K22.
-/
import Derived.Test.YtjdgdinalodjfaaGreatDoorK2
set_option linter.all false
set_option linter.unusedVariables false
set_option linter.unusedSimpArgs false
set_option linter.deprecated false
namespace Go.Proofs.Tryz
open Go Go.AL Go.RowKit Go.Proofs
theorem r46:run3 46 [sheetA shC]=some (.ret (.tup [.int .i64 40,.int .i64 0])):=by kernel_rfl
theorem r50:run3 50 [sheetA shC]=some (.ret (.tup [vI [1],.int .i64 0])):=by kernel_rfl
theorem r56:run3 56 [sheetA shB]=some (.ret (.tup [.int .i64 3,.int .i64 0])):=by kernel_rfl
theorem r61:run3 61 [sheetA shD]=some (.ret (.tup [.int .i64 0,.int .i64 1,.int .i64 0])):=by kernel_rfl
theorem r68:run3 68 [.str txt]=some (.ret (.tup [sheetA shT,.int .i64 0])):=by kernel_rfl
theorem r69:run3 69 [sheetA shT]=some (.ret (.str txt)):=by kernel_rfl
end Go.Proofs.Tryz
