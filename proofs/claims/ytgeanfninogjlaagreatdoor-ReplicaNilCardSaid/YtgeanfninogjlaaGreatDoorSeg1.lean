/-
  Piece 1 of the run of the chapter's example: the executor comes from state 0 to state 1. No condition.
-/
import Derived.Test.YtgeanfninogjlaaGreatDoorStC
import Derived.KernelRfl
set_option linter.unusedVariables false
set_option linter.unusedSimpArgs false
set_option linter.unusedSectionVars false
namespace Go.Proofs.YtgeanfninogjlaaGreatDoor
open Go Go.AX
set_option maxRecDepth 100000
theorem seg1 : piece env 0 24341 [1, 2, 3, 4, 5, 7, 44, 47, 49, 50, 51, 52, 54, 55, 56, 57, 58, 118, 159, 160] st0 = some st1 := by kernel_rfl
end Go.Proofs.YtgeanfninogjlaaGreatDoor
