/-
  Piece 2 of the run of the chapter's example: the executor comes from state 1 to state 2. No condition.
-/
import Derived.Test.YtgeanfninogjlaaGreatDoorStC
import Derived.KernelRfl
set_option linter.unusedVariables false
set_option linter.unusedSimpArgs false
set_option linter.unusedSectionVars false
namespace Go.Proofs.YtgeanfninogjlaaGreatDoor
open Go Go.AX
set_option maxRecDepth 100000
theorem seg2 : piece env 0 23009 [1, 2, 3, 5, 7, 44, 47, 49, 50, 51, 52, 54, 55, 56, 57, 58, 118, 159, 297, 330, 332, 463, 464, 466, 467, 470, 471, 473, 474, 476, 477, 493, 621, 623, 626, 627, 628, 629, 633, 635, 636, 637, 638, 639, 640] st1 = some st2 := by kernel_rfl
end Go.Proofs.YtgeanfninogjlaaGreatDoor
