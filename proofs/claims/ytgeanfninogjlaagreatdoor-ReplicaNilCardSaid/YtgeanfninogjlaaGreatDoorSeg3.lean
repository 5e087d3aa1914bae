/-
  Piece 3 of the run of the chapter's example: the executor comes from state 2 to state 3. No condition.
-/
import Derived.Test.YtgeanfninogjlaaGreatDoorStC
import Derived.KernelRfl
set_option linter.unusedVariables false
set_option linter.unusedSimpArgs false
set_option linter.unusedSectionVars false
namespace Go.Proofs.YtgeanfninogjlaaGreatDoor
open Go Go.AX
set_option maxRecDepth 100000
theorem seg3 : piece env 0 24499 [1, 2, 3, 5, 7, 44, 47, 49, 50, 51, 55, 56, 57, 58, 159, 297, 330, 332, 464, 466, 467, 470, 471, 473, 474, 476, 477, 493, 635, 882, 887, 893, 915, 919, 921, 922, 924, 927, 928, 1043, 1047, 1050] st2 = some st3 := by kernel_rfl
end Go.Proofs.YtgeanfninogjlaaGreatDoor
