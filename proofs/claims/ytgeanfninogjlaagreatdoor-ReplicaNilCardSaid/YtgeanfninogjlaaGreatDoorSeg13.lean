/-
  Piece 13 of the run of the chapter's example: the executor comes from state 12 to state 13. No condition.
-/
import Derived.Test.YtgeanfninogjlaaGreatDoorStC
import Derived.KernelRfl
set_option linter.unusedVariables false
set_option linter.unusedSimpArgs false
set_option linter.unusedSectionVars false
namespace Go.Proofs.YtgeanfninogjlaaGreatDoor
open Go Go.AX
set_option maxRecDepth 100000
theorem seg13 : piece env 0 25137 [1, 2, 3, 5, 7, 44, 47, 49, 50, 51, 55, 56, 57, 58, 159, 297, 330, 332, 464, 466, 467, 470, 471, 473, 474, 476, 477, 887, 893, 915, 919, 921, 922, 928, 2531, 2550, 2559, 2625, 2629, 2631, 2632, 2688, 2690, 2698, 2843, 3240, 4975, 4986, 5007, 5015, 5085, 5089, 5091, 5092, 5110, 5158, 5160, 5165, 5168, 5169, 5378, 5381, 5384, 5393, 5636, 5662, 5670, 5678, 5680, 5683, 5684, 5685, 5686, 5918, 5920, 5921, 5922, 5923, 5924, 5925, 6206, 6623] st12 = some st13 := by kernel_rfl
end Go.Proofs.YtgeanfninogjlaaGreatDoor
