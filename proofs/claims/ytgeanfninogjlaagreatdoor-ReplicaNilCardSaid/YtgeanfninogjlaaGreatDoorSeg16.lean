/-
  Piece 16 of the run of the chapter's example: the executor comes from state 15 to state 16. No condition.
-/
import Derived.Test.YtgeanfninogjlaaGreatDoorStC
import Derived.KernelRfl
set_option linter.unusedVariables false
set_option linter.unusedSimpArgs false
set_option linter.unusedSectionVars false
namespace Go.Proofs.YtgeanfninogjlaaGreatDoor
open Go Go.AX
set_option maxRecDepth 100000
theorem seg16 : piece env 0 27081 [1, 2, 3, 5, 7, 44, 47, 49, 50, 51, 55, 56, 57, 58, 159, 297, 330, 332, 464, 466, 467, 470, 471, 473, 474, 476, 477, 887, 893, 915, 919, 921, 922, 928, 2531, 2550, 2559, 2625, 2629, 2631, 2632, 2688, 2690, 2698, 2843, 4986, 5007, 5015, 5085, 5089, 5091, 5092, 5110, 5158, 5160, 5165, 5168, 5169, 5378, 5381, 5384, 5393, 5636, 5662, 5670, 5678, 5680, 5683, 5684, 5920, 7718, 7767, 7768] st15 = some st16 := by kernel_rfl
end Go.Proofs.YtgeanfninogjlaaGreatDoor
