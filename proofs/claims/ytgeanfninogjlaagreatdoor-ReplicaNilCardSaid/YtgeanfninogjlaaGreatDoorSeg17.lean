/-
  Piece 17 of the run of the chapter's example: the executor comes from state 16 to state 17. No condition.
-/
import Derived.Test.YtgeanfninogjlaaGreatDoorStC
import Derived.KernelRfl
set_option linter.unusedVariables false
set_option linter.unusedSimpArgs false
set_option linter.unusedSectionVars false
namespace Go.Proofs.YtgeanfninogjlaaGreatDoor
open Go Go.AX
set_option maxRecDepth 100000
theorem seg17 : piece env 0 16623 [1, 2, 3, 5, 7, 44, 47, 49, 50, 51, 55, 56, 57, 58, 159, 297, 330, 332, 464, 466, 467, 470, 471, 473, 474, 476, 477, 887, 893, 915, 919, 921, 922, 928, 2531, 2550, 2559, 2625, 2629, 2631, 2632, 2688, 2690, 2698, 4986, 5007, 5015, 5085, 5089, 5091, 5092, 5110, 5158, 5160, 5169, 5393, 5920, 7718, 7767, 7894, 7898, 7900, 7901, 7993, 7995, 8046, 8049, 8178, 8207, 8223, 8225, 8255] st16 = some st17 := by kernel_rfl
end Go.Proofs.YtgeanfninogjlaaGreatDoor
