/-
  Piece 11 of the run of the chapter's example: the executor comes from state 10 to state 11. No condition.
-/
import Derived.Test.YtgeanfninogjlaaGreatDoorStC
import Derived.KernelRfl
set_option linter.unusedVariables false
set_option linter.unusedSimpArgs false
set_option linter.unusedSectionVars false
namespace Go.Proofs.YtgeanfninogjlaaGreatDoor
open Go Go.AX
set_option maxRecDepth 100000
theorem seg11 : piece env 0 26344 [1, 2, 3, 5, 7, 44, 47, 49, 50, 51, 55, 56, 57, 58, 159, 297, 330, 332, 464, 466, 467, 470, 471, 473, 474, 476, 477, 887, 893, 915, 919, 921, 922, 928, 1043, 1059, 2531, 2550, 2559, 2625, 2629, 2631, 2632, 2688, 2690, 2694, 2697, 2698, 2827, 2831, 2834, 2843, 3048, 3056, 3064, 3066, 3069, 3070, 3240, 4975, 4986, 5007, 5015, 5016] st10 = some st11 := by kernel_rfl
end Go.Proofs.YtgeanfninogjlaaGreatDoor
