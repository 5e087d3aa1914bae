/-
  Piece 8 of the run of the chapter's example: the executor comes from state 7 to state 8. No condition.
-/
import Derived.Test.YtgeanfninogjlaaGreatDoorStC
import Derived.KernelRfl
set_option linter.unusedVariables false
set_option linter.unusedSimpArgs false
set_option linter.unusedSectionVars false
namespace Go.Proofs.YtgeanfninogjlaaGreatDoor
open Go Go.AX
set_option maxRecDepth 100000
theorem seg8 : piece env 0 24788 [1, 2, 3, 5, 7, 44, 47, 49, 50, 51, 55, 56, 57, 58, 159, 297, 330, 332, 464, 466, 467, 470, 471, 473, 474, 476, 477, 887, 893, 915, 919, 921, 922, 928, 1043, 1059, 1362, 2525, 2531, 2550, 2559, 2625, 2629, 2631, 2632, 2688, 2690, 2694, 2697, 2698, 2827, 2831, 2834, 2843, 3048, 3056, 3064, 3066, 3069, 3070, 3071, 3072, 3238, 3240, 3241, 3242, 3243, 3244, 3245, 3451, 3782, 3788, 3789, 3790, 3791, 3792, 3793, 3875] st7 = some st8 := by kernel_rfl
end Go.Proofs.YtgeanfninogjlaaGreatDoor
