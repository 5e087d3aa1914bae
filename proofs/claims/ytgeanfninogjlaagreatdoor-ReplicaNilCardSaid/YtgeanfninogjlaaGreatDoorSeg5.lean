/-
  Piece 5 of the run of the chapter's example: the executor comes from state 4 to state 5. No condition.
-/
import Derived.Test.YtgeanfninogjlaaGreatDoorStC
import Derived.KernelRfl
set_option linter.unusedVariables false
set_option linter.unusedSimpArgs false
set_option linter.unusedSectionVars false
namespace Go.Proofs.YtgeanfninogjlaaGreatDoor
open Go Go.AX
set_option maxRecDepth 100000
theorem seg5 : piece env 0 24117 [1, 2, 3, 5, 7, 44, 47, 49, 50, 51, 55, 56, 57, 58, 159, 297, 330, 332, 464, 466, 467, 470, 471, 473, 474, 476, 477, 493, 635, 882, 887, 893, 915, 919, 921, 922, 924, 927, 928, 1043, 1047, 1050, 1059, 1237, 1243, 1251, 1253, 1256, 1257, 1258, 1259, 1360, 1362, 1363, 1364, 1365, 1366, 1367, 1508, 1772, 2272, 2278] st4 = some st5 := by kernel_rfl
end Go.Proofs.YtgeanfninogjlaaGreatDoor
