/- Runs of the interpreter: batch 14. Conditions: none. -/
import Derived.Test.YtnbgklfnaagklaaGreatDoorXV
import Derived.KernelRfl
set_option linter.unusedVariables false
set_option linter.unusedSimpArgs false
namespace Go.Proofs.YtnbgklfnaagklaaGreatDoor.K
open Go Go.X Go.Proofs
theorem k7 : callOK (KK E7) H0 1346 e7.1 e7.2.1 e7.2.2 = true := by kernel_rfl
theorem k18 : callOK (KK E18) H0 28810 e18.1 e18.2.1 e18.2.2 = true := by kernel_rfl
theorem k19 : callOK (KK E19) H0 5930 e19.1 e19.2.1 e19.2.2 = true := by kernel_rfl
theorem k40_1_4 : callOKP (KK E40) H0 1413858 e40.1 e40.2.1 e40.2.2 [(1, 6, 46), (4, 5, 46)] = true := by kernel_rfl
theorem k40_4_0 : callOKP (KK E40) H0 1413858 e40.1 e40.2.1 e40.2.2 [(4, 6, 46), (0, 5, 46)] = true := by kernel_rfl
theorem k57 : callOK (KK E57) H0 1070 e57.1 e57.2.1 e57.2.2 = true := by kernel_rfl
theorem k59 : callOK (KK E59) H0 17538 e59.1 e59.2.1 e59.2.2 = true := by kernel_rfl
theorem k83 : callOK (KK E83) H0 1946 3 [] (.sc (.bool true)) = true := by kernel_rfl
end Go.Proofs.YtnbgklfnaagklaaGreatDoor.K
