/- Runs of the interpreter: batch 11. Conditions: none. -/
import Derived.Test.YtnbgklfnaagklaaGreatDoorXV
import Derived.KernelRfl
set_option linter.unusedVariables false
set_option linter.unusedSimpArgs false
namespace Go.Proofs.YtnbgklfnaagklaaGreatDoor.K
open Go Go.X Go.Proofs
theorem k2 : callOK (KK E2) H0 9284 e2.1 e2.2.1 e2.2.2 = true := by kernel_rfl
theorem k5 : callOK (KK E5) H0 2442 e5.1 e5.2.1 e5.2.2 = true := by kernel_rfl
theorem k8 : callOK (KK E8) H0 1010 e8.1 e8.2.1 e8.2.2 = true := by kernel_rfl
theorem k38 : callOK (KK E38) H0 1506 e38.1 e38.2.1 e38.2.2 = true := by kernel_rfl
theorem k40_1_1 : callOKP (KK E40) H0 1413858 e40.1 e40.2.1 e40.2.2 [(1, 6, 46), (1, 5, 46)] = true := by kernel_rfl
theorem k40_3_2 : callOKP (KK E40) H0 1413858 e40.1 e40.2.1 e40.2.2 [(3, 6, 46), (2, 5, 46)] = true := by kernel_rfl
theorem k63 : callOK (KK E63) H0 42752 e63.1 e63.2.1 e63.2.2 = true := by kernel_rfl
end Go.Proofs.YtnbgklfnaagklaaGreatDoor.K
