/- Runs of the interpreter: batch 8. Conditions: none. -/
import Derived.Test.YtnbgklfnaagklaaGreatDoorXV
import Derived.KernelRfl
set_option linter.unusedVariables false
set_option linter.unusedSimpArgs false
namespace Go.Proofs.YtnbgklfnaagklaaGreatDoor.K
open Go Go.X Go.Proofs
theorem k1 : callOK (KK E1) H0 2362 e1.1 e1.2.1 e1.2.2 = true := by kernel_rfl
theorem k15 : callOK (KK E15) H0 1000 e15.1 e15.2.1 e15.2.2 = true := by kernel_rfl
theorem k17 : callOK (KK E17) H0 1000 e17.1 e17.2.1 e17.2.2 = true := by kernel_rfl
theorem k36 : callOK (KK E36) H0 46602 e36.1 e36.2.1 e36.2.2 = true := by kernel_rfl
theorem k40_0_3 : callOKP (KK E40) H0 1413858 e40.1 e40.2.1 e40.2.2 [(0, 6, 46), (3, 5, 46)] = true := by kernel_rfl
theorem k40_2_4 : callOKP (KK E40) H0 1413858 e40.1 e40.2.1 e40.2.2 [(2, 6, 46), (4, 5, 46)] = true := by kernel_rfl
theorem k45 : callOK (KK E45) H0 5932 e45.1 e45.2.1 e45.2.2 = true := by kernel_rfl
theorem k50 : callOK (KK E50) H0 1346 e50.1 e50.2.1 e50.2.2 = true := by kernel_rfl
end Go.Proofs.YtnbgklfnaagklaaGreatDoor.K
