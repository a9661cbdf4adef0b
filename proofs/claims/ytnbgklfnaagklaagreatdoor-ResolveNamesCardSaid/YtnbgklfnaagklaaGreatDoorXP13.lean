/- Runs of the interpreter: batch 13. Conditions: none. -/
import Derived.Test.YtnbgklfnaagklaaGreatDoorXV
import Derived.KernelRfl
set_option linter.unusedVariables false
set_option linter.unusedSimpArgs false
namespace Go.Proofs.YtnbgklfnaagklaaGreatDoor.K
open Go Go.X Go.Proofs
theorem k29 : callOK (KK E29) H0 1652 e29.1 e29.2.1 e29.2.2 = true := by kernel_rfl
theorem k34 : callOK (KK E34) H0 4968 e34.1 e34.2.1 e34.2.2 = true := by kernel_rfl
theorem k40_1_3 : callOKP (KK E40) H0 1413858 e40.1 e40.2.1 e40.2.2 [(1, 6, 46), (3, 5, 46)] = true := by kernel_rfl
theorem k40_3_4 : callOKP (KK E40) H0 1413858 e40.1 e40.2.1 e40.2.2 [(3, 6, 46), (4, 5, 46)] = true := by kernel_rfl
theorem k46 : callOK (KK E46) H0 34514 e46.1 e46.2.1 e46.2.2 = true := by kernel_rfl
theorem k56 : callOK (KK E56) H0 14308 e56.1 e56.2.1 e56.2.2 = true := by kernel_rfl
theorem k69 : callOK (KK E69) H0 1346 e69.1 e69.2.1 e69.2.2 = true := by kernel_rfl
end Go.Proofs.YtnbgklfnaagklaaGreatDoor.K
