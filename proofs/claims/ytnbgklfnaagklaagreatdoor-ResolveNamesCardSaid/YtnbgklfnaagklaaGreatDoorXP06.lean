/- Runs of the interpreter: batch 6. Conditions: none. -/
import Derived.Test.YtnbgklfnaagklaaGreatDoorXV
import Derived.KernelRfl
set_option linter.unusedVariables false
set_option linter.unusedSimpArgs false
namespace Go.Proofs.YtnbgklfnaagklaaGreatDoor.K
open Go Go.X Go.Proofs
theorem k4 : callOK (KK E4) H0 3590 e4.1 e4.2.1 e4.2.2 = true := by kernel_rfl
theorem k40_0_1 : callOKP (KK E40) H0 1413858 e40.1 e40.2.1 e40.2.2 [(0, 6, 46), (1, 5, 46)] = true := by kernel_rfl
theorem k40_2_2 : callOKP (KK E40) H0 1413858 e40.1 e40.2.1 e40.2.2 [(2, 6, 46), (2, 5, 46)] = true := by kernel_rfl
theorem k40_5_3 : callOKP (KK E40) H0 1413858 e40.1 e40.2.1 e40.2.2 [(5, 6, 46), (3, 5, 46)] = true := by kernel_rfl
theorem k49 : callOK (KK E49) H0 1652 e49.1 e49.2.1 e49.2.2 = true := by kernel_rfl
theorem k72 : callOK (KK E72) H0 1346 e72.1 e72.2.1 e72.2.2 = true := by kernel_rfl
end Go.Proofs.YtnbgklfnaagklaaGreatDoor.K
