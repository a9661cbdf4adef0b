/- Runs of the interpreter: batch 5. Conditions: none. -/
import Derived.Test.YtnbgklfnaagklaaGreatDoorXV
import Derived.KernelRfl
set_option linter.unusedVariables false
set_option linter.unusedSimpArgs false
namespace Go.Proofs.YtnbgklfnaagklaaGreatDoor.K
open Go Go.X Go.Proofs
theorem k21 : callOK (KK E21) H0 1346 e21.1 e21.2.1 e21.2.2 = true := by kernel_rfl
theorem k25 : callOK (KK E25) H0 1010 e25.1 e25.2.1 e25.2.2 = true := by kernel_rfl
theorem k40_0_0 : callOKP (KK E40) H0 1413858 e40.1 e40.2.1 e40.2.2 [(0, 6, 46), (0, 5, 46)] = true := by kernel_rfl
theorem k40_2_1 : callOKP (KK E40) H0 1413858 e40.1 e40.2.1 e40.2.2 [(2, 6, 46), (1, 5, 46)] = true := by kernel_rfl
theorem k40_5_2 : callOKP (KK E40) H0 1413858 e40.1 e40.2.1 e40.2.2 [(5, 6, 46), (2, 5, 46)] = true := by kernel_rfl
theorem k58 : callOK (KK E58) H0 3990 e58.1 e58.2.1 e58.2.2 = true := by kernel_rfl
end Go.Proofs.YtnbgklfnaagklaaGreatDoor.K
