/- Runs of the interpreter: batch 10. Conditions: none. -/
import Derived.Test.YtnbgklfnaagklaaGreatDoorXV
import Derived.KernelRfl
set_option linter.unusedVariables false
set_option linter.unusedSimpArgs false
namespace Go.Proofs.YtnbgklfnaagklaaGreatDoor.K
open Go Go.X Go.Proofs
theorem k0 : callOK (KK E0) H0 43098 e0.1 e0.2.1 e0.2.2 = true := by kernel_rfl
theorem k24 : callOK (KK E24) H0 1346 e24.1 e24.2.1 e24.2.2 = true := by kernel_rfl
theorem k40_1_0 : callOKP (KK E40) H0 1413858 e40.1 e40.2.1 e40.2.2 [(1, 6, 46), (0, 5, 46)] = true := by kernel_rfl
theorem k40_3_1 : callOKP (KK E40) H0 1413858 e40.1 e40.2.1 e40.2.2 [(3, 6, 46), (1, 5, 46)] = true := by kernel_rfl
theorem k54 : callOK (KK E54) H0 1010 e54.1 e54.2.1 e54.2.2 = true := by kernel_rfl
theorem k67 : callOK (KK E67) H0 2442 e67.1 e67.2.1 e67.2.2 = true := by kernel_rfl
theorem k80 : callOK (KK E80) H0 9256 e80.1 e80.2.1 e80.2.2 = true := by kernel_rfl
end Go.Proofs.YtnbgklfnaagklaaGreatDoor.K
