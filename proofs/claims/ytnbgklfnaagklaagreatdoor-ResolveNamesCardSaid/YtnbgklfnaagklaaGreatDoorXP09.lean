/- Runs of the interpreter: batch 9. Conditions: none. -/
import Derived.Test.YtnbgklfnaagklaaGreatDoorXV
import Derived.KernelRfl
set_option linter.unusedVariables false
set_option linter.unusedSimpArgs false
namespace Go.Proofs.YtnbgklfnaagklaaGreatDoor.K
open Go Go.X Go.Proofs
theorem k9 : callOK (KK E9) H0 1652 e9.1 e9.2.1 e9.2.2 = true := by kernel_rfl
theorem k28 : callOK (KK E28) H0 1010 e28.1 e28.2.1 e28.2.2 = true := by kernel_rfl
theorem k40_0_4 : callOKP (KK E40) H0 1413858 e40.1 e40.2.1 e40.2.2 [(0, 6, 46), (4, 5, 46)] = true := by kernel_rfl
theorem k40_3_0 : callOKP (KK E40) H0 1413858 e40.1 e40.2.1 e40.2.2 [(3, 6, 46), (0, 5, 46)] = true := by kernel_rfl
theorem k41 : callOK (KK E41) H0 6512 e41.1 e41.2.1 e41.2.2 = true := by kernel_rfl
theorem k61 : callOK (KK E61) H0 46256 e61.1 e61.2.1 e61.2.2 = true := by kernel_rfl
theorem k71 : callOK (KK E71) H0 1652 e71.1 e71.2.1 e71.2.2 = true := by kernel_rfl
end Go.Proofs.YtnbgklfnaagklaaGreatDoor.K
