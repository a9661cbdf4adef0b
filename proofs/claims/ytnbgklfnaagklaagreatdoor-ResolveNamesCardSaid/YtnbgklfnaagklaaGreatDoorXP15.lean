/- Runs of the interpreter: batch 15. Conditions: none. -/
import Derived.Test.YtnbgklfnaagklaaGreatDoorXV
import Derived.KernelRfl
set_option linter.unusedVariables false
set_option linter.unusedSimpArgs false
namespace Go.Proofs.YtnbgklfnaagklaaGreatDoor.K
open Go Go.X Go.Proofs
theorem k6 : callOK (KK E6) H0 4164 e6.1 e6.2.1 e6.2.2 = true := by kernel_rfl
theorem k40_2_0 : callOKP (KK E40) H0 1413858 e40.1 e40.2.1 e40.2.2 [(2, 6, 46), (0, 5, 46)] = true := by kernel_rfl
theorem k40_4_1 : callOKP (KK E40) H0 1413858 e40.1 e40.2.1 e40.2.2 [(4, 6, 46), (1, 5, 46)] = true := by kernel_rfl
theorem k44 : callOK (KK E44) H0 28464 e44.1 e44.2.1 e44.2.2 = true := by kernel_rfl
theorem k51 : callOK (KK E51) H0 1010 e51.1 e51.2.1 e51.2.2 = true := by kernel_rfl
theorem k74 : callOK (KK E74) H0 1652 e74.1 e74.2.1 e74.2.2 = true := by kernel_rfl
theorem k82 : callOK (KK E82) H0 21828 e82.1 e82.2.1 e82.2.2 = true := by kernel_rfl
end Go.Proofs.YtnbgklfnaagklaaGreatDoor.K
