/- Runs of the interpreter: batch 4. Conditions: none. -/
import Derived.Test.YtnbgklfnaagklaaGreatDoorXV
import Derived.KernelRfl
set_option linter.unusedVariables false
set_option linter.unusedSimpArgs false
namespace Go.Proofs.YtnbgklfnaagklaaGreatDoor.K
open Go Go.X Go.Proofs
theorem k12 : callOK (KK E12) H0 1652 e12.1 e12.2.1 e12.2.2 = true := by kernel_rfl
theorem k27 : callOK (KK E27) H0 1346 e27.1 e27.2.1 e27.2.2 = true := by kernel_rfl
theorem k37 : callOK (KK E37) H0 14812 e37.1 e37.2.1 e37.2.2 = true := by kernel_rfl
theorem k39 : callOK (KK E39) H0 5834 e39.1 e39.2.1 e39.2.2 = true := by kernel_rfl
theorem k40_4_2 : callOKP (KK E40) H0 1413858 e40.1 e40.2.1 e40.2.2 [(4, 6, 46), (2, 5, 46)] = true := by kernel_rfl
theorem k65 : callOK (KK E65) H0 55582 e65.1 e65.2.1 e65.2.2 = true := by kernel_rfl
theorem k70 : callOK (KK E70) H0 1010 e70.1 e70.2.1 e70.2.2 = true := by kernel_rfl
theorem k75 : callOK (KK E75) H0 27654 e75.1 e75.2.1 e75.2.2 = true := by kernel_rfl
end Go.Proofs.YtnbgklfnaagklaaGreatDoor.K
