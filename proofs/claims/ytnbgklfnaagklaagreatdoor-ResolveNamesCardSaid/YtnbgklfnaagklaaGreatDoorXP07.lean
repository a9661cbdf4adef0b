/- Runs of the interpreter: batch 7. Conditions: none. -/
import Derived.Test.YtnbgklfnaagklaaGreatDoorXV
import Derived.KernelRfl
set_option linter.unusedVariables false
set_option linter.unusedSimpArgs false
namespace Go.Proofs.YtnbgklfnaagklaaGreatDoor.K
open Go Go.X Go.Proofs
theorem k31 : callOK (KK E31) H0 1070 e31.1 e31.2.1 e31.2.2 = true := by kernel_rfl
theorem k40_0_2 : callOKP (KK E40) H0 1413858 e40.1 e40.2.1 e40.2.2 [(0, 6, 46), (2, 5, 46)] = true := by kernel_rfl
theorem k40_2_3 : callOKP (KK E40) H0 1413858 e40.1 e40.2.1 e40.2.2 [(2, 6, 46), (3, 5, 46)] = true := by kernel_rfl
theorem k40_5_4 : callOKP (KK E40) H0 1413858 e40.1 e40.2.1 e40.2.2 [(5, 6, 46), (4, 5, 46)] = true := by kernel_rfl
theorem k52 : callOK (KK E52) H0 1652 e52.1 e52.2.1 e52.2.2 = true := by kernel_rfl
theorem k66 : callOK (KK E66) H0 3590 e66.1 e66.2.1 e66.2.2 = true := by kernel_rfl
end Go.Proofs.YtnbgklfnaagklaaGreatDoor.K
