/- Runs of the interpreter: batch 12. Conditions: none. -/
import Derived.Test.YtnbgklfnaagklaaGreatDoorXV
import Derived.KernelRfl
set_option linter.unusedVariables false
set_option linter.unusedSimpArgs false
namespace Go.Proofs.YtnbgklfnaagklaaGreatDoor.K
open Go Go.X Go.Proofs
theorem k11 : callOK (KK E11) H0 1010 e11.1 e11.2.1 e11.2.2 = true := by kernel_rfl
theorem k20 : callOK (KK E20) H0 35540 e20.1 e20.2.1 e20.2.2 = true := by kernel_rfl
theorem k30 : callOK (KK E30) H0 13936 e30.1 e30.2.1 e30.2.2 = true := by kernel_rfl
theorem k40_1_2 : callOKP (KK E40) H0 1413858 e40.1 e40.2.1 e40.2.2 [(1, 6, 46), (2, 5, 46)] = true := by kernel_rfl
theorem k40_3_3 : callOKP (KK E40) H0 1413858 e40.1 e40.2.1 e40.2.2 [(3, 6, 46), (3, 5, 46)] = true := by kernel_rfl
theorem k55 : callOK (KK E55) H0 1652 e55.1 e55.2.1 e55.2.2 = true := by kernel_rfl
theorem k60 : callOK (KK E60) H0 4858 e60.1 e60.2.1 e60.2.2 = true := by kernel_rfl
end Go.Proofs.YtnbgklfnaagklaaGreatDoor.K
