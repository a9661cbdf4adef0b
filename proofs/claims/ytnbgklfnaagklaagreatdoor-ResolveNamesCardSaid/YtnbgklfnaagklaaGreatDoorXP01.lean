/- Runs of the interpreter: batch 1. Conditions: none. -/
import Derived.Test.YtnbgklfnaagklaaGreatDoorXV
import Derived.KernelRfl
set_option linter.unusedVariables false
set_option linter.unusedSimpArgs false
namespace Go.Proofs.YtnbgklfnaagklaaGreatDoor.K
open Go Go.X Go.Proofs
theorem k10 : callOK (KK E10) H0 1346 e10.1 e10.2.1 e10.2.2 = true := by kernel_rfl
theorem k22 : callOK (KK E22) H0 1010 e22.1 e22.2.1 e22.2.2 = true := by kernel_rfl
theorem k40_5_0 : callOKP (KK E40) H0 1413858 e40.1 e40.2.1 e40.2.2 [(5, 6, 46), (0, 5, 46)] = true := by kernel_rfl
theorem k42 : callOK (KK E42) H0 70240 e42.1 e42.2.1 e42.2.2 = true := by kernel_rfl
theorem k43 : callOK (KK E43) H0 22130 e43.1 e43.2.1 e43.2.2 = true := by kernel_rfl
theorem k64 : callOK (KK E64) H0 9286 e64.1 e64.2.1 e64.2.2 = true := by kernel_rfl
theorem k68 : callOK (KK E68) H0 4164 e68.1 e68.2.1 e68.2.2 = true := by kernel_rfl
end Go.Proofs.YtnbgklfnaagklaaGreatDoor.K
