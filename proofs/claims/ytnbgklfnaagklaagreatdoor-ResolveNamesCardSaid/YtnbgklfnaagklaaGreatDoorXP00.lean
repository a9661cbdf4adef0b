/- Runs of the interpreter: batch 0. Conditions: none. -/
import Derived.Test.YtnbgklfnaagklaaGreatDoorXV
import Derived.KernelRfl
set_option linter.unusedVariables false
set_option linter.unusedSimpArgs false
namespace Go.Proofs.YtnbgklfnaagklaaGreatDoor.K
open Go Go.X Go.Proofs
theorem k23 : callOK (KK E23) H0 1652 e23.1 e23.2.1 e23.2.2 = true := by kernel_rfl
theorem k35 : callOK (KK E35) H0 5900 e35.1 e35.2.1 e35.2.2 = true := by kernel_rfl
theorem k40_5_1 : callOKP (KK E40) H0 1413858 e40.1 e40.2.1 e40.2.2 [(5, 6, 46), (1, 5, 46)] = true := by kernel_rfl
theorem k47 : callOK (KK E47) H0 1346 e47.1 e47.2.1 e47.2.2 = true := by kernel_rfl
theorem k73 : callOK (KK E73) H0 1010 e73.1 e73.2.1 e73.2.2 = true := by kernel_rfl
theorem k78 : callOK (KK E78) H0 98810 e78.1 e78.2.1 e78.2.2 = true := by kernel_rfl
end Go.Proofs.YtnbgklfnaagklaaGreatDoor.K
