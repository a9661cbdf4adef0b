/- Runs of the interpreter: batch 5. Conditions: none. -/
import Derived.Test.YtlmolmmphnkcoaaGreatDoorXV
import Derived.KernelRfl
set_option linter.unusedVariables false
set_option linter.unusedSimpArgs false
namespace Go.Proofs.YtlmolmmphnkcoaaGreatDoor.K
open Go Go.X Go.Proofs
theorem k4 : callOK (KK E4) H0 1346 e4.1 e4.2.1 e4.2.2 = true := by kernel_rfl
theorem k25 : callOK (KK E25) H0 1000 e25.1 e25.2.1 e25.2.2 = true := by kernel_rfl
theorem k35 : callOK (KK E35) H0 1000 e35.1 e35.2.1 e35.2.2 = true := by kernel_rfl
theorem k58 : callOK (KK E58) H0 5564 e58.1 e58.2.1 e58.2.2 = true := by kernel_rfl
theorem k60 : callOK (KK E60) H0 8768 e60.1 e60.2.1 e60.2.2 = true := by kernel_rfl
theorem k63 : callOK (KK E63) H0 51924 e63.1 e63.2.1 e63.2.2 = true := by kernel_rfl
theorem k67 : callOK (KK E67) H0 2442 e67.1 e67.2.1 e67.2.2 = true := by kernel_rfl
theorem k70 : callOK (KK E70) H0 1010 e70.1 e70.2.1 e70.2.2 = true := by kernel_rfl
theorem k80 : callOK (KK E80) H0 15514 e80.1 e80.2.1 e80.2.2 = true := by kernel_rfl
theorem k82 : callOK (KK E82) H0 11000 e82.1 e82.2.1 e82.2.2 = true := by kernel_rfl
end Go.Proofs.YtlmolmmphnkcoaaGreatDoor.K
