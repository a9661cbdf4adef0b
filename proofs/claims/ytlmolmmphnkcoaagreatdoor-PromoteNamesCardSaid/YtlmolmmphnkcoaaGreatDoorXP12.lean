/- Runs of the interpreter: batch 12. Conditions: none. -/
import Derived.Test.YtlmolmmphnkcoaaGreatDoorXV
import Derived.KernelRfl
set_option linter.unusedVariables false
set_option linter.unusedSimpArgs false
namespace Go.Proofs.YtlmolmmphnkcoaaGreatDoor.K
open Go Go.X Go.Proofs
theorem k1 : callOK (KK E1) H0 3514 e1.1 e1.2.1 e1.2.2 = true := by kernel_rfl
theorem k20 : callOK (KK E20) H0 10204 e20.1 e20.2.1 e20.2.2 = true := by kernel_rfl
theorem k59 : callOK (KK E59) H0 5586 e59.1 e59.2.1 e59.2.2 = true := by kernel_rfl
theorem k69 : callOK (KK E69) H0 1346 e69.1 e69.2.1 e69.2.2 = true := by kernel_rfl
theorem k87 : callOK (KK E87) H0 28024 e87.1 e87.2.1 e87.2.2 = true := by kernel_rfl
theorem k90 : callOK (KK E90) H0 34740 e90.1 e90.2.1 e90.2.2 = true := by kernel_rfl
theorem k98 : callOK (KK E98) H0 1000 e98.1 e98.2.1 e98.2.2 = true := by kernel_rfl
theorem k109 : callOK (KK E109) H0 14036 e109.1 e109.2.1 e109.2.2 = true := by kernel_rfl
end Go.Proofs.YtlmolmmphnkcoaaGreatDoor.K
