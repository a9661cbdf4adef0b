/- Runs of the interpreter: batch 13. Conditions: none. -/
import Derived.Test.YtlmolmmphnkcoaaGreatDoorXV
import Derived.KernelRfl
set_option linter.unusedVariables false
set_option linter.unusedSimpArgs false
namespace Go.Proofs.YtlmolmmphnkcoaaGreatDoor.K
open Go Go.X Go.Proofs
theorem k13 : callOK (KK E13) H0 1000 e13.1 e13.2.1 e13.2.2 = true := by kernel_rfl
theorem k14 : callOK (KK E14) H0 5232 e14.1 e14.2.1 e14.2.2 = true := by kernel_rfl
theorem k21 : callOK (KK E21) H0 10204 e21.1 e21.2.1 e21.2.2 = true := by kernel_rfl
theorem k27 : callOK (KK E27) H0 14628 e27.1 e27.2.1 e27.2.2 = true := by kernel_rfl
theorem k39 : callOK (KK E39) H0 30702 e39.1 e39.2.1 e39.2.2 = true := by kernel_rfl
theorem k71 : callOK (KK E71) H0 1652 e71.1 e71.2.1 e71.2.2 = true := by kernel_rfl
theorem k72 : callOK (KK E72) H0 32006 e72.1 e72.2.1 e72.2.2 = true := by kernel_rfl
theorem k73 : callOK (KK E73) H0 1698 e73.1 e73.2.1 e73.2.2 = true := by kernel_rfl
theorem k75 : callOK (KK E75) H0 1030 e75.1 e75.2.1 e75.2.2 = true := by kernel_rfl
end Go.Proofs.YtlmolmmphnkcoaaGreatDoor.K
