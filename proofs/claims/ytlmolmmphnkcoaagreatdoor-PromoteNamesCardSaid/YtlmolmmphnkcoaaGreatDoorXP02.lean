/- Runs of the interpreter: batch 2. Conditions: none. -/
import Derived.Test.YtlmolmmphnkcoaaGreatDoorXV
import Derived.KernelRfl
set_option linter.unusedVariables false
set_option linter.unusedSimpArgs false
namespace Go.Proofs.YtlmolmmphnkcoaaGreatDoor.K
open Go Go.X Go.Proofs
theorem k16 : callOK (KK E16) H0 10204 e16.1 e16.2.1 e16.2.2 = true := by kernel_rfl
theorem k22 : callOK (KJ E22) H0 76906 e22.1 e22.2.1 e22.2.2 = true := by kernel_rfl
theorem k23 : callOK (KK E23) H0 2848 e23.1 e23.2.1 e23.2.2 = true := by kernel_rfl
theorem k36 : callOK (KK E36) H0 1000 e36.1 e36.2.1 e36.2.2 = true := by kernel_rfl
theorem k42 : callOK (KK E42) H0 1346 e42.1 e42.2.1 e42.2.2 = true := by kernel_rfl
theorem k74 : callOK (KK E74) H0 6418 e74.1 e74.2.1 e74.2.2 = true := by kernel_rfl
theorem k95 : callOK (KK E95) H0 1010 e95.1 e95.2.1 e95.2.2 = true := by kernel_rfl
end Go.Proofs.YtlmolmmphnkcoaaGreatDoor.K
