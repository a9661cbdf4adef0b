/- Runs of the interpreter: batch 7. Conditions: none. -/
import Derived.Test.YtlmolmmphnkcoaaGreatDoorXV
import Derived.KernelRfl
set_option linter.unusedVariables false
set_option linter.unusedSimpArgs false
namespace Go.Proofs.YtlmolmmphnkcoaaGreatDoor.K
open Go Go.X Go.Proofs
theorem k11 : callOK (KK E11) H0 1366 e11.1 e11.2.1 e11.2.2 = true := by kernel_rfl
theorem k18 : callOK (KK E18) H0 10204 e18.1 e18.2.1 e18.2.2 = true := by kernel_rfl
theorem k47 : callOK (KK E47) H0 1652 e47.1 e47.2.1 e47.2.2 = true := by kernel_rfl
theorem k49 : callOK (KK E49) H0 1128 e49.1 e49.2.1 e49.2.2 = true := by kernel_rfl
theorem k56 : callOK (KK E56) H0 6246 e56.1 e56.2.1 e56.2.2 = true := by kernel_rfl
theorem k61 : callOK (KK E61) H0 48054 e61.1 e61.2.1 e61.2.2 = true := by kernel_rfl
theorem k83 : callOK (KK E83) H0 17210 e83.1 e83.2.1 e83.2.2 = true := by kernel_rfl
theorem k85 : callOK (KK E85) H0 11332 e85.1 e85.2.1 e85.2.2 = true := by kernel_rfl
theorem k100 : callOK (KK E100) H0 1000 e100.1 e100.2.1 e100.2.2 = true := by kernel_rfl
end Go.Proofs.YtlmolmmphnkcoaaGreatDoor.K
