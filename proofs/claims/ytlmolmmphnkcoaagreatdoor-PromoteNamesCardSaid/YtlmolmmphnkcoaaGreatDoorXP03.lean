/- Runs of the interpreter: batch 3. Conditions: none. -/
import Derived.Test.YtlmolmmphnkcoaaGreatDoorXV
import Derived.KernelRfl
set_option linter.unusedVariables false
set_option linter.unusedSimpArgs false
namespace Go.Proofs.YtlmolmmphnkcoaaGreatDoor.K
open Go Go.X Go.Proofs
theorem k7 : callOK (KK E7) H0 1346 e7.1 e7.2.1 e7.2.2 = true := by kernel_rfl
theorem k26 : callOK (KK E26) H0 7738 e26.1 e26.2.1 e26.2.2 = true := by kernel_rfl
theorem k38 : callOK (KK E38) H0 1000 e38.1 e38.2.1 e38.2.2 = true := by kernel_rfl
theorem k52 : callOK (KK E52) H0 10580 e52.1 e52.2.1 e52.2.2 = true := by kernel_rfl
theorem k65 : callOK (KK E65) H0 73084 e65.1 e65.2.1 e65.2.2 = true := by kernel_rfl
theorem k89 : callOK (KK E89) H0 4852 e89.1 e89.2.1 e89.2.2 = true := by kernel_rfl
theorem k92 : callOK (KK E92) H0 1010 e92.1 e92.2.1 e92.2.2 = true := by kernel_rfl
end Go.Proofs.YtlmolmmphnkcoaaGreatDoor.K
