/- Runs of the interpreter: batch 1. Conditions: none. -/
import Derived.Test.YtlmolmmphnkcoaaGreatDoorXV
import Derived.KernelRfl
set_option linter.unusedVariables false
set_option linter.unusedSimpArgs false
namespace Go.Proofs.YtlmolmmphnkcoaaGreatDoor.K
open Go Go.X Go.Proofs
theorem k5 : callOK (KK E5) H0 1010 e5.1 e5.2.1 e5.2.2 = true := by kernel_rfl
theorem k53 : callOK (KK E53) H0 1520 e53.1 e53.2.1 e53.2.2 = true := by kernel_rfl
theorem k68 : callOK (KK E68) H0 3962 e68.1 e68.2.1 e68.2.2 = true := by kernel_rfl
theorem k86 : callOK (KK E86) H0 84624 e86.1 e86.2.1 e86.2.2 = true := by kernel_rfl
theorem k105 : callOK (KK E105) H0 7298 e105.1 e105.2.1 e105.2.2 = true := by kernel_rfl
theorem k110 : callOK (KK E110) H0 1000 3 [] (.sc (.bool true)) = true := by kernel_rfl
end Go.Proofs.YtlmolmmphnkcoaaGreatDoor.K
