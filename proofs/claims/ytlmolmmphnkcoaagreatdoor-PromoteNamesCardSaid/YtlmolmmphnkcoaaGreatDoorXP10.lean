/- Runs of the interpreter: batch 10. Conditions: none. -/
import Derived.Test.YtlmolmmphnkcoaaGreatDoorXV
import Derived.KernelRfl
set_option linter.unusedVariables false
set_option linter.unusedSimpArgs false
namespace Go.Proofs.YtlmolmmphnkcoaaGreatDoor.K
open Go Go.X Go.Proofs
theorem k24 : callOK (KK E24) H0 23316 e24.1 e24.2.1 e24.2.2 = true := by kernel_rfl
theorem k41 : callOK (KK E41) H0 40576 e41.1 e41.2.1 e41.2.2 = true := by kernel_rfl
theorem k51 : callOK (KK E51) H0 1000 e51.1 e51.2.1 e51.2.2 = true := by kernel_rfl
theorem k66 : callOK (KK E66) H0 3590 e66.1 e66.2.1 e66.2.2 = true := by kernel_rfl
theorem k77 : callOK (KK E77) H0 10312 e77.1 e77.2.1 e77.2.2 = true := by kernel_rfl
theorem k84 : callOK (KK E84) H0 6608 e84.1 e84.2.1 e84.2.2 = true := by kernel_rfl
theorem k91 : callOK (KK E91) H0 1346 e91.1 e91.2.1 e91.2.2 = true := by kernel_rfl
theorem k97 : callOK (KK E97) H0 11708 e97.1 e97.2.1 e97.2.2 = true := by kernel_rfl
end Go.Proofs.YtlmolmmphnkcoaaGreatDoor.K
