/- Runs of the interpreter: batch 9. Conditions: none. -/
import Derived.Test.YtlmolmmphnkcoaaGreatDoorXV
import Derived.KernelRfl
set_option linter.unusedVariables false
set_option linter.unusedSimpArgs false
namespace Go.Proofs.YtlmolmmphnkcoaaGreatDoor.K
open Go Go.X Go.Proofs
theorem k10 : callOK (KK E10) H0 18280 e10.1 e10.2.1 e10.2.2 = true := by kernel_rfl
theorem k12 : callOK (KK E12) H0 1000 e12.1 e12.2.1 e12.2.2 = true := by kernel_rfl
theorem k30 : callOK (KK E30) H0 12012 e30.1 e30.2.1 e30.2.2 = true := by kernel_rfl
theorem k50 : callOK (KK E50) H0 3940 e50.1 e50.2.1 e50.2.2 = true := by kernel_rfl
theorem k76 : callOK (KK E76) H0 10312 e76.1 e76.2.1 e76.2.2 = true := by kernel_rfl
theorem k94 : callOK (KK E94) H0 1346 e94.1 e94.2.1 e94.2.2 = true := by kernel_rfl
theorem k107 : callOK (KK E107) H0 6736 e107.1 e107.2.1 e107.2.2 = true := by kernel_rfl
theorem k108 : callOK (KK E108) H0 44898 e108.1 e108.2.1 e108.2.2 = true := by kernel_rfl
end Go.Proofs.YtlmolmmphnkcoaaGreatDoor.K
