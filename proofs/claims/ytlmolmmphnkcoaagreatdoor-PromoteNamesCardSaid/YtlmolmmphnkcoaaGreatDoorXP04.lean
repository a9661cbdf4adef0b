/- Runs of the interpreter: batch 4. Conditions: none. -/
import Derived.Test.YtlmolmmphnkcoaaGreatDoorXV
import Derived.KernelRfl
set_option linter.unusedVariables false
set_option linter.unusedSimpArgs false
namespace Go.Proofs.YtlmolmmphnkcoaaGreatDoor.K
open Go Go.X Go.Proofs
theorem k2 : callOK (KK E2) H0 7738 e2.1 e2.2.1 e2.2.2 = true := by kernel_rfl
theorem k6 : callOK (KK E6) H0 1652 e6.1 e6.2.1 e6.2.2 = true := by kernel_rfl
theorem k31 : callOK (KK E31) H0 53008 e31.1 e31.2.1 e31.2.2 = true := by kernel_rfl
theorem k34 : callOK (KK E34) H0 1000 e34.1 e34.2.1 e34.2.2 = true := by kernel_rfl
theorem k40 : callOK (KK E40) H0 6246 e40.1 e40.2.1 e40.2.2 = true := by kernel_rfl
theorem k43 : callOK (KK E43) H0 1010 e43.1 e43.2.1 e43.2.2 = true := by kernel_rfl
theorem k48 : callOK (KK E48) H0 15300 e48.1 e48.2.1 e48.2.2 = true := by kernel_rfl
theorem k57 : callOK (KK E57) H0 10640 e57.1 e57.2.1 e57.2.2 = true := by kernel_rfl
theorem k93 : callOK (KK E93) H0 1652 e93.1 e93.2.1 e93.2.2 = true := by kernel_rfl
theorem k104 : callOK (KK E104) H0 1000 e104.1 e104.2.1 e104.2.2 = true := by kernel_rfl
end Go.Proofs.YtlmolmmphnkcoaaGreatDoor.K
