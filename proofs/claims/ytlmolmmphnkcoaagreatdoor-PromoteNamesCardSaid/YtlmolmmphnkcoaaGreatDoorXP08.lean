/- Runs of the interpreter: batch 8. Conditions: none. -/
import Derived.Test.YtlmolmmphnkcoaaGreatDoorXV
import Derived.KernelRfl
set_option linter.unusedVariables false
set_option linter.unusedSimpArgs false
namespace Go.Proofs.YtlmolmmphnkcoaaGreatDoor.K
open Go Go.X Go.Proofs
theorem k8 : callOK (KK E8) H0 1010 e8.1 e8.2.1 e8.2.2 = true := by kernel_rfl
theorem k17 : callOK (KK E17) H0 10204 e17.1 e17.2.1 e17.2.2 = true := by kernel_rfl
theorem k28 : callOK (KK E28) H0 6374 e28.1 e28.2.1 e28.2.2 = true := by kernel_rfl
theorem k32 : callOK (KK E32) H0 17474 e32.1 e32.2.1 e32.2.2 = true := by kernel_rfl
theorem k37 : callOK (KK E37) H0 1000 e37.1 e37.2.1 e37.2.2 = true := by kernel_rfl
theorem k44 : callOK (KK E44) H0 1652 e44.1 e44.2.1 e44.2.2 = true := by kernel_rfl
theorem k78 : callOK (KK E78) H0 45518 e78.1 e78.2.1 e78.2.2 = true := by kernel_rfl
theorem k81 : callOK (KK E81) H0 1000 e81.1 e81.2.1 e81.2.2 = true := by kernel_rfl
theorem k102 : callOK (KK E102) H0 1520 e102.1 e102.2.1 e102.2.2 = true := by kernel_rfl
theorem k103 : callOK (KK E103) H0 13474 e103.1 e103.2.1 e103.2.2 = true := by kernel_rfl
end Go.Proofs.YtlmolmmphnkcoaaGreatDoor.K
