/- Runs of the interpreter: batch 6. Conditions: none. -/
import Derived.Test.YtlmolmmphnkcoaaGreatDoorXV
import Derived.KernelRfl
set_option linter.unusedVariables false
set_option linter.unusedSimpArgs false
namespace Go.Proofs.YtlmolmmphnkcoaaGreatDoor.K
open Go Go.X Go.Proofs
theorem k3 : callOK (KK E3) H0 50160 e3.1 e3.2.1 e3.2.2 = true := by kernel_rfl
theorem k15 : callOK (KK E15) H0 1000 e15.1 e15.2.1 e15.2.2 = true := by kernel_rfl
theorem k19 : callOK (KK E19) H0 10204 e19.1 e19.2.1 e19.2.2 = true := by kernel_rfl
theorem k29 : callOK (KK E29) H0 5722 e29.1 e29.2.1 e29.2.2 = true := by kernel_rfl
theorem k45 : callOK (KK E45) H0 1346 e45.1 e45.2.1 e45.2.2 = true := by kernel_rfl
theorem k62 : callOK (KK E62) H0 15538 e62.1 e62.2.1 e62.2.2 = true := by kernel_rfl
theorem k64 : callOK (KK E64) H0 11000 e64.1 e64.2.1 e64.2.2 = true := by kernel_rfl
theorem k99 : callOK (KK E99) H0 3376 e99.1 e99.2.1 e99.2.2 = true := by kernel_rfl
end Go.Proofs.YtlmolmmphnkcoaaGreatDoor.K
