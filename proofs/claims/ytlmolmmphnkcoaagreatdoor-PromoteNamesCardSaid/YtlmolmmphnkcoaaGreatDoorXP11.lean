/- Runs of the interpreter: batch 11. Conditions: none. -/
import Derived.Test.YtlmolmmphnkcoaaGreatDoorXV
import Derived.KernelRfl
set_option linter.unusedVariables false
set_option linter.unusedSimpArgs false
namespace Go.Proofs.YtlmolmmphnkcoaaGreatDoor.K
open Go Go.X Go.Proofs
theorem k0 : callOK (KK E0) H0 34872 e0.1 e0.2.1 e0.2.2 = true := by kernel_rfl
theorem k9 : callOK (KK E9) H0 1652 e9.1 e9.2.1 e9.2.2 = true := by kernel_rfl
theorem k33 : callOK (KK E33) H0 1000 e33.1 e33.2.1 e33.2.2 = true := by kernel_rfl
theorem k46 : callOK (KK E46) H0 1010 e46.1 e46.2.1 e46.2.2 = true := by kernel_rfl
theorem k54 : callOK (KK E54) H0 15284 e54.1 e54.2.1 e54.2.2 = true := by kernel_rfl
theorem k55 : callOK (KK E55) H0 1000 e55.1 e55.2.1 e55.2.2 = true := by kernel_rfl
theorem k88 : callOK (KK E88) H0 27634 e88.1 e88.2.1 e88.2.2 = true := by kernel_rfl
theorem k96 : callOK (KK E96) H0 1652 e96.1 e96.2.1 e96.2.2 = true := by kernel_rfl
theorem k101 : callOK (KK E101) H0 9684 e101.1 e101.2.1 e101.2.2 = true := by kernel_rfl
theorem k106 : callOK (KK E106) H0 5458 e106.1 e106.2.1 e106.2.2 = true := by kernel_rfl
end Go.Proofs.YtlmolmmphnkcoaaGreatDoor.K
