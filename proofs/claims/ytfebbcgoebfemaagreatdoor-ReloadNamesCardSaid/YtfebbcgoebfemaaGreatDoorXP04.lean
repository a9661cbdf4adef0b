/- Runs of the interpreter: batch 4. Conditions: none. -/
import Derived.Test.YtfebbcgoebfemaaGreatDoorXV
import Derived.KernelRfl
set_option linter.unusedVariables false
set_option linter.unusedSimpArgs false
namespace Go.Proofs.YtfebbcgoebfemaaGreatDoor.K
open Go Go.X Go.Proofs
theorem k26 : callOK (KK E26) H0 1346 e26.1 e26.2.1 e26.2.2 = true := by kernel_rfl
theorem k34 : callOK (KK E34) H0 5766 e34.1 e34.2.1 e34.2.2 = true := by kernel_rfl
theorem k46 : callOK (KK E46) H0 1010 e46.1 e46.2.1 e46.2.2 = true := by kernel_rfl
theorem k52 : callOK (KK E52) H0 1024 e52.1 e52.2.1 e52.2.2 = true := by kernel_rfl
theorem k59 : callOK (KK E59) H0 4882 e59.1 e59.2.1 e59.2.2 = true := by kernel_rfl
theorem k62 : callOK (KK E62) H0 1652 e62.1 e62.2.1 e62.2.2 = true := by kernel_rfl
theorem k69 : callOK (KK E69) H0 13572 e69.1 e69.2.1 e69.2.2 = true := by kernel_rfl
theorem k76 : callOK (KK E76) H0 54994 e76.1 e76.2.1 e76.2.2 = true := by kernel_rfl
theorem k89 : callOK (KK E89) H0 8394 e89.1 e89.2.1 e89.2.2 = true := by kernel_rfl
theorem k101 : callOK (KK E101) H0 29530 e101.1 e101.2.1 e101.2.2 = true := by kernel_rfl
theorem k116 : callOK (KK E116) H0 27280 e116.1 e116.2.1 e116.2.2 = true := by kernel_rfl
theorem k124 : callOK (KK E124) H0 1346 e124.1 e124.2.1 e124.2.2 = true := by kernel_rfl
theorem k148 : callOK (KK E148) H0 1010 e148.1 e148.2.1 e148.2.2 = true := by kernel_rfl
theorem k155 : callOK (KK E155) H0 1652 e155.1 e155.2.1 e155.2.2 = true := by kernel_rfl
theorem k174 : callOK (KK E174) H0 2350 e174.1 e174.2.1 e174.2.2 = true := by kernel_rfl
end Go.Proofs.YtfebbcgoebfemaaGreatDoor.K
