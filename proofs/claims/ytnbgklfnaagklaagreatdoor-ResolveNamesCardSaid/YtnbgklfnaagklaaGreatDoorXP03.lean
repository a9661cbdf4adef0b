/- Runs of the interpreter: batch 3. Conditions: none. -/
import Derived.Test.YtnbgklfnaagklaaGreatDoorXV
import Derived.KernelRfl
set_option linter.unusedVariables false
set_option linter.unusedSimpArgs false
namespace Go.Proofs.YtnbgklfnaagklaaGreatDoor.K
open Go Go.X Go.Proofs
theorem k3 : callOK (KK E3) H0 56608 e3.1 e3.2.1 e3.2.2 = true := by kernel_rfl
theorem k13 : callOK (KK E13) H0 27282 e13.1 e13.2.1 e13.2.2 = true := by kernel_rfl
theorem k14 : callOK (KK E14) H0 1000 e14.1 e14.2.1 e14.2.2 = true := by kernel_rfl
theorem k16 : callOK (KK E16) H0 1000 e16.1 e16.2.1 e16.2.2 = true := by kernel_rfl
theorem k26 : callOK (KK E26) H0 1652 e26.1 e26.2.1 e26.2.2 = true := by kernel_rfl
theorem k40_4_3 : callOKP (KK E40) H0 1413858 e40.1 e40.2.1 e40.2.2 [(4, 6, 46), (3, 5, 46)] = true := by kernel_rfl
theorem k53 : callOK (KK E53) H0 1346 e53.1 e53.2.1 e53.2.2 = true := by kernel_rfl
theorem k62 : callOK (KK E62) H0 14622 e62.1 e62.2.1 e62.2.2 = true := by kernel_rfl
theorem k77 : callOK (KK E77) H0 5818 e77.1 e77.2.1 e77.2.2 = true := by kernel_rfl
end Go.Proofs.YtnbgklfnaagklaaGreatDoor.K
