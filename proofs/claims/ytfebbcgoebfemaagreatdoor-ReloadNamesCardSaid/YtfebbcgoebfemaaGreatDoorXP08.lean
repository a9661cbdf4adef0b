/- Runs of the interpreter: batch 8. Conditions: none. -/
import Derived.Test.YtfebbcgoebfemaaGreatDoorXV
import Derived.KernelRfl
set_option linter.unusedVariables false
set_option linter.unusedSimpArgs false
namespace Go.Proofs.YtfebbcgoebfemaaGreatDoor.K
open Go Go.X Go.Proofs
theorem k1 : callOK (KK E1) H0 3166 e1.1 e1.2.1 e1.2.2 = true := by kernel_rfl
theorem k2 : callOK (KK E2) H0 7424 e2.1 e2.2.1 e2.2.2 = true := by kernel_rfl
theorem k3 : callOK (KK E3) H0 47898 e3.1 e3.2.1 e3.2.2 = true := by kernel_rfl
theorem k6 : callOK (KK E6) H0 1652 e6.1 e6.2.1 e6.2.2 = true := by kernel_rfl
theorem k11 : callOK (KK E11) H0 1010 e11.1 e11.2.1 e11.2.2 = true := by kernel_rfl
theorem k20 : callOK (KK E20) H0 37674 e20.1 e20.2.1 e20.2.2 = true := by kernel_rfl
theorem k32 : callOK (KK E32) H0 19532 e32.1 e32.2.1 e32.2.2 = true := by kernel_rfl
theorem k39 : callOK (KK E39) H0 1000 e39.1 e39.2.1 e39.2.2 = true := by kernel_rfl
theorem k57 : callOK (KK E57) H0 5598 e57.1 e57.2.1 e57.2.2 = true := by kernel_rfl
theorem k58 : callOK (KK E58) H0 9386 e58.1 e58.2.1 e58.2.2 = true := by kernel_rfl
theorem k60 : callOK (KK E60) H0 1346 e60.1 e60.2.1 e60.2.2 = true := by kernel_rfl
theorem k84 : callOK (KK E84) H0 1470 e84.1 e84.2.1 e84.2.2 = true := by kernel_rfl
theorem k94 : callOK (KK E94) H0 1652 e94.1 e94.2.1 e94.2.2 = true := by kernel_rfl
theorem k108 : callOK (KK E108) H0 1010 e108.1 e108.2.1 e108.2.2 = true := by kernel_rfl
theorem k137 : callOK (KK E137) H0 15466 e137.1 e137.2.1 e137.2.2 = true := by kernel_rfl
theorem k153 : callOK (KK E153) H0 1346 e153.1 e153.2.1 e153.2.2 = true := by kernel_rfl
end Go.Proofs.YtfebbcgoebfemaaGreatDoor.K
