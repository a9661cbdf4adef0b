/- Runs of the interpreter: batch 6. Conditions: none. -/
import Derived.Test.YtfebbcgoebfemaaGreatDoorXV
import Derived.KernelRfl
set_option linter.unusedVariables false
set_option linter.unusedSimpArgs false
namespace Go.Proofs.YtfebbcgoebfemaaGreatDoor.K
open Go Go.X Go.Proofs
theorem k5 : callOK (KK E5) H0 1010 e5.1 e5.2.1 e5.2.2 = true := by kernel_rfl
theorem k16 : callOK (KK E16) H0 5154 e16.1 e16.2.1 e16.2.2 = true := by kernel_rfl
theorem k45 : callOK (KK E45) H0 1346 e45.1 e45.2.1 e45.2.2 = true := by kernel_rfl
theorem k55 : callOK (KK E55) H0 1524 e55.1 e55.2.1 e55.2.2 = true := by kernel_rfl
theorem k66 : callOK (KK E66) H0 11676 e66.1 e66.2.1 e66.2.2 = true := by kernel_rfl
theorem k67 : callOK (KK E67) H0 1000 e67.1 e67.2.1 e67.2.2 = true := by kernel_rfl
theorem k79 : callOK (KK E79) H0 1652 e79.1 e79.2.1 e79.2.2 = true := by kernel_rfl
theorem k93 : callOK (KK E93) H0 1010 e93.1 e93.2.1 e93.2.2 = true := by kernel_rfl
theorem k105 : callOK (KK E105) H0 14010 e105.1 e105.2.1 e105.2.2 = true := by kernel_rfl
theorem k106 : callOK (KK E106) H0 6962 e106.1 e106.2.1 e106.2.2 = true := by kernel_rfl
theorem k119 : callOK (KK E119) H0 52406 e119.1 e119.2.1 e119.2.2 = true := by kernel_rfl
theorem k120 : callOK (KK E120) H0 18512 e120.1 e120.2.1 e120.2.2 = true := by kernel_rfl
theorem k134 : callOK (KK E134) H0 1682 e134.1 e134.2.1 e134.2.2 = true := by kernel_rfl
theorem k147 : callOK (KK E147) H0 1346 e147.1 e147.2.1 e147.2.2 = true := by kernel_rfl
theorem k163 : callOK (KK E163) H0 2636 e163.1 e163.2.1 e163.2.2 = true := by kernel_rfl
theorem k168 : callOK (KK E168) H0 34528 e168.1 e168.2.1 e168.2.2 = true := by kernel_rfl
end Go.Proofs.YtfebbcgoebfemaaGreatDoor.K
