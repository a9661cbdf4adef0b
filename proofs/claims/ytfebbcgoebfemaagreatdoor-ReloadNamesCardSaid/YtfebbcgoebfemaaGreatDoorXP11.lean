/- Runs of the interpreter: batch 11. Conditions: none. -/
import Derived.Test.YtfebbcgoebfemaaGreatDoorXV
import Derived.KernelRfl
set_option linter.unusedVariables false
set_option linter.unusedSimpArgs false
namespace Go.Proofs.YtfebbcgoebfemaaGreatDoor.K
open Go Go.X Go.Proofs
theorem k7 : callOK (KK E7) H0 1346 e7.1 e7.2.1 e7.2.2 = true := by kernel_rfl
theorem k27 : callOK (KK E27) H0 1010 e27.1 e27.2.1 e27.2.2 = true := by kernel_rfl
theorem k31 : callOK (KK E31) H0 1652 e31.1 e31.2.1 e31.2.2 = true := by kernel_rfl
theorem k41 : callOK (KK E41) H0 1000 e41.1 e41.2.1 e41.2.2 = true := by kernel_rfl
theorem k44 : callOK (KK E44) H0 38392 e44.1 e44.2.1 e44.2.2 = true := by kernel_rfl
theorem k51 : callOK (KK E51) H0 13672 e51.1 e51.2.1 e51.2.2 = true := by kernel_rfl
theorem k71 : callOK (KK E71) H0 2078 e71.1 e71.2.1 e71.2.2 = true := by kernel_rfl
theorem k72 : callOK (KK E72) H0 42908 e72.1 e72.2.1 e72.2.2 = true := by kernel_rfl
theorem k95 : callOK (KK E95) H0 1346 e95.1 e95.2.1 e95.2.2 = true := by kernel_rfl
theorem k100 : callOK (KK E100) H0 4882 e100.1 e100.2.1 e100.2.2 = true := by kernel_rfl
theorem k114 : callOK (KK E114) H0 1262 e114.1 e114.2.1 e114.2.2 = true := by kernel_rfl
theorem k121 : callOK (KK E121) H0 28870 e121.1 e121.2.1 e121.2.2 = true := by kernel_rfl
theorem k125 : callOK (KK E125) H0 1010 e125.1 e125.2.1 e125.2.2 = true := by kernel_rfl
theorem k129 : callOK (KK E129) H0 1652 e129.1 e129.2.1 e129.2.2 = true := by kernel_rfl
theorem k138 : callOK (KK E138) H0 6816 e138.1 e138.2.1 e138.2.2 = true := by kernel_rfl
theorem k145 : callOK (KK E145) H0 8904 e145.1 e145.2.1 e145.2.2 = true := by kernel_rfl
end Go.Proofs.YtfebbcgoebfemaaGreatDoor.K
