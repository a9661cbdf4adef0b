/- Runs of the interpreter: batch 0. Conditions: none. -/
import Derived.Test.YtfebbcgoebfemaaGreatDoorXV
import Derived.KernelRfl
set_option linter.unusedVariables false
set_option linter.unusedSimpArgs false
namespace Go.Proofs.YtfebbcgoebfemaaGreatDoor.K
open Go Go.X Go.Proofs
theorem k23 : callOK (KK E23) H0 1346 e23.1 e23.2.1 e23.2.2 = true := by kernel_rfl
theorem k37 : callOK (KK E37) H0 95562 e37.1 e37.2.1 e37.2.2 = true := by kernel_rfl
theorem k50 : callOK (KK E50) H0 1652 e50.1 e50.2.1 e50.2.2 = true := by kernel_rfl
theorem k56 : callOK (KK E56) H0 4876 e56.1 e56.2.1 e56.2.2 = true := by kernel_rfl
theorem k75 : callOK (KK E75) H0 8394 e75.1 e75.2.1 e75.2.2 = true := by kernel_rfl
theorem k81 : callOK (KK E81) H0 1010 e81.1 e81.2.1 e81.2.2 = true := by kernel_rfl
theorem k87 : callOK (KK E87) H0 1216 e87.1 e87.2.1 e87.2.2 = true := by kernel_rfl
theorem k102 : callOK (KK E102) H0 6102 e102.1 e102.2.1 e102.2.2 = true := by kernel_rfl
theorem k110 : callOK (KK E110) H0 1346 e110.1 e110.2.1 e110.2.2 = true := by kernel_rfl
theorem k113 : callOK (KK E113) H0 16528 e113.1 e113.2.1 e113.2.2 = true := by kernel_rfl
theorem k117 : callOK (KK E117) H0 1000 e117.1 e117.2.1 e117.2.2 = true := by kernel_rfl
theorem k152 : callOK (KK E152) H0 1652 e152.1 e152.2.1 e152.2.2 = true := by kernel_rfl
theorem k178 : callOK (KK E178) H0 13632 e178.1 e178.2.1 e178.2.2 = true := by kernel_rfl
theorem k180 : callOK (KK E180) H0 2016 e180.1 e180.2.1 e180.2.2 = true := by kernel_rfl
end Go.Proofs.YtfebbcgoebfemaaGreatDoor.K
