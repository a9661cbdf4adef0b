/- Runs of the interpreter: batch 9. Conditions: none. -/
import Derived.Test.YtfebbcgoebfemaaGreatDoorXV
import Derived.KernelRfl
set_option linter.unusedVariables false
set_option linter.unusedSimpArgs false
namespace Go.Proofs.YtfebbcgoebfemaaGreatDoor.K
open Go Go.X Go.Proofs
theorem k9 : callOK (KK E9) H0 1652 e9.1 e9.2.1 e9.2.2 = true := by kernel_rfl
theorem k24 : callOK (KK E24) H0 1010 e24.1 e24.2.1 e24.2.2 = true := by kernel_rfl
theorem k33 : callOK (KK E33) H0 1442 e33.1 e33.2.1 e33.2.2 = true := by kernel_rfl
theorem k38 : callOK (KK E38) H0 1000 e38.1 e38.2.1 e38.2.2 = true := by kernel_rfl
theorem k43 : callOK (KK E43) H0 5598 e43.1 e43.2.1 e43.2.2 = true := by kernel_rfl
theorem k63 : callOK (KK E63) H0 1346 e63.1 e63.2.1 e63.2.2 = true := by kernel_rfl
theorem k68 : callOK (KK E68) H0 3242 e68.1 e68.2.1 e68.2.2 = true := by kernel_rfl
theorem k74 : callOK (KK E74) H0 37932 e74.1 e74.2.1 e74.2.2 = true := by kernel_rfl
theorem k83 : callOK (KK E83) H0 20520 e83.1 e83.2.1 e83.2.2 = true := by kernel_rfl
theorem k97 : callOK (KK E97) H0 1652 e97.1 e97.2.1 e97.2.2 = true := by kernel_rfl
theorem k111 : callOK (KK E111) H0 1010 e111.1 e111.2.1 e111.2.2 = true := by kernel_rfl
theorem k133 : callOK (KK E133) H0 15192 e133.1 e133.2.1 e133.2.2 = true := by kernel_rfl
theorem k136 : callOK (KK E136) H0 46726 e136.1 e136.2.1 e136.2.2 = true := by kernel_rfl
theorem k146 : callOK (KK E146) H0 7390 e146.1 e146.2.1 e146.2.2 = true := by kernel_rfl
theorem k160 : callOK (KK E160) H0 9596 e160.1 e160.2.1 e160.2.2 = true := by kernel_rfl
theorem k169 : callOK (KK E169) H0 1346 e169.1 e169.2.1 e169.2.2 = true := by kernel_rfl
end Go.Proofs.YtfebbcgoebfemaaGreatDoor.K
