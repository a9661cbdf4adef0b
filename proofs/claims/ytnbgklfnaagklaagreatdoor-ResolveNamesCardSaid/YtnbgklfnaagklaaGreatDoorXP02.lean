/- Runs of the interpreter: batch 2. Conditions: none. -/
import Derived.Test.YtnbgklfnaagklaaGreatDoorXV
import Derived.KernelRfl
set_option linter.unusedVariables false
set_option linter.unusedSimpArgs false
namespace Go.Proofs.YtnbgklfnaagklaaGreatDoor.K
open Go Go.X Go.Proofs
theorem k32 : callOK (KK E32) H0 4006 e32.1 e32.2.1 e32.2.2 = true := by kernel_rfl
theorem k33 : callOK (KK E33) H0 25546 e33.1 e33.2.1 e33.2.2 = true := by kernel_rfl
theorem k40_4_4 : callOKP (KK E40) H0 1413858 e40.1 e40.2.1 e40.2.2 [(4, 6, 46), (4, 5, 46)] = true := by kernel_rfl
theorem k48 : callOK (KK E48) H0 1010 e48.1 e48.2.1 e48.2.2 = true := by kernel_rfl
theorem k76 : callOK (KK E76) H0 1506 e76.1 e76.2.1 e76.2.2 = true := by kernel_rfl
theorem k79 : callOK (KK E79) H0 6586 e79.1 e79.2.1 e79.2.2 = true := by kernel_rfl
theorem k81 : callOK (KK E81) H0 69578 e81.1 e81.2.1 e81.2.2 = true := by kernel_rfl
end Go.Proofs.YtnbgklfnaagklaaGreatDoor.K
