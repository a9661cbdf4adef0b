/- Runs of the interpreter: batch 5. Conditions: none. -/
import Derived.Test.YtfebbcgoebfemaaGreatDoorXV
import Derived.KernelRfl
set_option linter.unusedVariables false
set_option linter.unusedSimpArgs false
namespace Go.Proofs.YtfebbcgoebfemaaGreatDoor.K
open Go Go.X Go.Proofs
theorem k12 : callOK (KK E12) H0 1652 e12.1 e12.2.1 e12.2.2 = true := by kernel_rfl
theorem k14 : callOK (KK E14) H0 1308 e14.1 e14.2.1 e14.2.2 = true := by kernel_rfl
theorem k19 : callOK (KK E19) H0 54540 e19.1 e19.2.1 e19.2.2 = true := by kernel_rfl
theorem k49 : callOK (KK E49) H0 1010 e49.1 e49.2.1 e49.2.2 = true := by kernel_rfl
theorem k53 : callOK (KK E53) H0 3562 e53.1 e53.2.1 e53.2.2 = true := by kernel_rfl
theorem k54 : callOK (KK E54) H0 15192 e54.1 e54.2.1 e54.2.2 = true := by kernel_rfl
theorem k80 : callOK (KK E80) H0 1346 e80.1 e80.2.1 e80.2.2 = true := by kernel_rfl
theorem k86 : callOK (KK E86) H0 31920 e86.1 e86.2.1 e86.2.2 = true := by kernel_rfl
theorem k104 : callOK (KK E104) H0 7678 e104.1 e104.2.1 e104.2.2 = true := by kernel_rfl
theorem k109 : callOK (KK E109) H0 1652 e109.1 e109.2.1 e109.2.2 = true := by kernel_rfl
theorem k151 : callOK (KK E151) H0 1010 e151.1 e151.2.1 e151.2.2 = true := by kernel_rfl
theorem k159 : callOK (KK E159) H0 9596 e159.1 e159.2.1 e159.2.2 = true := by kernel_rfl
theorem k165 : callOK (KK E165) H0 18676 e165.1 e165.2.1 e165.2.2 = true := by kernel_rfl
theorem k167 : callOK (KK E167) H0 5266 e167.1 e167.2.1 e167.2.2 = true := by kernel_rfl
theorem k173 : callOK (KK E173) H0 1408 e173.1 e173.2.1 e173.2.2 = true := by kernel_rfl
end Go.Proofs.YtfebbcgoebfemaaGreatDoor.K
