/- Runs of the interpreter: batch 3. Conditions: none. -/
import Derived.Test.YtfebbcgoebfemaaGreatDoorXV
import Derived.KernelRfl
set_option linter.unusedVariables false
set_option linter.unusedSimpArgs false
namespace Go.Proofs.YtfebbcgoebfemaaGreatDoor.K
open Go Go.X Go.Proofs
theorem k4 : callOK (KK E4) H0 1346 e4.1 e4.2.1 e4.2.2 = true := by kernel_rfl
theorem k17 : callOK (KK E17) H0 8934 e17.1 e17.2.1 e17.2.2 = true := by kernel_rfl
theorem k28 : callOK (KK E28) H0 1652 e28.1 e28.2.1 e28.2.2 = true := by kernel_rfl
theorem k42 : callOK (KK E42) H0 29300 e42.1 e42.2.1 e42.2.2 = true := by kernel_rfl
theorem k64 : callOK (KK E64) H0 1010 e64.1 e64.2.1 e64.2.2 = true := by kernel_rfl
theorem k77 : callOK (KK E77) H0 1346 e77.1 e77.2.1 e77.2.2 = true := by kernel_rfl
theorem k85 : callOK (KK E85) H0 5202 e85.1 e85.2.1 e85.2.2 = true := by kernel_rfl
theorem k90 : callOK (KK E90) H0 15570 e90.1 e90.2.1 e90.2.2 = true := by kernel_rfl
theorem k126 : callOK (KK E126) H0 1652 e126.1 e126.2.1 e126.2.2 = true := by kernel_rfl
theorem k132 : callOK (KK E132) H0 3656 e132.1 e132.2.1 e132.2.2 = true := by kernel_rfl
theorem k141 : callOK (KK E141) H0 18984 e141.1 e141.2.1 e141.2.2 = true := by kernel_rfl
theorem k144 : callOK (KK E144) H0 8106 e144.1 e144.2.1 e144.2.2 = true := by kernel_rfl
theorem k157 : callOK (KK E157) H0 1338 e157.1 e157.2.1 e157.2.2 = true := by kernel_rfl
theorem k164 : callOK (KK E164) H0 56732 e164.1 e164.2.1 e164.2.2 = true := by kernel_rfl
theorem k170 : callOK (KK E170) H0 1010 e170.1 e170.2.1 e170.2.2 = true := by kernel_rfl
end Go.Proofs.YtfebbcgoebfemaaGreatDoor.K
