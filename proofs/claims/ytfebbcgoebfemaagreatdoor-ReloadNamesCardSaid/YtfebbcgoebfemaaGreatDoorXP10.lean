/- Runs of the interpreter: batch 10. Conditions: none. -/
import Derived.Test.YtfebbcgoebfemaaGreatDoorXV
import Derived.KernelRfl
set_option linter.unusedVariables false
set_option linter.unusedSimpArgs false
namespace Go.Proofs.YtfebbcgoebfemaaGreatDoor.K
open Go Go.X Go.Proofs
theorem k21 : callOK (KK E21) H0 8106 e21.1 e21.2.1 e21.2.2 = true := by kernel_rfl
theorem k29 : callOK (KK E29) H0 1346 e29.1 e29.2.1 e29.2.2 = true := by kernel_rfl
theorem k65 : callOK (KK E65) H0 1652 e65.1 e65.2.1 e65.2.2 = true := by kernel_rfl
theorem k78 : callOK (KK E78) H0 1010 e78.1 e78.2.1 e78.2.2 = true := by kernel_rfl
theorem k103 : callOK (KK E103) H0 6680 e103.1 e103.2.1 e103.2.2 = true := by kernel_rfl
theorem k115 : callOK (KK E115) H0 4562 e115.1 e115.2.1 e115.2.2 = true := by kernel_rfl
theorem k123 : callOK (KK E123) H0 38310 e123.1 e123.2.1 e123.2.2 = true := by kernel_rfl
theorem k127 : callOK (KK E127) H0 1346 e127.1 e127.2.1 e127.2.2 = true := by kernel_rfl
theorem k130 : callOK (KK E130) H0 12954 e130.1 e130.2.1 e130.2.2 = true := by kernel_rfl
theorem k131 : callOK (KK E131) H0 1024 e131.1 e131.2.1 e131.2.2 = true := by kernel_rfl
theorem k135 : callOK (KK E135) H0 1982 e135.1 e135.2.1 e135.2.2 = true := by kernel_rfl
theorem k166 : callOK (KK E166) H0 28286 e166.1 e166.2.1 e166.2.2 = true := by kernel_rfl
theorem k171 : callOK (KK E171) H0 1652 e171.1 e171.2.1 e171.2.2 = true := by kernel_rfl
theorem k176 : callOK (KK E176) H0 1000 e176.1 e176.2.1 e176.2.2 = true := by kernel_rfl
theorem k181 : callOK (KK E181) H0 45940 e181.1 e181.2.1 e181.2.2 = true := by kernel_rfl
end Go.Proofs.YtfebbcgoebfemaaGreatDoor.K
