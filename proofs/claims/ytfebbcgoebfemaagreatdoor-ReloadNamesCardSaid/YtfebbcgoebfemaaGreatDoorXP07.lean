/- Runs of the interpreter: batch 7. Conditions: none. -/
import Derived.Test.YtfebbcgoebfemaaGreatDoorXV
import Derived.KernelRfl
set_option linter.unusedVariables false
set_option linter.unusedSimpArgs false
namespace Go.Proofs.YtfebbcgoebfemaaGreatDoor.K
open Go Go.X Go.Proofs
theorem k0 : callOK (KK E0) H0 35490 e0.1 e0.2.1 e0.2.2 = true := by kernel_rfl
theorem k13 : callOK (KK E13) H0 18502 e13.1 e13.2.1 e13.2.2 = true := by kernel_rfl
theorem k22 : callOK (KK E22) H0 51938 e22.1 e22.2.1 e22.2.2 = true := by kernel_rfl
theorem k25 : callOK (KK E25) H0 1652 e25.1 e25.2.1 e25.2.2 = true := by kernel_rfl
theorem k30 : callOK (KK E30) H0 1010 e30.1 e30.2.1 e30.2.2 = true := by kernel_rfl
theorem k36 : callOK (KK E36) H0 10258 e36.1 e36.2.1 e36.2.2 = true := by kernel_rfl
theorem k40 : callOK (KK E40) H0 1000 e40.1 e40.2.1 e40.2.2 = true := by kernel_rfl
theorem k88 : callOK (KK E88) H0 7292 e88.1 e88.2.1 e88.2.2 = true := by kernel_rfl
theorem k92 : callOK (KK E92) H0 1346 e92.1 e92.2.1 e92.2.2 = true := by kernel_rfl
theorem k99 : callOK (KK E99) H0 1366 e99.1 e99.2.1 e99.2.2 = true := by kernel_rfl
theorem k112 : callOK (KK E112) H0 1652 e112.1 e112.2.1 e112.2.2 = true := by kernel_rfl
theorem k122 : callOK (KK E122) H0 5534 e122.1 e122.2.1 e122.2.2 = true := by kernel_rfl
theorem k128 : callOK (KK E128) H0 1010 e128.1 e128.2.1 e128.2.2 = true := by kernel_rfl
theorem k162 : callOK (KK E162) H0 1292 e162.1 e162.2.1 e162.2.2 = true := by kernel_rfl
theorem k175 : callOK (KK E175) H0 13934 e175.1 e175.2.1 e175.2.2 = true := by kernel_rfl
theorem k177 : callOK (KK E177) H0 3530 e177.1 e177.2.1 e177.2.2 = true := by kernel_rfl
end Go.Proofs.YtfebbcgoebfemaaGreatDoor.K
