/- Runs of the interpreter: batch 2. Conditions: none. -/
import Derived.Test.YtfebbcgoebfemaaGreatDoorXV
import Derived.KernelRfl
set_option linter.unusedVariables false
set_option linter.unusedSimpArgs false
namespace Go.Proofs.YtfebbcgoebfemaaGreatDoor.K
open Go Go.X Go.Proofs
theorem k8 : callOK (KK E8) H0 1010 e8.1 e8.2.1 e8.2.2 = true := by kernel_rfl
theorem k15 : callOK (KK E15) H0 1000 e15.1 e15.2.1 e15.2.2 = true := by kernel_rfl
theorem k35 : callOK (KK E35) H0 10258 e35.1 e35.2.1 e35.2.2 = true := by kernel_rfl
theorem k48 : callOK (KK E48) H0 1346 e48.1 e48.2.1 e48.2.2 = true := by kernel_rfl
theorem k82 : callOK (KK E82) H0 1652 e82.1 e82.2.1 e82.2.2 = true := by kernel_rfl
theorem k91 : callOK (KK E91) H0 7678 e91.1 e91.2.1 e91.2.2 = true := by kernel_rfl
theorem k96 : callOK (KK E96) H0 1010 e96.1 e96.2.1 e96.2.2 = true := by kernel_rfl
theorem k98 : callOK (KK E98) H0 18524 e98.1 e98.2.1 e98.2.2 = true := by kernel_rfl
theorem k118 : callOK (KK E118) H0 2686 e118.1 e118.2.1 e118.2.2 = true := by kernel_rfl
theorem k140 : callOK (KK E140) H0 57710 e140.1 e140.2.1 e140.2.2 = true := by kernel_rfl
theorem k150 : callOK (KK E150) H0 1346 e150.1 e150.2.1 e150.2.2 = true := by kernel_rfl
theorem k158 : callOK (KK E158) H0 5446 e158.1 e158.2.1 e158.2.2 = true := by kernel_rfl
theorem k172 : callOK (KK E172) H0 1918 e172.1 e172.2.1 e172.2.2 = true := by kernel_rfl
theorem k179 : callOK (KK E179) H0 1498 e179.1 e179.2.1 e179.2.2 = true := by kernel_rfl
theorem k182 : callOK (KK E182) H0 14396 e182.1 e182.2.1 e182.2.2 = true := by kernel_rfl
theorem k183 : callOK (KK E183) H0 29034 3 [] (.sc (.bool true)) = true := by kernel_rfl
end Go.Proofs.YtfebbcgoebfemaaGreatDoor.K
