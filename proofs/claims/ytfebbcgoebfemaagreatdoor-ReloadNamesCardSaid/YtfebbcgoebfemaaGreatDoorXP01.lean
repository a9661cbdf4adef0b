/- Runs of the interpreter: batch 1. Conditions: none. -/
import Derived.Test.YtfebbcgoebfemaaGreatDoorXV
import Derived.KernelRfl
set_option linter.unusedVariables false
set_option linter.unusedSimpArgs false
namespace Go.Proofs.YtfebbcgoebfemaaGreatDoor.K
open Go Go.X Go.Proofs
theorem k10 : callOK (KK E10) H0 1346 e10.1 e10.2.1 e10.2.2 = true := by kernel_rfl
theorem k18 : callOK (KK E18) H0 8934 e18.1 e18.2.1 e18.2.2 = true := by kernel_rfl
theorem k47 : callOK (KK E47) H0 1652 e47.1 e47.2.1 e47.2.2 = true := by kernel_rfl
theorem k61 : callOK (KK E61) H0 1010 e61.1 e61.2.1 e61.2.2 = true := by kernel_rfl
theorem k70 : callOK (KK E70) H0 1218 e70.1 e70.2.1 e70.2.2 = true := by kernel_rfl
theorem k73 : callOK (KK E73) H0 13910 e73.1 e73.2.1 e73.2.2 = true := by kernel_rfl
theorem k107 : callOK (KK E107) H0 1346 e107.1 e107.2.1 e107.2.2 = true := by kernel_rfl
theorem k139 : callOK (KK E139) H0 2412 e139.1 e139.2.1 e139.2.2 = true := by kernel_rfl
theorem k142 : callOK (KK E142) H0 6874 e142.1 e142.2.1 e142.2.2 = true := by kernel_rfl
theorem k143 : callOK (KK E143) H0 5014 e143.1 e143.2.1 e143.2.2 = true := by kernel_rfl
theorem k149 : callOK (KK E149) H0 1652 e149.1 e149.2.1 e149.2.2 = true := by kernel_rfl
theorem k154 : callOK (KK E154) H0 1010 e154.1 e154.2.1 e154.2.2 = true := by kernel_rfl
theorem k156 : callOK (KK E156) H0 17520 e156.1 e156.2.1 e156.2.2 = true := by kernel_rfl
theorem k161 : callOK (KK E161) H0 92332 e161.1 e161.2.1 e161.2.2 = true := by kernel_rfl
end Go.Proofs.YtfebbcgoebfemaaGreatDoor.K
