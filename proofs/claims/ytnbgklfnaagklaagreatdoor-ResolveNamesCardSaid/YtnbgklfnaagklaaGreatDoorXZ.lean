/- ResolveNames returns true: the tied card of its statement. Conditions: those of the given statement alone. -/
import Derived.Test.YtnbgklfnaagklaaGreatDoorXY
import Derived.Test.YtnbgklfnaagklaaGreatDoorXJ
import Derived.Test.YtnbgklfnaagklaaGreatDoorCards
import Derived.Test.YtnbgklfnaagklaaGreatDoorTie
import Derived.WalkKit
import Derived.ProofKit
import Derived.OpenShut
set_option linter.unusedVariables false
set_option linter.unusedSimpArgs false
namespace Go.Proofs.YtnbgklfnaagklaaGreatDoor
open Go Go.Proofs
open Go.ChangeShapes Go.WideShapes Go.ChangeAt Go.RowKit
set_option maxRecDepth 100000 in
theorem said : Rows.ResolveNamesSaid :=
  OpenClaim.holds_of_cond 3 Tryz.f3 rfl rfl rfl rfl rfl rfl rfl ⟨rfl, rfl, rfl, rfl, rfl⟩ rfl rfl rfl rfl rfl named Tryz.func3 joined inst wrap
    (fun os started H enc _ F => by rw [OpenClaim.pre_eq_preRow]; exact lifted os started H enc F)
theorem plain (f : FuncId) (fn : Func) (hf : Tryz.pinned.checked.prog.funcNamed "fescue/fescuelaw28.ResolveNames" = some f) (hfn : Tryz.pinned.checked.prog.funcs[f]? = some fn) :
    true = Tryz.pinned.checked.prog.looks [] ∧ ∀ (j : Nat) t, fn.params[j]? = some t → Tryz.pinned.checked.prog.wantsStandIn t = false := by
  obtain rfl : f = 3 := Option.some.inj (named.symm.trans hf) |>.symm
  obtain rfl : fn = Tryz.f3 := (Option.some.inj (Tryz.func3.symm.trans hfn)).symm
  have hp : Tryz.f3.params = #[] := by kernel_rfl
  refine ⟨looksAre, fun j t ht => ?_⟩
  rw [hp] at ht
  cases ht

/-- The card. -/
theorem card : Rows.ResolveNamesCardSaid :=
  Claim7.holds_tied_plain_at .later [] _ _ _ _ said (fun _ h => by cases h) wfText (fun _ h => by cases h) resolveNames_row_tie rfl ⟨rfl, rfl⟩ mainText rfl plain goesNot
end Go.Proofs.YtnbgklfnaagklaaGreatDoor
