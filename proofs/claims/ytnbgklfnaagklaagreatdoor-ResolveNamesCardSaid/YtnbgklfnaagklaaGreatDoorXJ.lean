/- The closed facts of the row. Conditions: those of the given statement alone. -/
import Derived.Test.YtnbgklfnaagklaaGreatDoorCards
import Derived.KernelRfl
import Derived.JoinedCond
import Derived.WalkKit
import Derived.ProofKit
set_option linter.unusedVariables false
set_option linter.unusedSimpArgs false
namespace Go.Proofs.YtnbgklfnaagklaaGreatDoor
open Go Go.Proofs
open Go.ChangeShapes Go.WideShapes Go.ChangeAt Go.RowKit
set_option maxRecDepth 100000
theorem and_i {a b : Bool} (h : a = true) (h' : b = true) : (a && b) = true := by rw [h, h']; rfl
theorem jOut : laidOutB Tryz.pinned.checked.prog = true := by kernel_rfl
theorem jRowed : mapsRowed Tryz.pinned.checked.prog = true := by kernel_rfl
theorem jPlace : (Rows.resolveNamesRow.inPlace == Tryz.pinned.checked.prog.inPlace 3) = true := by kernel_rfl
theorem jUnf : (Rows.resolveNamesRow.unfollowed == Tryz.pinned.checked.prog.unfollowed 3) = true := by kernel_rfl
theorem jRec : (Rows.resolveNamesRow.recurses == Tryz.pinned.checked.prog.recurses 3) = true := by kernel_rfl
theorem jNamed : (Rows.resolveNamesRow.named == Tryz.pinned.checked.prog.varsNamed 3) = true := by kernel_rfl
theorem jHeard : Tryz.pinned.checked.prog.stopsHeard = true := by kernel_rfl
theorem jMay : Tryz.pinned.checked.prog.mayEnter = true := by kernel_rfl
theorem joined : joinedFacts Tryz.pinned.checked.prog 3 Tryz.f3 (OpenSpec.ofChange Rows.resolveNamesSpec).bare Rows.resolveNamesRow = true := by
  delta joinedFacts
  exact and_i (and_i (and_i (and_i (and_i (and_i (and_i (and_i (and_i (and_i (and_i (and_i (and_i (and_i (and_i (and_i (and_i (and_i (and_i (and_i (and_i (and_i (and_i (and_i (and_i (and_i (and_i (and_i (and_i (and_i (and_i (by kernel_rfl) jOut) jRowed) (by kernel_rfl)) (by kernel_rfl)) (by kernel_rfl)) (by kernel_rfl)) (by kernel_rfl)) (by kernel_rfl)) jPlace) jUnf) jRec) jNamed) (by kernel_rfl)) (by kernel_rfl)) (by kernel_rfl)) (by kernel_rfl)) (by kernel_rfl)) (by kernel_rfl)) (by kernel_rfl)) (by kernel_rfl)) (by kernel_rfl)) (by kernel_rfl)) (by kernel_rfl)) jHeard) jMay) (by kernel_rfl)) (by kernel_rfl)) (by kernel_rfl)) (by kernel_rfl)) (by kernel_rfl)) (by kernel_rfl)
theorem named : Tryz.pinned.checked.prog.funcNamed Rows.resolveNamesRow.func = some 3 := by kernel_rfl
theorem wfText : Rows.resolveNamesRow.wfByText (OpenSpec.ofChange Rows.resolveNamesSpec) = true := by kernel_rfl
theorem goesNot : false = Rows.resolveNamesRow.goesBy Tryz.pinned.checked.prog := by kernel_rfl
theorem mainText : Tryz.pinned.checked.prog.mainIs = some (true, ("5c6d7958ade8767787ab587ffb46b94f3eb3912acaa3cc596a336cb9286a90fa" : String).toList) := by kernel_rfl
theorem looksAre : true = Tryz.pinned.checked.prog.looks [] := by kernel_rfl
theorem inst : Tryz.f3.isInstance Tryz.pinned.checked.prog Rows.resolveNamesRow.origin Rows.resolveNamesRow.targs := of_decide_eq_true (by kernel_rfl)
theorem wrap : Tryz.f3.isWrapper Tryz.pinned.checked.prog Rows.resolveNamesRow.wrapper Rows.resolveNamesRow.mainSum := by
  unfold Func.isWrapper; first | (rw [if_pos (by decide +kernel)]; kernel_rfl) | (rw [if_neg (by decide +kernel)]; exact ⟨rfl, rfl⟩)
end Go.Proofs.YtnbgklfnaagklaaGreatDoor
