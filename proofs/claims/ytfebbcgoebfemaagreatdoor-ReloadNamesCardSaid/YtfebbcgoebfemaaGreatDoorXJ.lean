/- The closed facts of the row. Conditions: those of the given statement alone. -/
import Derived.Test.YtfebbcgoebfemaaGreatDoorCards
import Derived.KernelRfl
import Derived.JoinedCond
import Derived.WalkKit
import Derived.ProofKit
set_option linter.unusedVariables false
set_option linter.unusedSimpArgs false
namespace Go.Proofs.YtfebbcgoebfemaaGreatDoor
open Go Go.Proofs
open Go.ChangeShapes Go.WideShapes Go.ChangeAt Go.RowKit
set_option maxRecDepth 100000
theorem and_i {a b : Bool} (h : a = true) (h' : b = true) : (a && b) = true := by rw [h, h']; rfl
theorem jOut : laidOutB Tryz.pinned.checked.prog = true := by kernel_rfl
theorem jRowed : mapsRowed Tryz.pinned.checked.prog = true := by kernel_rfl
theorem jPlace : (Rows.reloadNamesRow.inPlace == Tryz.pinned.checked.prog.inPlace 3) = true := by kernel_rfl
theorem jUnf : (Rows.reloadNamesRow.unfollowed == Tryz.pinned.checked.prog.unfollowed 3) = true := by kernel_rfl
theorem jRec : (Rows.reloadNamesRow.recurses == Tryz.pinned.checked.prog.recurses 3) = true := by kernel_rfl
theorem jNamed : (Rows.reloadNamesRow.named == Tryz.pinned.checked.prog.varsNamed 3) = true := by kernel_rfl
theorem jHeard : Tryz.pinned.checked.prog.stopsHeard = true := by kernel_rfl
theorem jMay : Tryz.pinned.checked.prog.mayEnter = true := by kernel_rfl
theorem joined : joinedFacts Tryz.pinned.checked.prog 3 Tryz.f3 (OpenSpec.ofChange Rows.reloadNamesSpec).bare Rows.reloadNamesRow = true := by
  delta joinedFacts
  exact and_i (and_i (and_i (and_i (and_i (and_i (and_i (and_i (and_i (and_i (and_i (and_i (and_i (and_i (and_i (and_i (and_i (and_i (and_i (and_i (and_i (and_i (and_i (and_i (and_i (and_i (and_i (and_i (and_i (and_i (and_i (by kernel_rfl) jOut) jRowed) (by kernel_rfl)) (by kernel_rfl)) (by kernel_rfl)) (by kernel_rfl)) (by kernel_rfl)) (by kernel_rfl)) jPlace) jUnf) jRec) jNamed) (by kernel_rfl)) (by kernel_rfl)) (by kernel_rfl)) (by kernel_rfl)) (by kernel_rfl)) (by kernel_rfl)) (by kernel_rfl)) (by kernel_rfl)) (by kernel_rfl)) (by kernel_rfl)) (by kernel_rfl)) jHeard) jMay) (by kernel_rfl)) (by kernel_rfl)) (by kernel_rfl)) (by kernel_rfl)) (by kernel_rfl)) (by kernel_rfl)
theorem named : Tryz.pinned.checked.prog.funcNamed Rows.reloadNamesRow.func = some 3 := by kernel_rfl
theorem wfText : Rows.reloadNamesRow.wfByText (OpenSpec.ofChange Rows.reloadNamesSpec) = true := by kernel_rfl
theorem goesNot : false = Rows.reloadNamesRow.goesBy Tryz.pinned.checked.prog := by kernel_rfl
theorem mainText : Tryz.pinned.checked.prog.mainIs = some (true, ("684bca6afca7acb251b361923bbad50a8f2cc75b097a751a6ac8211fd9dafb78" : String).toList) := by kernel_rfl
theorem looksAre : true = Tryz.pinned.checked.prog.looks [] := by kernel_rfl
theorem inst : Tryz.f3.isInstance Tryz.pinned.checked.prog Rows.reloadNamesRow.origin Rows.reloadNamesRow.targs := of_decide_eq_true (by kernel_rfl)
theorem wrap : Tryz.f3.isWrapper Tryz.pinned.checked.prog Rows.reloadNamesRow.wrapper Rows.reloadNamesRow.mainSum := by
  unfold Func.isWrapper; first | (rw [if_pos (by decide +kernel)]; kernel_rfl) | (rw [if_neg (by decide +kernel)]; exact ⟨rfl, rfl⟩)
end Go.Proofs.YtfebbcgoebfemaaGreatDoor
