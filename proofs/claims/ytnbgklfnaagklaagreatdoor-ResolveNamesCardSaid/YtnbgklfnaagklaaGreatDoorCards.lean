/-
  DERIVED. GIVEN WITH THE SEED: THE CARDS: each row of YtnbgklfnaagklaaGreatDoorRows.lean that lists a variable, with what it lists TIED to the program's text (the seventh form; the later family's looks); each row that meets fmt, with fmt's text TOLD by the authors' own Lean function (tested against real Go, not proved from fmt's source: count such statements apart). THE CARD IS WHAT COUNTS. Prove the row's statement (the work); the ties are given (YtnbgklfnaagklaaGreatDoorTie.lean); close each card by the builder's one call (the guide's Derived/Test/ToyasCard.lean, 'card_holds'). Laid BY PROGRAM, IN A SANDBOX (cutbox-door.mjs). By AI agents, Wed Nov 11 2026. No macro, syntax, notation, axiom, sorry.
-/
import Derived.Test.YtnbgklfnaagklaaGreatDoorRows
import GoSem.ClaimSeven
namespace Go.Proofs.YtnbgklfnaagklaaGreatDoor
namespace Rows

/-- THE TIED CARD OF 'fescuelaw28.ResolveNames'. -/
def resolveNamesCard : Claim7 := { stood := { row := resolveNamesRow, standIns := [], harness := (true, "5c6d7958ade8767787ab587ffb46b94f3eb3912acaa3cc596a336cb9286a90fa"), looks := true }, kinds := [], alts := [], laidByText := true, laidKinds := [.data, .data], laidTests := true, laidLooks := .later }
def ResolveNamesCardSaid : Prop := Claim7.holds Tryz.pinned (.plain (OpenSpec.ofChange resolveNamesSpec)) resolveNamesCard

/-- THE SECOND FORM's CARD OF 'fescuelaw28.ResolveNames'. -/
def resolveNamesUptoCard : Claim7 := { stood := { row := resolveNamesUptoRow, standIns := [], harness := (true, "5c6d7958ade8767787ab587ffb46b94f3eb3912acaa3cc596a336cb9286a90fa"), looks := true }, kinds := [], alts := [], laidByText := true, laidKinds := [.data, .data], laidTests := true, laidLooks := .later }
def ResolveNamesUptoCardSaid : Prop := Claim7.holds Tryz.pinned (.plain (OpenSpec.upto resolveNamesSpec)) resolveNamesUptoCard
end Rows
end Go.Proofs.YtnbgklfnaagklaaGreatDoor
