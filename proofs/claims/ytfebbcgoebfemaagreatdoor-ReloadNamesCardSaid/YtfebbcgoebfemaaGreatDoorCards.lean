/-
  DERIVED. GIVEN WITH THE SEED: THE CARDS: each row of YtfebbcgoebfemaaGreatDoorRows.lean that lists a variable, with what it lists TIED to the program's text (the seventh form; the later family's looks); each row that meets fmt, with fmt's text TOLD by the authors' own Lean function (tested against real Go, not proved from fmt's source: count such statements apart). THE CARD IS WHAT COUNTS. Prove the row's statement (the work); the ties are given (YtfebbcgoebfemaaGreatDoorTie.lean); close each card by the builder's one call (the guide's Derived/Test/ToyasCard.lean, 'card_holds'). Laid BY PROGRAM, IN A SANDBOX (cutbox-door.mjs). By AI agents, Wed Nov 11 2026. No macro, syntax, notation, axiom, sorry.
-/
import Derived.Test.YtfebbcgoebfemaaGreatDoorRows
import GoSem.ClaimSeven
namespace Go.Proofs.YtfebbcgoebfemaaGreatDoor
namespace Rows

/-- THE TIED CARD OF 'fescuelaw31.ReloadNames'. -/
def reloadNamesCard : Claim7 := { stood := { row := reloadNamesRow, standIns := [], harness := (true, "684bca6afca7acb251b361923bbad50a8f2cc75b097a751a6ac8211fd9dafb78"), looks := true }, kinds := [], alts := [], laidByText := true, laidKinds := [.data, .data], laidTests := true, laidLooks := .later }
def ReloadNamesCardSaid : Prop := Claim7.holds Tryz.pinned (.plain (OpenSpec.ofChange reloadNamesSpec)) reloadNamesCard

/-- THE SECOND FORM's CARD OF 'fescuelaw31.ReloadNames'. -/
def reloadNamesUptoCard : Claim7 := { stood := { row := reloadNamesUptoRow, standIns := [], harness := (true, "684bca6afca7acb251b361923bbad50a8f2cc75b097a751a6ac8211fd9dafb78"), looks := true }, kinds := [], alts := [], laidByText := true, laidKinds := [.data, .data], laidTests := true, laidLooks := .later }
def ReloadNamesUptoCardSaid : Prop := Claim7.holds Tryz.pinned (.plain (OpenSpec.upto reloadNamesSpec)) reloadNamesUptoCard
end Rows
end Go.Proofs.YtfebbcgoebfemaaGreatDoor
