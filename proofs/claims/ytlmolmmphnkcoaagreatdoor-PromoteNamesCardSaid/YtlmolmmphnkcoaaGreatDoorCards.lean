/-
  DERIVED. GIVEN WITH THE SEED: THE CARDS: each row of YtlmolmmphnkcoaaGreatDoorRows.lean that lists a variable, with what it lists TIED to the program's text (the seventh form; the later family's looks); each row that meets fmt, with fmt's text TOLD by the authors' own Lean function (tested against real Go, not proved from fmt's source: count such statements apart). THE CARD IS WHAT COUNTS. Prove the row's statement (the work); the ties are given (YtlmolmmphnkcoaaGreatDoorTie.lean); close each card by the builder's one call (the guide's Derived/Test/ToyasCard.lean, 'card_holds'). Laid BY PROGRAM, IN A SANDBOX (cutbox-door.mjs). By AI agents, Wed Nov 11 2026. No macro, syntax, notation, axiom, sorry.
-/
import Derived.Test.YtlmolmmphnkcoaaGreatDoorRows
import GoSem.ClaimSeven
namespace Go.Proofs.YtlmolmmphnkcoaaGreatDoor
namespace Rows

/-- THE TIED CARD OF 'fescuelaw29.PromoteNames'. -/
def promoteNamesCard : Claim7 := { stood := { row := promoteNamesRow, standIns := [], harness := (true, "6513ccc4cf45a7ce4e744bb4e36556450bf44a786ae5f246d32d4951b4d75631"), looks := true }, kinds := [], alts := [], laidByText := true, laidKinds := [.data, .data], laidTests := true, laidLooks := .later }
def PromoteNamesCardSaid : Prop := Claim7.holds Tryz.pinned (.plain (OpenSpec.ofChange promoteNamesSpec)) promoteNamesCard

/-- THE SECOND FORM's CARD OF 'fescuelaw29.PromoteNames'. -/
def promoteNamesUptoCard : Claim7 := { stood := { row := promoteNamesUptoRow, standIns := [], harness := (true, "6513ccc4cf45a7ce4e744bb4e36556450bf44a786ae5f246d32d4951b4d75631"), looks := true }, kinds := [], alts := [], laidByText := true, laidKinds := [.data, .data], laidTests := true, laidLooks := .later }
def PromoteNamesUptoCardSaid : Prop := Claim7.holds Tryz.pinned (.plain (OpenSpec.upto promoteNamesSpec)) promoteNamesUptoCard
end Rows
end Go.Proofs.YtlmolmmphnkcoaaGreatDoor
