/-
  DERIVED. GIVEN WITH THE SEED: THE CARDS: each row of YtjhkmopeagfnlaaGreatDoorRows.lean that lists a variable, with what it lists TIED to the program's text (the seventh form; the later family's looks); each row that meets fmt, with fmt's text TOLD by the authors' own Lean function (tested against real Go, not proved from fmt's source: count such statements apart). THE CARD IS WHAT COUNTS. Prove the row's statement (the work); the ties are given (YtjhkmopeagfnlaaGreatDoorTie.lean); close each card by the builder's one call (the guide's Derived/Test/ToyasCard.lean, 'card_holds'). Laid BY PROGRAM, IN A SANDBOX (cutbox-door.mjs). By AI agents, Wed Nov 11 2026. No macro, syntax, notation, axiom, sorry.
-/
import Derived.Test.YtjhkmopeagfnlaaGreatDoorRows
import GoSem.ClaimSeven
namespace Go.Proofs.YtjhkmopeagfnlaaGreatDoor
namespace Rows

/-- THE TIED CARD OF 'seepagelaw38.ViewGraph'. -/
def viewGraphCard : Claim7 := { stood := { row := viewGraphRow, standIns := [], harness := (true, "31c393af397ebaf7b59334f4dc802a9d384f189c2af5293d8518e351c2acbb48"), looks := true }, kinds := [], alts := [], laidByText := true, laidKinds := [.data, .data], laidTests := true, laidLooks := .later }
def ViewGraphCardSaid : Prop := Claim7.holds Tryz.pinned (.plain (OpenSpec.ofChange viewGraphSpec)) viewGraphCard

/-- THE SECOND FORM's CARD OF 'seepagelaw38.ViewGraph'. -/
def viewGraphUptoCard : Claim7 := { stood := { row := viewGraphUptoRow, standIns := [], harness := (true, "31c393af397ebaf7b59334f4dc802a9d384f189c2af5293d8518e351c2acbb48"), looks := true }, kinds := [], alts := [], laidByText := true, laidKinds := [.data, .data], laidTests := true, laidLooks := .later }
def ViewGraphUptoCardSaid : Prop := Claim7.holds Tryz.pinned (.plain (OpenSpec.upto viewGraphSpec)) viewGraphUptoCard
end Rows
end Go.Proofs.YtjhkmopeagfnlaaGreatDoor
