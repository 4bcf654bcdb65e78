/-
  DERIVED. GIVEN WITH THE SEED: THE CARDS: each row of YtkgehjpepjaliaaGreatDoorRows.lean that lists a variable, with what it lists TIED to the program's text (the seventh form; the later family's looks); each row that meets fmt, with fmt's text TOLD by the authors' own Lean function (tested against real Go, not proved from fmt's source: count such statements apart). THE CARD IS WHAT COUNTS. Prove the row's statement (the work); the ties are given (YtkgehjpepjaliaaGreatDoorTie.lean); close each card by the builder's one call (the guide's Derived/Test/ToyasCard.lean, 'card_holds'). Laid BY PROGRAM, IN A SANDBOX (cutbox-door.mjs). By AI agents, Wed Nov 11 2026. No macro, syntax, notation, axiom, sorry.
-/
import Derived.Test.YtkgehjpepjaliaaGreatDoorRows
import GoSem.ClaimSeven
namespace Go.Proofs.YtkgehjpepjaliaaGreatDoor
namespace Rows

/-- THE TIED CARD OF 'seepagelaw42.EngineNil'. -/
def engineNilCard : Claim7 := { stood := { row := engineNilRow, standIns := [], harness := (true, "7b746bb32f2642706e1cd95aed6120e66b2134b6956ba39d6d3c0ce1e6cccd5d"), looks := true }, kinds := [], alts := [], laidByText := true, laidKinds := [.data, .data], laidTests := true, laidLooks := .later }
def EngineNilCardSaid : Prop := Claim7.holds Tryz.pinned (.plain (OpenSpec.ofChange engineNilSpec)) engineNilCard

/-- THE SECOND FORM's CARD OF 'seepagelaw42.EngineNil'. -/
def engineNilUptoCard : Claim7 := { stood := { row := engineNilUptoRow, standIns := [], harness := (true, "7b746bb32f2642706e1cd95aed6120e66b2134b6956ba39d6d3c0ce1e6cccd5d"), looks := true }, kinds := [], alts := [], laidByText := true, laidKinds := [.data, .data], laidTests := true, laidLooks := .later }
def EngineNilUptoCardSaid : Prop := Claim7.holds Tryz.pinned (.plain (OpenSpec.upto engineNilSpec)) engineNilUptoCard
end Rows
end Go.Proofs.YtkgehjpepjaliaaGreatDoor
