/-
  DERIVED. GIVEN WITH THE SEED: THE CARDS: each row of YthpnckhjmbbalaaGreatDoorRows.lean that lists a variable, with what it lists TIED to the program's text (the seventh form; the later family's looks); each row that meets fmt, with fmt's text TOLD by the authors' own Lean function (tested against real Go, not proved from fmt's source: count such statements apart). THE CARD IS WHAT COUNTS. Prove the row's statement (the work); the ties are given (YthpnckhjmbbalaaGreatDoorTie.lean); close each card by the builder's one call (the guide's Derived/Test/ToyasCard.lean, 'card_holds'). Laid BY PROGRAM, IN A SANDBOX (cutbox-door.mjs). By AI agents, Wed Nov 11 2026. No macro, syntax, notation, axiom, sorry.
-/
import Derived.Test.YthpnckhjmbbalaaGreatDoorRows
import GoSem.ClaimSeven
namespace Go.Proofs.YthpnckhjmbbalaaGreatDoor
namespace Rows

/-- THE TIED CARD OF 'seepagelaw38.ViewMinimax'. -/
def viewMinimaxCard : Claim7 := { stood := { row := viewMinimaxRow, standIns := [], harness := (true, "d28ffc5f31970c8f07d53b38de231648328090caabaabe1fde131c23091ef2ac"), looks := true }, kinds := [], alts := [], laidByText := true, laidKinds := [.data, .data], laidTests := true, laidLooks := .later }
def ViewMinimaxCardSaid : Prop := Claim7.holds Tryz.pinned (.plain (OpenSpec.ofChange viewMinimaxSpec)) viewMinimaxCard

/-- THE TIED CARD OF 'seepagelaw38.ViewMerges'. -/
def viewMergesCard : Claim7 := { stood := { row := viewMergesRow, standIns := [], harness := (true, "d28ffc5f31970c8f07d53b38de231648328090caabaabe1fde131c23091ef2ac"), looks := true }, kinds := [], alts := [], laidByText := true, laidKinds := [.data, .data], laidTests := true, laidLooks := .later }
def ViewMergesCardSaid : Prop := Claim7.holds Tryz.pinned (.plain (OpenSpec.ofChange viewMergesSpec)) viewMergesCard

/-- THE SECOND FORM's CARD OF 'seepagelaw38.ViewMinimax'. -/
def viewMinimaxUptoCard : Claim7 := { stood := { row := viewMinimaxUptoRow, standIns := [], harness := (true, "d28ffc5f31970c8f07d53b38de231648328090caabaabe1fde131c23091ef2ac"), looks := true }, kinds := [], alts := [], laidByText := true, laidKinds := [.data, .data], laidTests := true, laidLooks := .later }
def ViewMinimaxUptoCardSaid : Prop := Claim7.holds Tryz.pinned (.plain (OpenSpec.upto viewMinimaxSpec)) viewMinimaxUptoCard

/-- THE SECOND FORM's CARD OF 'seepagelaw38.ViewMerges'. -/
def viewMergesUptoCard : Claim7 := { stood := { row := viewMergesUptoRow, standIns := [], harness := (true, "d28ffc5f31970c8f07d53b38de231648328090caabaabe1fde131c23091ef2ac"), looks := true }, kinds := [], alts := [], laidByText := true, laidKinds := [.data, .data], laidTests := true, laidLooks := .later }
def ViewMergesUptoCardSaid : Prop := Claim7.holds Tryz.pinned (.plain (OpenSpec.upto viewMergesSpec)) viewMergesUptoCard
end Rows
end Go.Proofs.YthpnckhjmbbalaaGreatDoor
