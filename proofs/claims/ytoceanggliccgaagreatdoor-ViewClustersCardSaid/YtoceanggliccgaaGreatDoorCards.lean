/-
  DERIVED. GIVEN WITH THE SEED: THE CARDS: each row of YtoceanggliccgaaGreatDoorRows.lean that lists a variable, with what it lists TIED to the program's text (the seventh form; the later family's looks); each row that meets fmt, with fmt's text TOLD by the authors' own Lean function (tested against real Go, not proved from fmt's source: count such statements apart). THE CARD IS WHAT COUNTS. Prove the row's statement (the work); the ties are given (YtoceanggliccgaaGreatDoorTie.lean); close each card by the builder's one call (the guide's Derived/Test/ToyasCard.lean, 'card_holds'). Laid BY PROGRAM, IN A SANDBOX (cutbox-door.mjs). By AI agents, Wed Nov 11 2026. No macro, syntax, notation, axiom, sorry.
-/
import Derived.Test.YtoceanggliccgaaGreatDoorRows
import GoSem.ClaimSeven
namespace Go.Proofs.YtoceanggliccgaaGreatDoor
namespace Rows

/-- THE TIED CARD OF 'seepagelaw38.ViewClusters'. -/
def viewClustersCard : Claim7 := { stood := { row := viewClustersRow, standIns := [], harness := (true, "ed780c8116b1c2cdc0d5ff4c0a2ca769eca6bd3b8827af12e0f8024af27b70bd"), looks := true }, kinds := [], alts := [], laidByText := true, laidKinds := [.data, .data], laidTests := true, laidLooks := .later }
def ViewClustersCardSaid : Prop := Claim7.holds Tryz.pinned (.plain (OpenSpec.ofChange viewClustersSpec)) viewClustersCard

/-- THE TIED CARD OF 'seepagelaw38.ViewHisto'. -/
def viewHistoCard : Claim7 := { stood := { row := viewHistoRow, standIns := [], harness := (true, "ed780c8116b1c2cdc0d5ff4c0a2ca769eca6bd3b8827af12e0f8024af27b70bd"), looks := true }, kinds := [], alts := [], laidByText := true, laidKinds := [.data, .data], laidTests := true, laidLooks := .later }
def ViewHistoCardSaid : Prop := Claim7.holds Tryz.pinned (.plain (OpenSpec.ofChange viewHistoSpec)) viewHistoCard

/-- THE TIED CARD OF 'seepagelaw38.ViewParts'. -/
def viewPartsCard : Claim7 := { stood := { row := viewPartsRow, standIns := [], harness := (true, "ed780c8116b1c2cdc0d5ff4c0a2ca769eca6bd3b8827af12e0f8024af27b70bd"), looks := true }, kinds := [], alts := [], laidByText := true, laidKinds := [.data, .data], laidTests := true, laidLooks := .later }
def ViewPartsCardSaid : Prop := Claim7.holds Tryz.pinned (.plain (OpenSpec.ofChange viewPartsSpec)) viewPartsCard

/-- THE SECOND FORM's CARD OF 'seepagelaw38.ViewClusters'. -/
def viewClustersUptoCard : Claim7 := { stood := { row := viewClustersUptoRow, standIns := [], harness := (true, "ed780c8116b1c2cdc0d5ff4c0a2ca769eca6bd3b8827af12e0f8024af27b70bd"), looks := true }, kinds := [], alts := [], laidByText := true, laidKinds := [.data, .data], laidTests := true, laidLooks := .later }
def ViewClustersUptoCardSaid : Prop := Claim7.holds Tryz.pinned (.plain (OpenSpec.upto viewClustersSpec)) viewClustersUptoCard

/-- THE SECOND FORM's CARD OF 'seepagelaw38.ViewHisto'. -/
def viewHistoUptoCard : Claim7 := { stood := { row := viewHistoUptoRow, standIns := [], harness := (true, "ed780c8116b1c2cdc0d5ff4c0a2ca769eca6bd3b8827af12e0f8024af27b70bd"), looks := true }, kinds := [], alts := [], laidByText := true, laidKinds := [.data, .data], laidTests := true, laidLooks := .later }
def ViewHistoUptoCardSaid : Prop := Claim7.holds Tryz.pinned (.plain (OpenSpec.upto viewHistoSpec)) viewHistoUptoCard

/-- THE SECOND FORM's CARD OF 'seepagelaw38.ViewParts'. -/
def viewPartsUptoCard : Claim7 := { stood := { row := viewPartsUptoRow, standIns := [], harness := (true, "ed780c8116b1c2cdc0d5ff4c0a2ca769eca6bd3b8827af12e0f8024af27b70bd"), looks := true }, kinds := [], alts := [], laidByText := true, laidKinds := [.data, .data], laidTests := true, laidLooks := .later }
def ViewPartsUptoCardSaid : Prop := Claim7.holds Tryz.pinned (.plain (OpenSpec.upto viewPartsSpec)) viewPartsUptoCard
end Rows
end Go.Proofs.YtoceanggliccgaaGreatDoor
