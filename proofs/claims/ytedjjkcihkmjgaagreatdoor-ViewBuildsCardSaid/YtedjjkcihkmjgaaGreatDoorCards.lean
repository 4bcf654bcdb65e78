/-
  DERIVED. GIVEN WITH THE SEED: THE CARDS: each row of YtedjjkcihkmjgaaGreatDoorRows.lean that lists a variable, with what it lists TIED to the program's text (the seventh form; the later family's looks); each row that meets fmt, with fmt's text TOLD by the authors' own Lean function (tested against real Go, not proved from fmt's source: count such statements apart). THE CARD IS WHAT COUNTS. Prove the row's statement (the work); the ties are given (YtedjjkcihkmjgaaGreatDoorTie.lean); close each card by the builder's one call (the guide's Derived/Test/ToyasCard.lean, 'card_holds'). Laid BY PROGRAM, IN A SANDBOX (cutbox-door.mjs). By AI agents, Wed Nov 11 2026. No macro, syntax, notation, axiom, sorry.
-/
import Derived.Test.YtedjjkcihkmjgaaGreatDoorRows
import GoSem.ClaimSeven
namespace Go.Proofs.YtedjjkcihkmjgaaGreatDoor
namespace Rows

/-- THE TIED CARD OF 'seepagelaw38.ViewParts'. -/
def viewPartsCard : Claim7 := { stood := { row := viewPartsRow, standIns := [], harness := (true, "0e35c6e2253602773a318414b9fc8288622da8abae735fbd432c94871db9d85b"), looks := true }, kinds := [], alts := [], laidByText := true, laidKinds := [.data, .data], laidTests := true, laidLooks := .later }
def ViewPartsCardSaid : Prop := Claim7.holds Tryz.pinned (.plain (OpenSpec.ofChange viewPartsSpec)) viewPartsCard

/-- THE TIED CARD OF 'seepagelaw38.ViewSweeps'. -/
def viewSweepsCard : Claim7 := { stood := { row := viewSweepsRow, standIns := [], harness := (true, "0e35c6e2253602773a318414b9fc8288622da8abae735fbd432c94871db9d85b"), looks := true }, kinds := [], alts := [], laidByText := true, laidKinds := [.data, .data], laidTests := true, laidLooks := .later }
def ViewSweepsCardSaid : Prop := Claim7.holds Tryz.pinned (.plain (OpenSpec.ofChange viewSweepsSpec)) viewSweepsCard

/-- THE TIED CARD OF 'seepagelaw38.ViewBuilds'. -/
def viewBuildsCard : Claim7 := { stood := { row := viewBuildsRow, standIns := [], harness := (true, "0e35c6e2253602773a318414b9fc8288622da8abae735fbd432c94871db9d85b"), looks := true }, kinds := [], alts := [], laidByText := true, laidKinds := [.data, .data], laidTests := true, laidLooks := .later }
def ViewBuildsCardSaid : Prop := Claim7.holds Tryz.pinned (.plain (OpenSpec.ofChange viewBuildsSpec)) viewBuildsCard

/-- THE SECOND FORM's CARD OF 'seepagelaw38.ViewParts'. -/
def viewPartsUptoCard : Claim7 := { stood := { row := viewPartsUptoRow, standIns := [], harness := (true, "0e35c6e2253602773a318414b9fc8288622da8abae735fbd432c94871db9d85b"), looks := true }, kinds := [], alts := [], laidByText := true, laidKinds := [.data, .data], laidTests := true, laidLooks := .later }
def ViewPartsUptoCardSaid : Prop := Claim7.holds Tryz.pinned (.plain (OpenSpec.upto viewPartsSpec)) viewPartsUptoCard

/-- THE SECOND FORM's CARD OF 'seepagelaw38.ViewSweeps'. -/
def viewSweepsUptoCard : Claim7 := { stood := { row := viewSweepsUptoRow, standIns := [], harness := (true, "0e35c6e2253602773a318414b9fc8288622da8abae735fbd432c94871db9d85b"), looks := true }, kinds := [], alts := [], laidByText := true, laidKinds := [.data, .data], laidTests := true, laidLooks := .later }
def ViewSweepsUptoCardSaid : Prop := Claim7.holds Tryz.pinned (.plain (OpenSpec.upto viewSweepsSpec)) viewSweepsUptoCard

/-- THE SECOND FORM's CARD OF 'seepagelaw38.ViewBuilds'. -/
def viewBuildsUptoCard : Claim7 := { stood := { row := viewBuildsUptoRow, standIns := [], harness := (true, "0e35c6e2253602773a318414b9fc8288622da8abae735fbd432c94871db9d85b"), looks := true }, kinds := [], alts := [], laidByText := true, laidKinds := [.data, .data], laidTests := true, laidLooks := .later }
def ViewBuildsUptoCardSaid : Prop := Claim7.holds Tryz.pinned (.plain (OpenSpec.upto viewBuildsSpec)) viewBuildsUptoCard
end Rows
end Go.Proofs.YtedjjkcihkmjgaaGreatDoor
