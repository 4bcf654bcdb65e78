/- Proved: the Go function seepagelaw38.ViewLong returns true (a histogram with the most bounds, and one with more; as many draws as the configuration allows, and one more: as the document says). No conditions beyond those of the given card: the two package variables that it lists hold what the text of the program lays. -/
import Derived.Test.YtlpgpckhpjnegaaGreatDoorVR
import Derived.Test.YtlpgpckhpjnegaaGreatDoorXL
import Derived.Test.YtlpgpckhpjnegaaGreatDoorTie
import Derived.Test.YtlpgpckhpjnegaaGreatDoorCards
import Derived.SevenTiedAt
set_option maxRecDepth 100000
set_option linter.unusedVariables false
namespace Go.Proofs.YtlpgpckhpjnegaaGreatDoor
open Go Go.Sx Go.Ex Go.ChangeShapes Go.WideShapes Go.ChangeAt Go.RowKit

set_option maxRecDepth 100000 in
theorem long_lifted (os : Os) (started : os.Started) (H : Type) (enc : TypeId × Value → H) :
    ReturnsInHanded {} Tryz.checked os 3 .any (fun w args => (Rows.viewLongSpec.pre enc Tryz.prog Tryz.f3 [] false w args ∧ laidMetH Tryz.prog laidL w) ∧ sizedMet enc Tryz.prog Tryz.f3 (OpenSpec.ofChange Rows.viewLongSpec) false w args)
      (Rows.viewLongSpec.post enc Tryz.prog Tryz.f3 false true false false) := by
  refine returnsInHanded_of_change_and (C := Tryz.checked) (X := fun w _ => laidMetH Tryz.prog laidL w) (fun _ _ _ hh h => h.of_heap hh) own0 started (by kernel_rfl) Tryz.func3
    (ChangeSpec.witness_shaped (enc := enc) (C := Tryz.checked) (os := os) (X := fun w _ => laidMetH Tryz.prog laidL w) false (World.doorLaid Tryz.prog 400 os) #[] 8 rfl (World.shaped_of_RefB (by kernel_rfl) (by kernel_rfl)) (by kernel_rfl) (by kernel_rfl) (by kernel_rfl) (door_met os _)) ?_
  intro W base args ds gs before hval0 hW _ _ hL _
  have hW' := hW
  obtain ⟨p, q, hA0, hV, rfl, hfz, hnd⟩ := hW
  have hA : DataW.TrodAll enc Tryz.prog W 0 (fun _ => true) true Tryz.f3.params.toList args.toList ds p := hA0
  rw [Tryz.params3] at hA
  obtain ⟨rfl, rfl, rfl⟩ := trodAll_none hA
  obtain ⟨rfl, rfl⟩ := trodVars_none hV
  clear hA0 hval0
  refine Calls.mono (long_run W (of_laid hL)) fun e W' hr => ?_
  obtain ⟨r, rfl, rfl, hch⟩ := hr
  have hbe := hch.below
  exact ⟨_, rfl, _, _, _, [], [], [], hW', trodAll_mk1 (shut_bool Tryz.underlying4 true), trodAll_mk0, rfl, hbe.frame _, fun h => by cases h⟩

theorem long_row : Rows.ViewLongSaid :=
  OpenClaim.holds_of_wide 3 Tryz.f3 rfl rfl rfl rfl rfl rfl rfl ⟨rfl, rfl, rfl, rfl, rfl⟩ rfl rfl rfl rfl rfl long_named Tryz.func3 long_closed long_inst long_wrap
    (fun os started H enc _ => long_lifted os started H enc)

theorem long_holds : Rows.ViewLongCardSaid :=
  Claim7.holds_tied_plain_at .later [] [.data, .data] true (true, "49e03b334bbccd7382e456d623882736c6c0ce025760e47e37d400d3e9dd5169") true
    long_row (fun _ h => by cases h) long_wf (fun _ h => by cases h) viewLong_row_tie rfl ⟨rfl, rfl⟩ long_main rfl
    (fun f fn hf hfn => by
      obtain rfl : f = 3 := (Option.some.inj (long_named.symm.trans hf)).symm
      obtain rfl : fn = Tryz.f3 := (Option.some.inj (Tryz.func3.symm.trans hfn)).symm
      exact ⟨long_looks, fun j t ht => by
        rw [Tryz.params3] at ht
        simp at ht⟩)
    long_goes
#print axioms long_holds
end Go.Proofs.YtlpgpckhpjnegaaGreatDoor
