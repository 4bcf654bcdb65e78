/- Proved: for every input the Go function seepagelaw38.ViewNil returns true and its arguments read behind the call as they read before (nil views and windows, and zero ones, answer as the document says). No conditions beyond those of the given card: the two package variables that it lists hold what the text of the program lays. -/
import Derived.Test.YtlpgpckhpjnegaaGreatDoorNR
import Derived.Test.YtlpgpckhpjnegaaGreatDoorXN
import Derived.Test.YtlpgpckhpjnegaaGreatDoorTie
import Derived.Test.YtlpgpckhpjnegaaGreatDoorCards
import Derived.Test.YtlpgpckhpjnegaaGreatDoorFc
import Derived.SevenTiedAt
set_option maxRecDepth 100000
set_option linter.unusedVariables false
namespace Go.Proofs.YtlpgpckhpjnegaaGreatDoor
open Go Go.Sx Go.Ex Go.ChangeShapes Go.WideShapes Go.ChangeAt Go.RowKit

theorem cells2 : Tryz.prog.cellsOf 2 = 1 := by kernel_rfl
set_option maxRecDepth 100000 in
theorem nil_lifted (os : Os) (started : os.Started) (H : Type) (enc : TypeId × Value → H) :
    ReturnsInHanded {} Tryz.checked os 4 .any (fun w args => (Rows.viewNilSpec.pre enc Tryz.prog Tryz.f4 [] false w args ∧ laidMetH Tryz.prog laidL w) ∧ sizedMet enc Tryz.prog Tryz.f4 (OpenSpec.ofChange Rows.viewNilSpec) false w args)
      (Rows.viewNilSpec.post enc Tryz.prog Tryz.f4 false true false false) := by
  refine returnsInHanded_of_change_and (C := Tryz.checked) (X := fun w _ => laidMetH Tryz.prog laidL w) (fun _ _ _ hh h => h.of_heap hh) own0 started (by kernel_rfl) Tryz.func4
    (ChangeSpec.witness_shaped (enc := enc) (C := Tryz.checked) (os := os) (X := fun w _ => laidMetH Tryz.prog laidL w) false (World.doorLaid Tryz.prog 400 os) #[.int .u64 0, .int .i64 0, .slice none 0 0] 8 rfl (World.shaped_of_RefB (by kernel_rfl) (by kernel_rfl)) (by kernel_rfl) (by kernel_rfl) (by kernel_rfl) (door_met os _)) ?_
  intro W base args ds gs before hval0 hW _ _ hL _
  have hval : ∀ (j : Nat) t v, Tryz.f4.params[j]? = some t → args[j]? = some v → Value.okWide Tryz.prog W .any base t v := hval0
  have hW' := hW
  obtain ⟨p, q, hA0, hV, rfl, hfz, hnd⟩ := hW
  have hA : DataW.TrodAll enc Tryz.prog W 0 (fun _ => true) true Tryz.f4.params.toList args.toList ds p := hA0
  rw [Tryz.params4] at hA hval
  obtain ⟨v0, v1, v2, d0, d1, d2, p0, p1, p2, rfl, rfl, rfl, h0, h1, h2⟩ := trodAll_three hA
  obtain ⟨rfl, rfl⟩ := trodVars_none hV
  clear hA0 hval0
  simp only [List.append_nil] at hW'
  have h0k := h0
  have h1k := h1
  have h2k := h2
  obtain ⟨u, e0, -, -, wf0⟩ := open_int Tryz.underlying29 (hval 0 29 v0 rfl rfl) h0
  subst e0
  obtain ⟨th, e1, -, -, wf1⟩ := open_int Tryz.underlying2 (hval 1 2 v1 rfl rfl) h1
  subst e1
  obtain ⟨a2, len2, cap2, rfl⟩ := okWide_slice Tryz.underlying35 (hval 2 35 v2 rfl rfl)
  obtain ⟨fu, hf⟩ := h2
  obtain ⟨vv, xs, ev, hI⟩ := Ints.of_trod Tryz.underlying35 Tryz.underlying2 cells2 (by simpa [Value.cells] using hf)
  simp at ev
  subst ev
  have hcap : cap2 < OPEN := by
    obtain ⟨a, c, e, _, h2, _⟩ := hI
    cases e
    simp only [maxLen] at h2
    simp only [OPEN]
    omega
  refine Calls.mono (nil_call u th a2 len2 cap2 hcap W (of_laid hL)) fun e W' hr => ?_
  obtain ⟨r, rfl, rfl, hch⟩ := hr
  have hbe := hch.below
  exact ⟨_, rfl, _, _, _, [], (p0 ++ (p1 ++ p2)), [], hW', trodAll_mk1 (shut_bool Tryz.underlying4 true),
    trodAll_mk3 (Below.trod laid0 (by kernel_rfl) (of_decide_eq_true (by kernel_rfl)) h0k hbe (fun x hx => by have h9 := hW'.lt x (by simp [hx]); simpa using h9)) (Below.trod laid0 (by kernel_rfl) (of_decide_eq_true (by kernel_rfl)) h1k hbe (fun x hx => by have h9 := hW'.lt x (by simp [hx]); simpa using h9)) (Below.trod laid0 (by kernel_rfl) (of_decide_eq_true (by kernel_rfl)) h2k hbe (fun x hx => by have h9 := hW'.lt x (by simp [hx]); simpa using h9)),
    rfl, hbe.frame _, fun h => by cases h⟩
theorem nil_row : Rows.ViewNilSaid :=
  OpenClaim.holds_of_wide 4 Tryz.f4 rfl rfl rfl rfl rfl rfl rfl ⟨rfl, rfl, rfl, rfl, rfl⟩ rfl rfl rfl rfl rfl nil_named Tryz.func4 nil_closed nil_inst nil_wrap
    (fun os started H enc _ => nil_lifted os started H enc)
theorem nil_holds : Rows.ViewNilCardSaid :=
  Claim7.holds_tied_plain_at .later [] [.data, .data] true (true, "49e03b334bbccd7382e456d623882736c6c0ce025760e47e37d400d3e9dd5169") true
    nil_row (fun _ h => by cases h) nil_wf (fun _ h => by cases h) viewNil_row_tie rfl ⟨rfl, rfl⟩ nil_main rfl
    (fun f fn hf hfn => by
      obtain rfl : f = 4 := (Option.some.inj (nil_named.symm.trans hf)).symm
      obtain rfl : fn = Tryz.f4 := (Option.some.inj (Tryz.func4.symm.trans hfn)).symm
      exact ⟨nil_looks, fun j t ht => by
        rw [Tryz.params4] at ht
        rcases j with _ | _ | _ | j
        · simp at ht; subst ht; exact nil_stand0
        · simp at ht; subst ht; exact nil_stand1
        · simp at ht; subst ht; exact nil_stand2
        · simp at ht⟩)
    nil_goes
#print axioms nil_holds
end Go.Proofs.YtlpgpckhpjnegaaGreatDoor
