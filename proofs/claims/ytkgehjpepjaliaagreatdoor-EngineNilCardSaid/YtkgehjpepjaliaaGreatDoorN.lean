/- Proved: for every input the Go function seepagelaw42.EngineNil returns true and its argument reads behind the call as it read before (nil engines, and zero ones, answer as the document says). No conditions beyond those of the given card: the two package variables that it lists hold what the text of the program lays. -/
import Derived.Test.YtkgehjpepjaliaaGreatDoorD3
import Derived.Test.YtkgehjpepjaliaaGreatDoorXN
import Derived.Test.YtkgehjpepjaliaaGreatDoorTie
import Derived.Test.YtkgehjpepjaliaaGreatDoorCards
import Derived.Test.YtkgehjpepjaliaaGreatDoorFc
import Derived.SevenTiedAt
set_option maxRecDepth 100000
set_option linter.unusedVariables false
namespace Go.Proofs.YtkgehjpepjaliaaGreatDoor
open Go Go.Sx Go.Ex Go.ChangeShapes Go.WideShapes Go.ChangeAt Go.RowKit

theorem cells2 : Tryz.prog.cellsOf 2 = 1 := by kernel_rfl
theorem cells22 : Tryz.prog.cellsOf 22 = 1 := by kernel_rfl
theorem cells23 : Tryz.prog.cellsOf 23 = 1 := by kernel_rfl
theorem cells24 : Tryz.prog.cellsOf 24 = 1 := by kernel_rfl
theorem cells25 : Tryz.prog.cellsOf 25 = 1 := by kernel_rfl
theorem cells27 : Tryz.prog.cellsOf 27 = 7 := by kernel_rfl
theorem ints_one {k : IntKind} {ok : Nat → Prop} {w : World} {v : Value} {xs : List Int} (h : Ints k ok w v xs) : v.oneCell' = true := by
  obtain ⟨a, c, rfl, _⟩ := h
  rfl
theorem trod_cmd {H : Type} {enc : TypeId × Value → H} {w : World} {sp : Nat → Bool} {hd : Bool} {fuel : Nat} {cs : List Value} {x : DataW H × List MemPlace} (h : DataW.trod enc Tryz.prog w 0 sp hd fuel 27 cs = some x) :
    ∃ op u v wt t dv bv, cs = [.int .i64 op, .int .u64 u, .int .u64 v, .int .i64 wt, .int .i64 t, dv, bv] ∧ Value.oneCell' dv = true ∧ Value.oneCell' bv = true := by
  obtain ⟨hl, hf⟩ := fields_of_trod Tryz.underlying27 h
  rw [cells27] at hl
  match cs, hl with
  | [a0, a1, a2, a3, a4, a5, a6], _ =>
    obtain ⟨n0, y0, h0⟩ := hf _ (List.mem_of_getElem? (i := 0) rfl)
    obtain ⟨n1, y1, h1⟩ := hf _ (List.mem_of_getElem? (i := 1) rfl)
    obtain ⟨n2, y2, h2⟩ := hf _ (List.mem_of_getElem? (i := 2) rfl)
    obtain ⟨n3, y3, h3⟩ := hf _ (List.mem_of_getElem? (i := 3) rfl)
    obtain ⟨n4, y4, h4⟩ := hf _ (List.mem_of_getElem? (i := 4) rfl)
    obtain ⟨n5, y5, h5⟩ := hf _ (List.mem_of_getElem? (i := 5) rfl)
    obtain ⟨n6, y6, h6⟩ := hf _ (List.mem_of_getElem? (i := 6) rfl)
    simp only [cells2, cells22, cells23, cells24, cells25] at h0 h1 h2 h3 h4 h5 h6
    obtain ⟨x0, e0, q0⟩ := int_of_trod Tryz.underlying22 h0
    obtain ⟨x1, e1, q1⟩ := int_of_trod Tryz.underlying23 h1
    obtain ⟨x2, e2, q2⟩ := int_of_trod Tryz.underlying23 h2
    obtain ⟨x3, e3, q3⟩ := int_of_trod Tryz.underlying2 h3
    obtain ⟨x4, e4, q4⟩ := int_of_trod Tryz.underlying2 h4
    obtain ⟨v5, ds, e5, q5⟩ := Ints.of_trod Tryz.underlying24 Tryz.underlying23 cells23 h5
    obtain ⟨v6, es, e6, q6⟩ := Ints.of_trod Tryz.underlying25 Tryz.underlying2 cells2 h6
    simp at e0 e1 e2 e3 e4 e5 e6
    subst e0 e1 e2 e3 e4 e5 e6
    exact ⟨x0, x1, x2, x3, x4, _, _, rfl, ints_one q5, ints_one q6⟩
set_option maxRecDepth 100000 in
theorem nil_lifted (os : Os) (started : os.Started) (H : Type) (enc : TypeId × Value → H) :
    ReturnsInHanded {} Tryz.checked os 3 .any (fun w args => (Rows.engineNilSpec.pre enc Tryz.prog Tryz.f3 [] false w args ∧ laidMetH Tryz.prog laidL w) ∧ sizedMet enc Tryz.prog Tryz.f3 (OpenSpec.ofChange Rows.engineNilSpec) false w args)
      (Rows.engineNilSpec.post enc Tryz.prog Tryz.f3 false true false false) := by
  refine returnsInHanded_of_change_and (C := Tryz.checked) (X := fun w _ => laidMetH Tryz.prog laidL w) (fun _ _ _ hh h => h.of_heap hh) own0 started (by kernel_rfl) Tryz.func3
    (ChangeSpec.witness_shaped (enc := enc) (C := Tryz.checked) (os := os) (X := fun w _ => laidMetH Tryz.prog laidL w) false (World.doorLaid Tryz.prog 400 os) #[.agg #[.int .i64 0, .int .u64 0, .int .u64 0, .int .i64 0, .int .i64 0, .slice none 0 0, .slice none 0 0]] 8 rfl (World.shaped_of_RefB (by kernel_rfl) (by kernel_rfl)) (by kernel_rfl) (by kernel_rfl) (by kernel_rfl) (door_met os _)) ?_
  intro W base args ds gs before hval0 hW _ _ hL _
  have hval : ∀ (j : Nat) t v, Tryz.f3.params[j]? = some t → args[j]? = some v → Value.okWide Tryz.prog W .any base t v := hval0
  have hW' := hW
  obtain ⟨p, q, hA0, hV, rfl, hfz, hnd⟩ := hW
  have hA : DataW.TrodAll enc Tryz.prog W 0 (fun _ => true) true Tryz.f3.params.toList args.toList ds p := hA0
  rw [Tryz.params3] at hA hval
  obtain ⟨v0, d0, rfl, rfl, h0⟩ := trodAll_one hA
  obtain ⟨rfl, rfl⟩ := trodVars_none hV
  clear hA0 hval0
  simp only [List.append_nil] at hW'
  have h0k := h0
  obtain ⟨ac, rfl, hac⟩ := okWide_struct Tryz.underlying27 (hval 0 27 v0 rfl rfl)
  obtain ⟨fc, hfc⟩ := h0
  obtain ⟨op, u, v, wt, t, dv, bv, ec, hd, hb⟩ := trod_cmd (show DataW.trod enc Tryz.prog W 0 _ _ fc 27 ac.toList = some _ from hfc)
  obtain rfl : ac = #[.int .i64 op, .int .u64 u, .int .u64 v, .int .i64 wt, .int .i64 t, dv, bv] := Array.toList_inj.1 ec
  refine Calls.mono (nil_call op u v wt t dv bv hd hb W (of_laid hL)) fun e W' hr => ?_
  obtain ⟨r, rfl, rfl, hch⟩ := hr
  have hbe := hch.below
  exact ⟨_, rfl, _, _, _, [], p, [], hW', trodAll_mk1 (shut_bool Tryz.underlying4 true),
    trodAll_mk1 (Below.trod laid0 (by kernel_rfl) (of_decide_eq_true (by kernel_rfl)) h0k hbe (fun x hx => by have h9 := hW'.lt x (by simp [hx]); simpa using h9)),
    rfl, hbe.frame _, fun h => by cases h⟩
theorem nil_row : Rows.EngineNilSaid :=
  OpenClaim.holds_of_wide 3 Tryz.f3 rfl rfl rfl rfl rfl rfl rfl ⟨rfl, rfl, rfl, rfl, rfl⟩ rfl rfl rfl rfl rfl nil_named Tryz.func3 nil_closed nil_inst nil_wrap
    (fun os started H enc _ => nil_lifted os started H enc)
theorem nil_holds : Rows.EngineNilCardSaid :=
  Claim7.holds_tied_plain_at .later [] [.data, .data] true (true, "7b746bb32f2642706e1cd95aed6120e66b2134b6956ba39d6d3c0ce1e6cccd5d") true
    nil_row (fun _ h => by cases h) nil_wf (fun _ h => by cases h) engineNil_row_tie rfl ⟨rfl, rfl⟩ nil_main rfl
    (fun f fn hf hfn => by
      obtain rfl : f = 3 := (Option.some.inj (nil_named.symm.trans hf)).symm
      obtain rfl : fn = Tryz.f3 := (Option.some.inj (Tryz.func3.symm.trans hfn)).symm
      exact ⟨nil_looks, fun j t ht => by
        rw [Tryz.params3] at ht
        rcases j with _ | j
        · simp at ht; subst ht; exact nil_stand0
        · simp at ht⟩)
    nil_goes
#print axioms nil_holds
end Go.Proofs.YtkgehjpepjaliaaGreatDoor
