/- Proved: for every input the Go function seepagelaw44.JournalFlips returns true and its arguments read behind the call as they read before (if a byte of a record is changed, other than those of the number at its beginning, the valid records are those before it). No conditions beyond those of the given statement. -/
import Derived.Test.YtkdiogflcnihdaaVd
import Derived.Test.YtkdiogflcnihdaaFb
import Derived.Test.YtkdiogflcnihdaaRows
set_option linter.unusedVariables false
set_option linter.unusedSimpArgs false
set_option maxRecDepth 100000
namespace Go.Proofs.Ytkdiogflcnihdaa
open Go Go.Sx Go.ChangeShapes Go.WideShapes Go.ChangeAt Go.RowKit
theorem own0 : ownKnob Try.prog.godebug = none := by kernel_rfl
theorem laid0 : laidOutB Try.prog = true := by kernel_rfl
theorem cells2 : Try.prog.cellsOf 2 = 1 := by kernel_rfl
theorem cells5 : Try.prog.cellsOf 5 = 1 := by kernel_rfl
theorem cells24 : Try.prog.cellsOf 24 = 1 := by kernel_rfl
theorem cells28 : Try.prog.cellsOf 28 = 7 := by kernel_rfl
theorem cells23 : Try.prog.cellsOf 23 = 1 := by kernel_rfl
theorem cells25 : Try.prog.cellsOf 25 = 1 := by kernel_rfl
theorem cells26 : Try.prog.cellsOf 26 = 1 := by kernel_rfl
theorem trod_cmd {H : Type} {enc : TypeId × Value → H} {w : World} {sp : Nat → Bool} {hd : Bool} {fuel : Nat} {cs : List Value} {x : DataW H × List MemPlace} (h : DataW.trod enc Try.prog w 0 sp hd fuel 28 cs = some x) : ∃ c : Cmd, encC (fun _ => True) w c cs := by
  obtain ⟨hl, hf⟩ := fields_of_trod Try.underlying28 h
  rw [cells28] at hl
  match cs, hl with
  | [a0, a1, a2, a3, a4, a5, a6], _ =>
    obtain ⟨n0, y0, h0⟩ := hf _ (List.mem_of_getElem? (i := 0) rfl)
    obtain ⟨n1, y1, h1⟩ := hf _ (List.mem_of_getElem? (i := 1) rfl)
    obtain ⟨n2, y2, h2⟩ := hf _ (List.mem_of_getElem? (i := 2) rfl)
    obtain ⟨n3, y3, h3⟩ := hf _ (List.mem_of_getElem? (i := 3) rfl)
    obtain ⟨n4, y4, h4⟩ := hf _ (List.mem_of_getElem? (i := 4) rfl)
    obtain ⟨n5, y5, h5⟩ := hf _ (List.mem_of_getElem? (i := 5) rfl)
    obtain ⟨n6, y6, h6⟩ := hf _ (List.mem_of_getElem? (i := 6) rfl)
    simp only [cells2, cells23, cells24, cells25, cells26] at h0 h1 h2 h3 h4 h5 h6
    obtain ⟨x0, e0, q0⟩ := int_of_trod Try.underlying23 h0
    obtain ⟨x1, e1, q1⟩ := int_of_trod Try.underlying24 h1
    obtain ⟨x2, e2, q2⟩ := int_of_trod Try.underlying24 h2
    obtain ⟨x3, e3, q3⟩ := int_of_trod Try.underlying2 h3
    obtain ⟨x4, e4, q4⟩ := int_of_trod Try.underlying2 h4
    obtain ⟨v5, ds, e5, q5⟩ := Ints.of_trod Try.underlying25 Try.underlying24 cells24 h5
    obtain ⟨v6, es, e6, q6⟩ := Ints.of_trod Try.underlying26 Try.underlying2 cells2 h6
    simp at e0 e1 e2 e3 e4 e5 e6
    subst e0 e1 e2 e3 e4 e5 e6
    exact ⟨⟨x0, x1, x2, x3, x4, ds, es⟩, _, _, rfl, ⟨q0, q1, q2, q3, q4, fun y hy => q5.in hy, fun y hy => q6.in hy⟩, q5, q6⟩
instance : Inhabited Cmd := ⟨cmd0 0⟩
theorem trod_cmds {H : Type} {enc : TypeId × Value → H} {w : World} {sp : Nat → Bool} {hd : Bool} {fuel : Nat} {cs : List Value} {x : DataW H × List MemPlace} (h : DataW.trod enc Try.prog w 0 sp hd fuel 30 cs = some x) : ∃ v l, cs = [v] ∧ Cmds (fun _ => True) w v l :=
  Sl.of_trod (α := Cmd) Try.underlying30 cells28 (by decide) (fun n cs y hy => trod_cmd hy) h
set_option maxRecDepth 100000 in
theorem flips_lifted (os : Os) (started : os.Started) (H : Type) (enc : TypeId × Value → H) :
    ReturnsInHanded {} Try.checked os 5 .any (Rows.journalFlipsSpec.pre6 enc Try.prog Try.f5 Rows.journalFlipsRow.domain false) (Rows.journalFlipsSpec.post enc Try.prog Try.f5 false true false false) := by
  refine returnsInHanded_of_change (C := Try.checked) own0 started (by kernel_rfl) Try.func5
    (ChangeSpec.witness6 (enc := enc) (C := Try.checked) false ⟨#[], #[.slice none 0 0, .int .u16 0, .int .u8 0], []⟩ 8 (by kernel_rfl) (by kernel_rfl) (by kernel_rfl) (by kernel_rfl)) ?_
  intro W base args ds gs before hval0 hW hcnd _
  have hval : ∀ (j : Nat) t v, Try.f5.params[j]? = some t → args[j]? = some v → Value.okWide Try.prog W .any base t v := hval0
  have hW' := hW
  obtain ⟨p, q, hA0, hV, rfl, hfz, hnd⟩ := hW
  have hA : DataW.TrodAll enc Try.prog W 0 (fun _ => true) true Try.f5.params.toList args.toList ds p := hA0
  rw [Try.params5] at hA hval
  obtain ⟨v0, v1, v2, d0, d1, d2, p0, p1, p2, rfl, rfl, rfl, h0, h1, h2⟩ := trodAll_three hA
  obtain ⟨rfl, rfl⟩ := trodVars_none hV
  clear hA0 hval0
  simp only [List.append_nil] at hW'
  have h0k := h0
  have h1k := h1
  have h2k := h2
  obtain ⟨a0, len, cap, rfl⟩ := okWide_slice Try.underlying30 (hval 0 30 v0 rfl rfl)
  obtain ⟨fu, hf⟩ := h0
  obtain ⟨vv, cs, ev, hI⟩ := trod_cmds (show DataW.trod enc Try.prog W 0 _ _ fu 30 [_] = some _ by simpa [Value.cells] using hf)
  simp at ev
  subst ev
  obtain ⟨at9, e1, -, -, wf1⟩ := open_int Try.underlying45 (hval 1 45 v1 rfl rfl) h1
  subst e1
  obtain ⟨by9, e2, -, -, wf2⟩ := open_int Try.underlying5 (hval 2 5 v2 rfl rfl) h2
  subst e2
  refine Calls.mono (flips_law _ cs at9 by9 W hI (InK.of_wf wf1) (InK.of_wf wf2)) fun e W' hr => ?_
  obtain ⟨r, rfl, rfl, hch⟩ := hr
  have hbe := hch.below
  exact ⟨_, rfl, _, _, _, [], (p0 ++ (p1 ++ p2)), [], hW', trodAll_mk1 (shut_bool Try.underlying4 true), trodAll_mk3 (Below.trod laid0 (by kernel_rfl) (of_decide_eq_true (by kernel_rfl)) h0k hbe (fun x hx => by have h9 := hW'.lt x (by simp [hx]); simpa using h9)) (Below.trod laid0 (by kernel_rfl) (of_decide_eq_true (by kernel_rfl)) h1k hbe (fun x hx => by have h9 := hW'.lt x (by simp [hx]); simpa using h9)) (Below.trod laid0 (by kernel_rfl) (of_decide_eq_true (by kernel_rfl)) h2k hbe (fun x hx => by have h9 := hW'.lt x (by simp [hx]); simpa using h9)), rfl, hbe.frame _, fun h => by cases h⟩
theorem flips_holds : Rows.JournalFlipsSaid :=
  OpenClaim.holds_of_wide 5 Try.f5 rfl rfl rfl rfl rfl rfl rfl ⟨rfl, rfl, rfl, rfl, rfl⟩ rfl rfl rfl rfl rfl (by kernel_rfl) Try.func5 (by kernel_rfl)
    (of_decide_eq_true (by kernel_rfl)) (by unfold Func.isWrapper; first | (rw [if_pos (by decide +kernel)]; kernel_rfl) | (rw [if_neg (by decide +kernel)]; exact ⟨rfl, rfl⟩))
    (fun os started H enc _ => flips_lifted os started H enc)
#print axioms flips_holds
end Go.Proofs.Ytkdiogflcnihdaa
