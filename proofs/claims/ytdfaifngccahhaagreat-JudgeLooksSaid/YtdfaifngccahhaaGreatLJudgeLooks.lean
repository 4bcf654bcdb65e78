/- Proved: for every input the Go function seepagelaw46.JudgeLooks returns true and its arguments read behind the call as they read before (the flaws that judge.Look finds in any list of live edges are those of the document). No conditions beyond those of the given statement. -/
import Derived.Test.YtdfaifngccahhaaGreatVd
import Derived.Test.YtdfaifngccahhaaGreatFc
import Derived.Test.YtdfaifngccahhaaGreatRows
set_option linter.unusedVariables false
set_option linter.unusedSimpArgs false
set_option maxRecDepth 100000
namespace Go.Proofs.YtdfaifngccahhaaGreat
open Go Go.Sx Go.ChangeShapes Go.WideShapes Go.ChangeAt Go.RowKit
theorem own0 : ownKnob Tryz.prog.godebug = none := by kernel_rfl
theorem laid0 : laidOutB Tryz.prog = true := by kernel_rfl
theorem cells2 : Tryz.prog.cellsOf 2 = 1 := by kernel_rfl
theorem cells3 : Tryz.prog.cellsOf 3 = 1 := by kernel_rfl
theorem cells23 : Tryz.prog.cellsOf 23 = 4 := by kernel_rfl
theorem cells40 : Tryz.prog.cellsOf 40 = 1 := by kernel_rfl
theorem cells42 : Tryz.prog.cellsOf 42 = 4 := by kernel_rfl
theorem cells44 : Tryz.prog.cellsOf 44 = 7 := by kernel_rfl
theorem trod_cf {H : Type} {enc : TypeId × Value → H} {w : World} {sp : Nat → Bool} {hd : Bool} {fuel : Nat} {cs : List Value} {x : DataW H × List MemPlace} (h : DataW.trod enc Tryz.prog w 0 sp hd fuel 23 cs = some x) : ∃ c : Cf, cs = c.cells ∧ c.ok := by
  obtain ⟨hl, hf⟩ := fields_of_trod Tryz.underlying23 h
  rw [cells23] at hl
  match cs, hl with
  | [a0, a1, a2, a3], _ =>
    obtain ⟨n0, y0, h0⟩ := hf _ (List.mem_of_getElem? (i := 0) rfl)
    obtain ⟨n1, y1, h1⟩ := hf _ (List.mem_of_getElem? (i := 1) rfl)
    obtain ⟨n2, y2, h2⟩ := hf _ (List.mem_of_getElem? (i := 2) rfl)
    obtain ⟨n3, y3, h3⟩ := hf _ (List.mem_of_getElem? (i := 3) rfl)
    simp only [cells2, cells3] at h0 h1 h2 h3
    obtain ⟨x0, e0, q0⟩ := int_of_trod Tryz.underlying2 h0
    obtain ⟨x1, e1, q1⟩ := int_of_trod Tryz.underlying3 h1
    obtain ⟨x2, e2, q2⟩ := int_of_trod Tryz.underlying3 h2
    obtain ⟨x3, e3, q3⟩ := int_of_trod Tryz.underlying3 h3
    simp at e0 e1 e2 e3
    subst e0 e1 e2 e3
    exact ⟨⟨x0, x1, x2, x3⟩, rfl, ⟨q0, q1, q2, q3⟩⟩
theorem trod_lv {H : Type} {enc : TypeId × Value → H} {w : World} {sp : Nat → Bool} {hd : Bool} {fuel : Nat} {cs : List Value} {x : DataW H × List MemPlace} (h : DataW.trod enc Tryz.prog w 0 sp hd fuel 44 cs = some x) : ∃ c : Lv, cs = c.cells ∧ c.ok := by
  obtain ⟨hl, hf⟩ := fields_of_trod Tryz.underlying44 h
  rw [cells44] at hl
  match cs, hl with
  | [a0, a1, a2, a3, a4, a5, a6], _ =>
    obtain ⟨n0, y0, h0⟩ := hf _ (List.mem_of_getElem? (i := 0) rfl)
    obtain ⟨n1, y1, h1⟩ := hf _ (List.mem_of_getElem? (i := 1) rfl)
    obtain ⟨n2, y2, h2⟩ := hf _ (List.mem_of_getElem? (i := 2) rfl)
    obtain ⟨n3, y3, h3⟩ := hf _ (List.mem_of_getElem? (i := 3) rfl)
    simp only [cells2, cells3, cells40, cells42] at h0 h1 h2 h3
    obtain ⟨hl', hf'⟩ := fields_of_trod Tryz.underlying42 h2
    obtain ⟨m0, z0, g0⟩ := hf' _ (List.mem_of_getElem? (i := 0) rfl)
    obtain ⟨m1, z1, g1⟩ := hf' _ (List.mem_of_getElem? (i := 1) rfl)
    obtain ⟨m2, z2, g2⟩ := hf' _ (List.mem_of_getElem? (i := 2) rfl)
    obtain ⟨m3, z3, g3⟩ := hf' _ (List.mem_of_getElem? (i := 3) rfl)
    simp only [cells2, cells3, cells40, cells42] at g0 g1 g2 g3
    obtain ⟨x0, e0, q0⟩ := int_of_trod Tryz.underlying3 h0
    obtain ⟨x1, e1, q1⟩ := int_of_trod Tryz.underlying40 h1
    obtain ⟨x2, e2, q2⟩ := int_of_trod Tryz.underlying40 g0
    obtain ⟨x3, e3, q3⟩ := int_of_trod Tryz.underlying40 g1
    obtain ⟨x4, e4, q4⟩ := int_of_trod Tryz.underlying2 g2
    obtain ⟨x5, e5, q5⟩ := int_of_trod Tryz.underlying2 g3
    obtain ⟨x6, e6, q6⟩ := int_of_trod Tryz.underlying2 h3
    simp at e0 e1 e2 e3 e4 e5 e6
    subst e0 e1 e2 e3 e4 e5 e6
    exact ⟨⟨x0, x1, x2, x3, x4, x5, x6⟩, rfl, ⟨q0, q1, q2, q3, q4, q5, q6⟩⟩
theorem trod_lvs {H : Type} {enc : TypeId × Value → H} {w : World} {sp : Nat → Bool} {hd : Bool} {fuel : Nat} {cs : List Value} {x : DataW H × List MemPlace} (h : DataW.trod enc Tryz.prog w 0 sp hd fuel 24 cs = some x) : ∃ v l, cs = [v] ∧ Recs 7 Lv.cells (fun _ => True) w v l ∧ ∀ x ∈ l, x.ok := by
  obtain ⟨v, l, e, hI⟩ := Sl.of_trod (α := Lv) (E := fun _ c vs => vs = c.cells ∧ c.ok) Tryz.underlying24 cells44 (by decide) (fun n cs y hy => trod_lv hy) h
  obtain ⟨a, cp, rfl, h1, h2, h3⟩ := hI
  refine ⟨_, l, e, ⟨a, cp, rfl, h1, h2, fun i y hy => ?_⟩, fun y hy => ?_⟩
  · obtain ⟨b, o, vs, r1, r2, r3, r4, r5⟩ := h3 i y hy
    exact ⟨b, o, vs, r1, r2, r3, r4.1, r5⟩
  · obtain ⟨i, hi⟩ := List.getElem?_of_mem hy
    obtain ⟨b, o, vs, r1, r2, r3, r4, r5⟩ := h3 i y hi
    exact r4.2
set_option maxRecDepth 100000 in
theorem looks_lifted (os : Os) (started : os.Started) (H : Type) (enc : TypeId × Value → H) :
    ReturnsInHanded {} Tryz.checked os 3 .any (Rows.judgeLooksSpec.pre6 enc Tryz.prog Tryz.f3 Rows.judgeLooksRow.domain false) (Rows.judgeLooksSpec.post enc Tryz.prog Tryz.f3 false true false false) := by
  refine returnsInHanded_of_change (C := Tryz.checked) own0 started (by kernel_rfl) Tryz.func3
    (ChangeSpec.witness6 (enc := enc) (C := Tryz.checked) false ⟨#[], #[(.agg #[.int .i64 0, .int .i64 0, .int .i64 0, .int .i64 0]), .int .i64 0, .slice none 0 0], []⟩ 8 (by kernel_rfl) (by kernel_rfl) (by kernel_rfl) (by kernel_rfl)) ?_
  intro W base args ds gs before hval0 hW hcnd _
  have hval : ∀ (j : Nat) t v, Tryz.f3.params[j]? = some t → args[j]? = some v → Value.okWide Tryz.prog W .any base t v := hval0
  have hW' := hW
  obtain ⟨p, q, hA0, hV, rfl, hfz, hnd⟩ := hW
  have hA : DataW.TrodAll enc Tryz.prog W 0 (fun _ => true) true Tryz.f3.params.toList args.toList ds p := hA0
  rw [Tryz.params3] at hA hval
  obtain ⟨v0, v1, v2, d0, d1, d2, p0, p1, p2, rfl, rfl, rfl, h0, h1, h2⟩ := trodAll_three hA
  obtain ⟨rfl, rfl⟩ := trodVars_none hV
  clear hA0 hval0
  simp only [List.append_nil] at hW'
  have h0k := h0
  have h1k := h1
  have h2k := h2
  obtain ⟨ac, rfl, hac⟩ := okWide_struct Tryz.underlying23 (hval 0 23 v0 rfl rfl)
  obtain ⟨fc, hfc⟩ := h0
  obtain ⟨c, ec, hc⟩ := trod_cf (show DataW.trod enc Tryz.prog W 0 _ _ fc 23 ac.toList = some _ from hfc)
  obtain rfl : ac = #[.int .i64 c.win, .int .i64 c.edges, .int .i64 c.verts, .int .i64 c.draws] := Array.toList_inj.1 ec
  obtain ⟨now, e1, -, -, wf1⟩ := open_int Tryz.underlying2 (hval 1 2 v1 rfl rfl) h1
  subst e1
  obtain ⟨a2, len2, cap2, rfl⟩ := okWide_slice Tryz.underlying24 (hval 2 24 v2 rfl rfl)
  obtain ⟨fu, hf⟩ := h2
  obtain ⟨vv, xs, ev, hI, hxs⟩ := trod_lvs (show DataW.trod enc Tryz.prog W 0 _ _ fu 24 [_] = some _ by simpa [Value.cells] using hf)
  simp at ev
  subst ev
  refine Calls.mono (looks_law c hc now _ xs W hI hxs) fun e W' hr => ?_
  obtain ⟨r, rfl, rfl, hch⟩ := hr
  have hbe := hch.below
  exact ⟨_, rfl, _, _, _, [], (p0 ++ (p1 ++ p2)), [], hW', trodAll_mk1 (shut_bool Tryz.underlying4 true), trodAll_mk3 (Below.trod laid0 (by kernel_rfl) (of_decide_eq_true (by kernel_rfl)) h0k hbe (fun x hx => by have h9 := hW'.lt x (by simp [hx]); simpa using h9)) (Below.trod laid0 (by kernel_rfl) (of_decide_eq_true (by kernel_rfl)) h1k hbe (fun x hx => by have h9 := hW'.lt x (by simp [hx]); simpa using h9)) (Below.trod laid0 (by kernel_rfl) (of_decide_eq_true (by kernel_rfl)) h2k hbe (fun x hx => by have h9 := hW'.lt x (by simp [hx]); simpa using h9)), rfl, hbe.frame _, fun h => by cases h⟩
theorem looks_holds : Rows.JudgeLooksSaid :=
  OpenClaim.holds_of_wide 3 Tryz.f3 rfl rfl rfl rfl rfl rfl rfl ⟨rfl, rfl, rfl, rfl, rfl⟩ rfl rfl rfl rfl rfl (by kernel_rfl) Tryz.func3 (by kernel_rfl)
    (of_decide_eq_true (by kernel_rfl)) (by unfold Func.isWrapper; first | (rw [if_pos (by decide +kernel)]; kernel_rfl) | (rw [if_neg (by decide +kernel)]; exact ⟨rfl, rfl⟩))
    (fun os started H enc _ => looks_lifted os started H enc)
#print axioms looks_holds
end Go.Proofs.YtdfaifngccahhaaGreat
