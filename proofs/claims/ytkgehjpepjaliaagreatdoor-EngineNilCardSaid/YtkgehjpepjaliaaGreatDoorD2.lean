import Derived.Test.YtkgehjpepjaliaaGreatDoorT
import Derived.Test.YtkgehjpepjaliaaGreatDoorFa
set_option linter.unusedVariables false
set_option linter.unusedSimpArgs false
set_option maxRecDepth 100000
namespace Go.Proofs.YtkgehjpepjaliaaGreatDoor
open Go Go.Sx
theorem evalid_n (w : World)   :
    CR Tryz.prog 14 #[(.pointer none)] w (fun r w' => r = (.bool false) ∧ Chg [] w w') := by
  refine enter (vs := [(.pointer none)]) Tryz.func14 rfl Tryz.ntmps14 rfl ?_
  have hst0 := St.init w
  refine sq fun K₁ hK₁ => ?_
  refine rg ?_
  refine asg (v := (.bool false)) rfl rfl ?_
  refine wl_nil ?_
  refine tN ((hK₁ _ _ ?_))
  refine sq fun K₂ hK₂ => ?_
  refine rg ?_
  refine mv (v := (.pointer none)) rfl rfl ?_
  refine neP (a := none) (c := false) rfl rfl rfl Tryz.underlying28 rfl ?_
  refine mv (v := (.bool false)) rfl rfl ?_
  refine sk rfl ?_
  refine sk rfl ?_
  refine sk rfl ?_
  refine sk rfl ?_
  refine sk rfl ?_
  refine pkF (v := (.bool false)) rfl rfl rfl ?_
  refine asg (v := (.bool false)) rfl rfl ?_
  refine wl_nil ?_
  refine tN ((hK₂ _ _ ?_))
  refine rt ?_
  refine ret1 (v := (.bool false)) Tryz.results14 rfl ?_
  exact ⟨rfl, hst0.chg (by simp)⟩
theorem evalid_z (w : World)  (eb : Nat) (hR : (blk eb 45 [(.pointer none), (.pointer none), (.int .u64 0), (.int .u64 0), (.int .i64 0), (.bool false), (.int .u64 0)]).holds w) :
    CR Tryz.prog 14 #[(.pointer (some ⟨eb, 0, none⟩))] w (fun r w' => r = (.bool false) ∧ Chg [] w w') := by
  refine enter (vs := [(.pointer (some ⟨eb, 0, none⟩))]) Tryz.func14 rfl Tryz.ntmps14 rfl ?_
  have hst0 := St.init w
  refine sq fun K₁ hK₁ => ?_
  refine rg ?_
  refine asg (v := (.bool false)) rfl rfl ?_
  refine wl_nil ?_
  refine tN ((hK₁ _ _ ?_))
  refine sq fun K₂ hK₂ => ?_
  refine rg ?_
  refine mv (v := (.pointer (some ⟨eb, 0, none⟩))) rfl rfl ?_
  refine neP (a := some ⟨eb, 0, none⟩) (c := true) rfl rfl rfl Tryz.underlying28 rfl ?_
  refine mv (v := (.bool true)) rfl rfl ?_
  refine mv (v := (.pointer (some ⟨eb, 0, none⟩))) rfl rfl ?_
  refine nilc (a := ⟨eb, 0, none⟩) rfl rfl ?_
  refine fa (o := 0) (o' := 0) rfl rfl Tryz.underlying45 rfl ti29 rfl ?_
  refine ld (a := ⟨eb, 0, none⟩) (v := (.pointer none)) rfl rfl Tryz.underlying29 rfl (St.roCell hst0 (by simp) hR rfl) ?_
  refine neP (a := none) (c := false) rfl rfl rfl Tryz.underlying29 rfl ?_
  refine pkT (v := (.bool false)) rfl rfl rfl ?_
  refine asg (v := (.bool false)) rfl rfl ?_
  refine wl_nil ?_
  refine tN ((hK₂ _ _ ?_))
  refine rt ?_
  refine ret1 (v := (.bool false)) Tryz.results14 rfl ?_
  exact ⟨rfl, hst0.chg (by simp)⟩
theorem Done_n (w : World)   :
    CR Tryz.prog 5 #[(.pointer none)] w (fun r w' => r = (.tuple #[(.int .u64 0), (.int .u64 0)]) ∧ Chg [] w w') := by
  refine enter (vs := [(.pointer none)]) Tryz.func5 rfl Tryz.ntmps5 rfl ?_
  have hst0 := St.init w
  refine sq fun K₁ hK₁ => ?_
  refine rg ?_
  refine asg (v := (.int .u64 0)) rfl rfl ?_
  refine asg (v := (.int .u64 0)) rfl rfl ?_
  refine wl_nil ?_
  refine tN ((hK₁ _ _ ?_))
  refine sq fun K₂ hK₂ => ?_
  refine sq fun K₃ hK₃ => ?_
  refine rg ?_
  refine mv (v := (.pointer none)) rfl rfl ?_
  refine clF (vl := [(.pointer none)]) rfl rfl ent14 (evalid_n w ) ?_
  rintro _ w₁ ⟨rfl, hq₁⟩
  have hs₁ : St _ [] w₁ := St.grow hst0 hq₁
  refine not (b := false) (c := true) rfl rfl rfl ?_
  refine wl_nil ?_
  refine tN ((hK₃ _ _ ?_))
  refine cdT rfl ?_
  refine sq fun K₄ hK₄ => ?_
  refine rg ?_
  refine asg (v := (.int .u64 0)) rfl rfl ?_
  refine asg (v := (.int .u64 0)) rfl rfl ?_
  refine wl_nil ?_
  refine tN ((hK₄ _ _ ?_))
  refine rt ?_
  refine tR (?_)
  refine ret2 (v := (.int .u64 0)) (v' := (.int .u64 0)) Tryz.results5 rfl rfl ?_
  exact ⟨rfl, hs₁.chg (by simp)⟩
theorem Done_z (w : World)  (eb : Nat) (hR : (blk eb 45 [(.pointer none), (.pointer none), (.int .u64 0), (.int .u64 0), (.int .i64 0), (.bool false), (.int .u64 0)]).holds w) :
    CR Tryz.prog 5 #[(.pointer (some ⟨eb, 0, none⟩))] w (fun r w' => r = (.tuple #[(.int .u64 0), (.int .u64 0)]) ∧ Chg [] w w') := by
  refine enter (vs := [(.pointer (some ⟨eb, 0, none⟩))]) Tryz.func5 rfl Tryz.ntmps5 rfl ?_
  have hst0 := St.init w
  refine sq fun K₁ hK₁ => ?_
  refine rg ?_
  refine asg (v := (.int .u64 0)) rfl rfl ?_
  refine asg (v := (.int .u64 0)) rfl rfl ?_
  refine wl_nil ?_
  refine tN ((hK₁ _ _ ?_))
  refine sq fun K₂ hK₂ => ?_
  refine sq fun K₃ hK₃ => ?_
  refine rg ?_
  refine mv (v := (.pointer (some ⟨eb, 0, none⟩))) rfl rfl ?_
  refine clF (vl := [(.pointer (some ⟨eb, 0, none⟩))]) rfl rfl ent14 (evalid_z w  eb (St.roBlk hst0 (by simp) hR)) ?_
  rintro _ w₁ ⟨rfl, hq₁⟩
  have hs₁ : St _ [] w₁ := St.grow hst0 hq₁
  refine not (b := false) (c := true) rfl rfl rfl ?_
  refine wl_nil ?_
  refine tN ((hK₃ _ _ ?_))
  refine cdT rfl ?_
  refine sq fun K₄ hK₄ => ?_
  refine rg ?_
  refine asg (v := (.int .u64 0)) rfl rfl ?_
  refine asg (v := (.int .u64 0)) rfl rfl ?_
  refine wl_nil ?_
  refine tN ((hK₄ _ _ ?_))
  refine rt ?_
  refine tR (?_)
  refine ret2 (v := (.int .u64 0)) (v' := (.int .u64 0)) Tryz.results5 rfl rfl ?_
  exact ⟨rfl, hs₁.chg (by simp)⟩
theorem Builds_n (w : World)   :
    CR Tryz.prog 9 #[(.pointer none)] w (fun r w' => r = (.int .i64 0) ∧ Chg [] w w') := by
  refine enter (vs := [(.pointer none)]) Tryz.func9 rfl Tryz.ntmps9 rfl ?_
  have hst0 := St.init w
  refine sq fun K₁ hK₁ => ?_
  refine rg ?_
  refine asg (v := (.int .i64 0)) rfl rfl ?_
  refine wl_nil ?_
  refine tN ((hK₁ _ _ ?_))
  refine sq fun K₂ hK₂ => ?_
  refine sq fun K₃ hK₃ => ?_
  refine rg ?_
  refine mv (v := (.pointer none)) rfl rfl ?_
  refine clF (vl := [(.pointer none)]) rfl rfl ent14 (evalid_n w ) ?_
  rintro _ w₁ ⟨rfl, hq₁⟩
  have hs₁ : St _ [] w₁ := St.grow hst0 hq₁
  refine not (b := false) (c := true) rfl rfl rfl ?_
  refine wl_nil ?_
  refine tN ((hK₃ _ _ ?_))
  refine cdT rfl ?_
  refine sq fun K₄ hK₄ => ?_
  refine rg ?_
  refine asg (v := (.int .i64 0)) rfl rfl ?_
  refine wl_nil ?_
  refine tN ((hK₄ _ _ ?_))
  refine rt ?_
  refine tR (?_)
  refine ret1 (v := (.int .i64 0)) Tryz.results9 rfl ?_
  exact ⟨rfl, hs₁.chg (by simp)⟩
theorem Builds_z (w : World)  (eb : Nat) (hR : (blk eb 45 [(.pointer none), (.pointer none), (.int .u64 0), (.int .u64 0), (.int .i64 0), (.bool false), (.int .u64 0)]).holds w) :
    CR Tryz.prog 9 #[(.pointer (some ⟨eb, 0, none⟩))] w (fun r w' => r = (.int .i64 0) ∧ Chg [] w w') := by
  refine enter (vs := [(.pointer (some ⟨eb, 0, none⟩))]) Tryz.func9 rfl Tryz.ntmps9 rfl ?_
  have hst0 := St.init w
  refine sq fun K₁ hK₁ => ?_
  refine rg ?_
  refine asg (v := (.int .i64 0)) rfl rfl ?_
  refine wl_nil ?_
  refine tN ((hK₁ _ _ ?_))
  refine sq fun K₂ hK₂ => ?_
  refine sq fun K₃ hK₃ => ?_
  refine rg ?_
  refine mv (v := (.pointer (some ⟨eb, 0, none⟩))) rfl rfl ?_
  refine clF (vl := [(.pointer (some ⟨eb, 0, none⟩))]) rfl rfl ent14 (evalid_z w  eb (St.roBlk hst0 (by simp) hR)) ?_
  rintro _ w₁ ⟨rfl, hq₁⟩
  have hs₁ : St _ [] w₁ := St.grow hst0 hq₁
  refine not (b := false) (c := true) rfl rfl rfl ?_
  refine wl_nil ?_
  refine tN ((hK₃ _ _ ?_))
  refine cdT rfl ?_
  refine sq fun K₄ hK₄ => ?_
  refine rg ?_
  refine asg (v := (.int .i64 0)) rfl rfl ?_
  refine wl_nil ?_
  refine tN ((hK₄ _ _ ?_))
  refine rt ?_
  refine tR (?_)
  refine ret1 (v := (.int .i64 0)) Tryz.results9 rfl ?_
  exact ⟨rfl, hs₁.chg (by simp)⟩
theorem Window_n (w : World)   :
    CR Tryz.prog 8 #[(.pointer none)] w (fun r w' => r = (.pointer none) ∧ Chg [] w w') := by
  refine enter (vs := [(.pointer none)]) Tryz.func8 rfl Tryz.ntmps8 rfl ?_
  have hst0 := St.init w
  refine sq fun K₁ hK₁ => ?_
  refine rg ?_
  refine asg (v := (.pointer none)) rfl rfl ?_
  refine wl_nil ?_
  refine tN ((hK₁ _ _ ?_))
  refine sq fun K₂ hK₂ => ?_
  refine sq fun K₃ hK₃ => ?_
  refine rg ?_
  refine mv (v := (.pointer none)) rfl rfl ?_
  refine clF (vl := [(.pointer none)]) rfl rfl ent14 (evalid_n w ) ?_
  rintro _ w₁ ⟨rfl, hq₁⟩
  have hs₁ : St _ [] w₁ := St.grow hst0 hq₁
  refine not (b := false) (c := true) rfl rfl rfl ?_
  refine wl_nil ?_
  refine tN ((hK₃ _ _ ?_))
  refine cdT rfl ?_
  refine sq fun K₄ hK₄ => ?_
  refine rg ?_
  refine asg (v := (.pointer none)) rfl rfl ?_
  refine wl_nil ?_
  refine tN ((hK₄ _ _ ?_))
  refine rt ?_
  refine tR (?_)
  refine ret1 (v := (.pointer none)) Tryz.results8 rfl ?_
  exact ⟨rfl, hs₁.chg (by simp)⟩
theorem Window_z (w : World)  (eb : Nat) (hR : (blk eb 45 [(.pointer none), (.pointer none), (.int .u64 0), (.int .u64 0), (.int .i64 0), (.bool false), (.int .u64 0)]).holds w) :
    CR Tryz.prog 8 #[(.pointer (some ⟨eb, 0, none⟩))] w (fun r w' => r = (.pointer none) ∧ Chg [] w w') := by
  refine enter (vs := [(.pointer (some ⟨eb, 0, none⟩))]) Tryz.func8 rfl Tryz.ntmps8 rfl ?_
  have hst0 := St.init w
  refine sq fun K₁ hK₁ => ?_
  refine rg ?_
  refine asg (v := (.pointer none)) rfl rfl ?_
  refine wl_nil ?_
  refine tN ((hK₁ _ _ ?_))
  refine sq fun K₂ hK₂ => ?_
  refine sq fun K₃ hK₃ => ?_
  refine rg ?_
  refine mv (v := (.pointer (some ⟨eb, 0, none⟩))) rfl rfl ?_
  refine clF (vl := [(.pointer (some ⟨eb, 0, none⟩))]) rfl rfl ent14 (evalid_z w  eb (St.roBlk hst0 (by simp) hR)) ?_
  rintro _ w₁ ⟨rfl, hq₁⟩
  have hs₁ : St _ [] w₁ := St.grow hst0 hq₁
  refine not (b := false) (c := true) rfl rfl rfl ?_
  refine wl_nil ?_
  refine tN ((hK₃ _ _ ?_))
  refine cdT rfl ?_
  refine sq fun K₄ hK₄ => ?_
  refine rg ?_
  refine asg (v := (.pointer none)) rfl rfl ?_
  refine wl_nil ?_
  refine tN ((hK₄ _ _ ?_))
  refine rt ?_
  refine tR (?_)
  refine ret1 (v := (.pointer none)) Tryz.results8 rfl ?_
  exact ⟨rfl, hs₁.chg (by simp)⟩
theorem Copy_n (w : World)   :
    CR Tryz.prog 10 #[(.pointer none)] w (fun r w' => r = (.pointer none) ∧ Chg [] w w') := by
  refine enter (vs := [(.pointer none)]) Tryz.func10 rfl Tryz.ntmps10 rfl ?_
  have hst0 := St.init w
  refine sq fun K₁ hK₁ => ?_
  refine rg ?_
  refine asg (v := (.pointer none)) rfl rfl ?_
  refine wl_nil ?_
  refine tN ((hK₁ _ _ ?_))
  refine sq fun K₂ hK₂ => ?_
  refine sq fun K₃ hK₃ => ?_
  refine rg ?_
  refine mv (v := (.pointer none)) rfl rfl ?_
  refine clF (vl := [(.pointer none)]) rfl rfl ent14 (evalid_n w ) ?_
  rintro _ w₁ ⟨rfl, hq₁⟩
  have hs₁ : St _ [] w₁ := St.grow hst0 hq₁
  refine not (b := false) (c := true) rfl rfl rfl ?_
  refine wl_nil ?_
  refine tN ((hK₃ _ _ ?_))
  refine cdT rfl ?_
  refine sq fun K₄ hK₄ => ?_
  refine rg ?_
  refine asg (v := (.pointer none)) rfl rfl ?_
  refine wl_nil ?_
  refine tN ((hK₄ _ _ ?_))
  refine rt ?_
  refine tR (?_)
  refine ret1 (v := (.pointer none)) Tryz.results10 rfl ?_
  exact ⟨rfl, hs₁.chg (by simp)⟩
theorem Copy_z (w : World)  (eb : Nat) (hR : (blk eb 45 [(.pointer none), (.pointer none), (.int .u64 0), (.int .u64 0), (.int .i64 0), (.bool false), (.int .u64 0)]).holds w) :
    CR Tryz.prog 10 #[(.pointer (some ⟨eb, 0, none⟩))] w (fun r w' => r = (.pointer none) ∧ Chg [] w w') := by
  refine enter (vs := [(.pointer (some ⟨eb, 0, none⟩))]) Tryz.func10 rfl Tryz.ntmps10 rfl ?_
  have hst0 := St.init w
  refine sq fun K₁ hK₁ => ?_
  refine rg ?_
  refine asg (v := (.pointer none)) rfl rfl ?_
  refine wl_nil ?_
  refine tN ((hK₁ _ _ ?_))
  refine sq fun K₂ hK₂ => ?_
  refine sq fun K₃ hK₃ => ?_
  refine rg ?_
  refine mv (v := (.pointer (some ⟨eb, 0, none⟩))) rfl rfl ?_
  refine clF (vl := [(.pointer (some ⟨eb, 0, none⟩))]) rfl rfl ent14 (evalid_z w  eb (St.roBlk hst0 (by simp) hR)) ?_
  rintro _ w₁ ⟨rfl, hq₁⟩
  have hs₁ : St _ [] w₁ := St.grow hst0 hq₁
  refine not (b := false) (c := true) rfl rfl rfl ?_
  refine wl_nil ?_
  refine tN ((hK₃ _ _ ?_))
  refine cdT rfl ?_
  refine sq fun K₄ hK₄ => ?_
  refine rg ?_
  refine asg (v := (.pointer none)) rfl rfl ?_
  refine wl_nil ?_
  refine tN ((hK₄ _ _ ?_))
  refine rt ?_
  refine tR (?_)
  refine ret1 (v := (.pointer none)) Tryz.results10 rfl ?_
  exact ⟨rfl, hs₁.chg (by simp)⟩
theorem Do_n (w : World) (op u v wt t : Int) (dv bv : Value) (hd : dv.oneCell' = true) (hb : bv.oneCell' = true)  :
    CR Tryz.prog 7 #[(.pointer none), (.agg #[(.int .i64 op), (.int .u64 u), (.int .u64 v), (.int .i64 wt), (.int .i64 t), dv, bv])] w (fun r w' => r = (.agg #[(.int .i64 op), (.int .i64 1), (.bool false), (.slice none 0 0), (.slice none 0 0)]) ∧ Chg [] w w') := by
  refine enter (vs := [(.pointer none), (.agg #[(.int .i64 op), (.int .u64 u), (.int .u64 v), (.int .i64 wt), (.int .i64 t), dv, bv])]) Tryz.func7 rfl Tryz.ntmps7 rfl ?_
  have hst0 := St.init w
  refine sq fun K₁ hK₁ => ?_
  refine rg ?_
  refine bx (v := (.agg #[(.int .i64 op), (.int .u64 u), (.int .u64 v), (.int .i64 wt), (.int .i64 t), dv, bv])) (cs := [(.int .i64 op), (.int .u64 u), (.int .u64 v), (.int .i64 wt), (.int .i64 t), dv, bv]) rfl rfl rfl hst0 ?_
  intro b₁ w₁ hn₁ hc₁ hs₁
  refine al (cs := [(.int .i64 0), (.int .i64 0), (.bool false), (.slice none 0 0), (.slice none 0 0)]) rfl ti51 rfl hs₁ ?_
  intro b₂ w₂ hn₂ hc₂ hs₂
  refine wl_nil ?_
  refine tN ((hK₁ _ _ ?_))
  refine sq fun K₂ hK₂ => ?_
  refine sq fun K₃ hK₃ => ?_
  refine rg ?_
  refine mv (v := (.pointer none)) rfl rfl ?_
  refine clF (vl := [(.pointer none)]) rfl rfl ent14 (evalid_n w₂ ) ?_
  rintro _ w₃ ⟨rfl, hq₁⟩
  have hs₃ : St _ [blk b₂ 51 [(.int .i64 0), (.int .i64 0), (.bool false), (.slice none 0 0), (.slice none 0 0)], blk b₁ 27 [(.int .i64 op), (.int .u64 u), (.int .u64 v), (.int .i64 wt), (.int .i64 t), dv, bv]] w₃ := St.grow hs₂ hq₁
  refine not (b := false) (c := true) rfl rfl rfl ?_
  refine wl_nil ?_
  refine tN ((hK₃ _ _ ?_))
  refine cdT rfl ?_
  refine sq fun K₄ hK₄ => ?_
  refine rg ?_
  refine fa (o := 0) (o' := 0) rfl rfl Tryz.underlying27 rfl ti22 rfl ?_
  refine ld (a := ⟨b₁, 0, none⟩) (v := (.int .i64 op)) rfl rfl Tryz.underlying22 rfl (St.blkCell hs₃ (i := 1) rfl rfl) ?_
  refine bld (pvs := [(0, (.int .i64 op)), (1, (.int .i64 1))]) (v := .agg #[(.int .i64 op), (.int .i64 1), (.bool false), (.slice none 0 0), (.slice none 0 0)]) rfl rfl (buildS [(0, [(.int .i64 op)]), (1, [(.int .i64 1)])] ti51 pl51 rfl ⟨rfl, rfl, rfl, rfl, trivial⟩ rfl) ?_
  refine sto (v := (.agg #[(.int .i64 op), (.int .i64 1), (.bool false), (.slice none 0 0), (.slice none 0 0)])) (vs := [(.int .i64 op), (.int .i64 1), (.bool false), (.slice none 0 0), (.slice none 0 0)]) (cs' := [(.int .i64 op), (.int .i64 1), (.bool false), (.slice none 0 0), (.slice none 0 0)]) (L' := [blk b₂ 51 [(.int .i64 op), (.int .i64 1), (.bool false), (.slice none 0 0), (.slice none 0 0)], blk b₁ 27 [(.int .i64 op), (.int .u64 u), (.int .u64 v), (.int .i64 wt), (.int .i64 t), dv, bv]]) 0 rfl rfl rfl rfl ti51 rfl rfl hs₃ rfl rfl rfl rfl ?_
  intro w₄ hs₄
  refine wl_nil ?_
  refine tN ((hK₄ _ _ ?_))
  refine rt ?_
  refine tR (?_)
  refine retL1 (v := (.agg #[(.int .i64 op), (.int .i64 1), (.bool false), (.slice none 0 0), (.slice none 0 0)])) Tryz.results7 (rvA (cs := [(.int .i64 op), (.int .i64 1), (.bool false), (.slice none 0 0), (.slice none 0 0)]) rfl Tryz.underlying51 rfl ti51 rfl (St.blkCells hs₄ (i := 0) (o := 0) (vs := [(.int .i64 op), (.int .i64 1), (.bool false), (.slice none 0 0), (.slice none 0 0)]) rfl rfl)) ?_
  exact ⟨rfl, hs₄.chg (by simp)⟩
theorem Do_z (w : World) (op u v wt t : Int) (dv bv : Value) (hd : dv.oneCell' = true) (hb : bv.oneCell' = true) (eb : Nat) (hR : (blk eb 45 [(.pointer none), (.pointer none), (.int .u64 0), (.int .u64 0), (.int .i64 0), (.bool false), (.int .u64 0)]).holds w) :
    CR Tryz.prog 7 #[(.pointer (some ⟨eb, 0, none⟩)), (.agg #[(.int .i64 op), (.int .u64 u), (.int .u64 v), (.int .i64 wt), (.int .i64 t), dv, bv])] w (fun r w' => r = (.agg #[(.int .i64 op), (.int .i64 1), (.bool false), (.slice none 0 0), (.slice none 0 0)]) ∧ Chg [] w w') := by
  refine enter (vs := [(.pointer (some ⟨eb, 0, none⟩)), (.agg #[(.int .i64 op), (.int .u64 u), (.int .u64 v), (.int .i64 wt), (.int .i64 t), dv, bv])]) Tryz.func7 rfl Tryz.ntmps7 rfl ?_
  have hst0 := St.init w
  refine sq fun K₁ hK₁ => ?_
  refine rg ?_
  refine bx (v := (.agg #[(.int .i64 op), (.int .u64 u), (.int .u64 v), (.int .i64 wt), (.int .i64 t), dv, bv])) (cs := [(.int .i64 op), (.int .u64 u), (.int .u64 v), (.int .i64 wt), (.int .i64 t), dv, bv]) rfl rfl rfl hst0 ?_
  intro b₁ w₁ hn₁ hc₁ hs₁
  refine al (cs := [(.int .i64 0), (.int .i64 0), (.bool false), (.slice none 0 0), (.slice none 0 0)]) rfl ti51 rfl hs₁ ?_
  intro b₂ w₂ hn₂ hc₂ hs₂
  refine wl_nil ?_
  refine tN ((hK₁ _ _ ?_))
  refine sq fun K₂ hK₂ => ?_
  refine sq fun K₃ hK₃ => ?_
  refine rg ?_
  refine mv (v := (.pointer (some ⟨eb, 0, none⟩))) rfl rfl ?_
  refine clF (vl := [(.pointer (some ⟨eb, 0, none⟩))]) rfl rfl ent14 (evalid_z w₂  eb (St.roBlk hs₂ (by simp) hR)) ?_
  rintro _ w₃ ⟨rfl, hq₁⟩
  have hs₃ : St _ [blk b₂ 51 [(.int .i64 0), (.int .i64 0), (.bool false), (.slice none 0 0), (.slice none 0 0)], blk b₁ 27 [(.int .i64 op), (.int .u64 u), (.int .u64 v), (.int .i64 wt), (.int .i64 t), dv, bv]] w₃ := St.grow hs₂ hq₁
  refine not (b := false) (c := true) rfl rfl rfl ?_
  refine wl_nil ?_
  refine tN ((hK₃ _ _ ?_))
  refine cdT rfl ?_
  refine sq fun K₄ hK₄ => ?_
  refine rg ?_
  refine fa (o := 0) (o' := 0) rfl rfl Tryz.underlying27 rfl ti22 rfl ?_
  refine ld (a := ⟨b₁, 0, none⟩) (v := (.int .i64 op)) rfl rfl Tryz.underlying22 rfl (St.blkCell hs₃ (i := 1) rfl rfl) ?_
  refine bld (pvs := [(0, (.int .i64 op)), (1, (.int .i64 1))]) (v := .agg #[(.int .i64 op), (.int .i64 1), (.bool false), (.slice none 0 0), (.slice none 0 0)]) rfl rfl (buildS [(0, [(.int .i64 op)]), (1, [(.int .i64 1)])] ti51 pl51 rfl ⟨rfl, rfl, rfl, rfl, trivial⟩ rfl) ?_
  refine sto (v := (.agg #[(.int .i64 op), (.int .i64 1), (.bool false), (.slice none 0 0), (.slice none 0 0)])) (vs := [(.int .i64 op), (.int .i64 1), (.bool false), (.slice none 0 0), (.slice none 0 0)]) (cs' := [(.int .i64 op), (.int .i64 1), (.bool false), (.slice none 0 0), (.slice none 0 0)]) (L' := [blk b₂ 51 [(.int .i64 op), (.int .i64 1), (.bool false), (.slice none 0 0), (.slice none 0 0)], blk b₁ 27 [(.int .i64 op), (.int .u64 u), (.int .u64 v), (.int .i64 wt), (.int .i64 t), dv, bv]]) 0 rfl rfl rfl rfl ti51 rfl rfl hs₃ rfl rfl rfl rfl ?_
  intro w₄ hs₄
  refine wl_nil ?_
  refine tN ((hK₄ _ _ ?_))
  refine rt ?_
  refine tR (?_)
  refine retL1 (v := (.agg #[(.int .i64 op), (.int .i64 1), (.bool false), (.slice none 0 0), (.slice none 0 0)])) Tryz.results7 (rvA (cs := [(.int .i64 op), (.int .i64 1), (.bool false), (.slice none 0 0), (.slice none 0 0)]) rfl Tryz.underlying51 rfl ti51 rfl (St.blkCells hs₄ (i := 0) (o := 0) (vs := [(.int .i64 op), (.int .i64 1), (.bool false), (.slice none 0 0), (.slice none 0 0)]) rfl rfl)) ?_
  exact ⟨rfl, hs₄.chg (by simp)⟩
theorem wvalid_n (w : World)   :
    CR Tryz.prog 24 #[(.pointer none)] w (fun r w' => r = (.bool false) ∧ Chg [] w w') := by
  refine enter (vs := [(.pointer none)]) Tryz.func24 rfl Tryz.ntmps24 rfl ?_
  have hst0 := St.init w
  refine sq fun K₁ hK₁ => ?_
  refine rg ?_
  refine asg (v := (.bool false)) rfl rfl ?_
  refine wl_nil ?_
  refine tN ((hK₁ _ _ ?_))
  refine sq fun K₂ hK₂ => ?_
  refine rg ?_
  refine mv (v := (.pointer none)) rfl rfl ?_
  refine neP (a := none) (c := false) rfl rfl rfl Tryz.underlying29 rfl ?_
  refine mv (v := (.bool false)) rfl rfl ?_
  refine sk rfl ?_
  refine sk rfl ?_
  refine sk rfl ?_
  refine sk rfl ?_
  refine sk rfl ?_
  refine pkF (v := (.bool false)) rfl rfl rfl ?_
  refine asg (v := (.bool false)) rfl rfl ?_
  refine wl_nil ?_
  refine tN ((hK₂ _ _ ?_))
  refine rt ?_
  refine ret1 (v := (.bool false)) Tryz.results24 rfl ?_
  exact ⟨rfl, hst0.chg (by simp)⟩
theorem wvalid_z (w : World)  (eb : Nat) (hR : (blk eb 40 [(.int .i64 0), (.int .i64 0), (.int .i64 0), (.int .i64 0), (.pointer none), (.pointer none), (.pointer none), (.pointer none), (.int .u64 0), (.int .u64 0)]).holds w) :
    CR Tryz.prog 24 #[(.pointer (some ⟨eb, 0, none⟩))] w (fun r w' => r = (.bool false) ∧ Chg [] w w') := by
  refine enter (vs := [(.pointer (some ⟨eb, 0, none⟩))]) Tryz.func24 rfl Tryz.ntmps24 rfl ?_
  have hst0 := St.init w
  refine sq fun K₁ hK₁ => ?_
  refine rg ?_
  refine asg (v := (.bool false)) rfl rfl ?_
  refine wl_nil ?_
  refine tN ((hK₁ _ _ ?_))
  refine sq fun K₂ hK₂ => ?_
  refine rg ?_
  refine mv (v := (.pointer (some ⟨eb, 0, none⟩))) rfl rfl ?_
  refine neP (a := some ⟨eb, 0, none⟩) (c := true) rfl rfl rfl Tryz.underlying29 rfl ?_
  refine mv (v := (.bool true)) rfl rfl ?_
  refine mv (v := (.pointer (some ⟨eb, 0, none⟩))) rfl rfl ?_
  refine nilc (a := ⟨eb, 0, none⟩) rfl rfl ?_
  refine fa (o := 0) (o' := 4) rfl rfl Tryz.underlying40 rfl ti35 rfl ?_
  refine ld (a := ⟨eb, 4, none⟩) (v := (.pointer none)) rfl rfl Tryz.underlying35 rfl (St.roCell hst0 (by simp) hR rfl) ?_
  refine neP (a := none) (c := false) rfl rfl rfl Tryz.underlying35 rfl ?_
  refine pkT (v := (.bool false)) rfl rfl rfl ?_
  refine asg (v := (.bool false)) rfl rfl ?_
  refine wl_nil ?_
  refine tN ((hK₂ _ _ ?_))
  refine rt ?_
  refine ret1 (v := (.bool false)) Tryz.results24 rfl ?_
  exact ⟨rfl, hst0.chg (by simp)⟩
theorem WCopy_n (w : World)   :
    CR Tryz.prog 13 #[(.pointer none)] w (fun r w' => r = (.pointer none) ∧ Chg [] w w') := by
  refine enter (vs := [(.pointer none)]) Tryz.func13 rfl Tryz.ntmps13 rfl ?_
  have hst0 := St.init w
  refine sq fun K₁ hK₁ => ?_
  refine rg ?_
  refine asg (v := (.pointer none)) rfl rfl ?_
  refine wl_nil ?_
  refine tN ((hK₁ _ _ ?_))
  refine sq fun K₂ hK₂ => ?_
  refine sq fun K₃ hK₃ => ?_
  refine rg ?_
  refine mv (v := (.pointer none)) rfl rfl ?_
  refine clF (vl := [(.pointer none)]) rfl rfl ent24 (wvalid_n w ) ?_
  rintro _ w₁ ⟨rfl, hq₁⟩
  have hs₁ : St _ [] w₁ := St.grow hst0 hq₁
  refine not (b := false) (c := true) rfl rfl rfl ?_
  refine wl_nil ?_
  refine tN ((hK₃ _ _ ?_))
  refine cdT rfl ?_
  refine sq fun K₄ hK₄ => ?_
  refine rg ?_
  refine asg (v := (.pointer none)) rfl rfl ?_
  refine wl_nil ?_
  refine tN ((hK₄ _ _ ?_))
  refine rt ?_
  refine tR (?_)
  refine ret1 (v := (.pointer none)) Tryz.results13 rfl ?_
  exact ⟨rfl, hs₁.chg (by simp)⟩
theorem WCopy_z (w : World)  (eb : Nat) (hR : (blk eb 40 [(.int .i64 0), (.int .i64 0), (.int .i64 0), (.int .i64 0), (.pointer none), (.pointer none), (.pointer none), (.pointer none), (.int .u64 0), (.int .u64 0)]).holds w) :
    CR Tryz.prog 13 #[(.pointer (some ⟨eb, 0, none⟩))] w (fun r w' => r = (.pointer none) ∧ Chg [] w w') := by
  refine enter (vs := [(.pointer (some ⟨eb, 0, none⟩))]) Tryz.func13 rfl Tryz.ntmps13 rfl ?_
  have hst0 := St.init w
  refine sq fun K₁ hK₁ => ?_
  refine rg ?_
  refine asg (v := (.pointer none)) rfl rfl ?_
  refine wl_nil ?_
  refine tN ((hK₁ _ _ ?_))
  refine sq fun K₂ hK₂ => ?_
  refine sq fun K₃ hK₃ => ?_
  refine rg ?_
  refine mv (v := (.pointer (some ⟨eb, 0, none⟩))) rfl rfl ?_
  refine clF (vl := [(.pointer (some ⟨eb, 0, none⟩))]) rfl rfl ent24 (wvalid_z w  eb (St.roBlk hst0 (by simp) hR)) ?_
  rintro _ w₁ ⟨rfl, hq₁⟩
  have hs₁ : St _ [] w₁ := St.grow hst0 hq₁
  refine not (b := false) (c := true) rfl rfl rfl ?_
  refine wl_nil ?_
  refine tN ((hK₃ _ _ ?_))
  refine cdT rfl ?_
  refine sq fun K₄ hK₄ => ?_
  refine rg ?_
  refine asg (v := (.pointer none)) rfl rfl ?_
  refine wl_nil ?_
  refine tN ((hK₄ _ _ ?_))
  refine rt ?_
  refine tR (?_)
  refine ret1 (v := (.pointer none)) Tryz.results13 rfl ?_
  exact ⟨rfl, hs₁.chg (by simp)⟩
theorem VNew_n (w : World) :
    CR Tryz.prog 23 #[(.pointer none)] w (fun r w' => r = (.tuple #[(.pointer none), (.int .i64 1)]) ∧ Chg [] w w') := by
  refine enter (vs := [(.pointer none)]) Tryz.func23 rfl Tryz.ntmps23 rfl ?_
  have hst0 := St.init w
  refine sq fun K₁ hK₁ => ?_
  refine rg ?_
  refine asg (v := (.pointer none)) rfl rfl ?_
  refine asg (v := (.int .i64 0)) rfl rfl ?_
  refine wl_nil ?_
  refine tN ((hK₁ _ _ ?_))
  refine sq fun K₂ hK₂ => ?_
  refine sq fun K₃ hK₃ => ?_
  refine rg ?_
  refine mv (v := (.pointer none)) rfl rfl ?_
  refine eqP (a := none) (c := true) rfl rfl rfl Tryz.underlying29 rfl ?_
  refine mv (v := (.bool true)) rfl rfl ?_
  refine sk rfl ?_
  refine sk rfl ?_
  refine sk rfl ?_
  refine sk rfl ?_
  refine pkT (v := (.bool true)) rfl rfl rfl ?_
  refine wl_nil ?_
  refine tN ((hK₃ _ _ ?_))
  refine cdT rfl ?_
  refine sq fun K₄ hK₄ => ?_
  refine rg ?_
  refine asg (v := (.pointer none)) rfl rfl ?_
  refine asg (v := (.int .i64 1)) rfl rfl ?_
  refine wl_nil ?_
  refine tN ((hK₄ _ _ ?_))
  refine rt ?_
  refine tR (?_)
  refine ret2 (v := (.pointer none)) (v' := (.int .i64 1)) Tryz.results23 rfl rfl ?_
  exact ⟨rfl, hst0.chg (by simp)⟩
theorem over_n (w : World) :
    CR Tryz.prog 12 #[(.pointer none)] w (fun r w' => r = (.tuple #[(.pointer none), (.int .i64 1)]) ∧ Chg [] w w') := by
  refine enter (vs := [(.pointer none)]) Tryz.func12 rfl Tryz.ntmps12 rfl ?_
  have hst0 := St.init w
  refine sq fun K₁ hK₁ => ?_
  refine rg ?_
  refine asg (v := (.pointer none)) rfl rfl ?_
  refine asg (v := (.int .i64 0)) rfl rfl ?_
  refine wl_nil ?_
  refine tN ((hK₁ _ _ ?_))
  refine sq fun K₂ hK₂ => ?_
  refine rg ?_
  refine mv (v := (.pointer none)) rfl rfl ?_
  refine clF (vl := [(.pointer none)]) rfl rfl ent23 (VNew_n w ) ?_
  rintro _ w₁ ⟨rfl, hq₁⟩
  have hs₁ : St _ [] w₁ := St.grow hst0 hq₁
  refine mv (v := (.tuple #[(.pointer none), (.int .i64 1)])) rfl rfl ?_
  refine ex (vs := #[(.pointer none), (.int .i64 1)]) (v := (.pointer none)) rfl rfl rfl ?_
  refine ex (vs := #[(.pointer none), (.int .i64 1)]) (v := (.int .i64 1)) rfl rfl rfl ?_
  refine asg (v := (.pointer none)) rfl rfl ?_
  refine asg (v := (.int .i64 1)) rfl rfl ?_
  refine wl_nil ?_
  refine tN ((hK₂ _ _ ?_))
  refine sq fun K₃ hK₃ => ?_
  refine sq fun K₄ hK₄ => ?_
  refine rg ?_
  refine mv (v := (.int .i64 1)) rfl rfl ?_
  refine cmp (a := 1) (b := 0) rfl rfl rfl (c_ne (by decide)) ?_
  refine wl_nil ?_
  refine tN ((hK₄ _ _ ?_))
  refine cdT rfl ?_
  refine sq fun K₅ hK₅ => ?_
  refine rg ?_
  refine mv (v := (.int .i64 1)) rfl rfl ?_
  refine asg (v := (.pointer none)) rfl rfl ?_
  refine asg (v := (.int .i64 1)) rfl rfl ?_
  refine wl_nil ?_
  refine tN ((hK₅ _ _ ?_))
  refine rt ?_
  refine tR (?_)
  refine ret2 (v := (.pointer none)) (v' := (.int .i64 1)) Tryz.results12 rfl rfl ?_
  exact ⟨rfl, hs₁.chg (by simp)⟩
theorem On_n (w : World)   :
    CR Tryz.prog 4 #[(.pointer none)] w (fun r w' => r = (.tuple #[(.pointer none), (.int .i64 1)]) ∧ Chg [] w w') := by
  refine enter (vs := [(.pointer none)]) Tryz.func4 rfl Tryz.ntmps4 rfl ?_
  have hst0 := St.init w
  refine sq fun K₁ hK₁ => ?_
  refine rg ?_
  refine asg (v := (.pointer none)) rfl rfl ?_
  refine asg (v := (.int .i64 0)) rfl rfl ?_
  refine wl_nil ?_
  refine tN ((hK₁ _ _ ?_))
  refine sq fun K₂ hK₂ => ?_
  refine rg ?_
  refine mv (v := (.pointer none)) rfl rfl ?_
  refine clF (vl := [(.pointer none)]) rfl rfl ent13 (WCopy_n w ) ?_
  rintro _ w₁ ⟨rfl, hq₁⟩
  have hs₁ : St _ [] w₁ := St.grow hst0 hq₁
  refine clF (vl := [(.pointer none)]) rfl rfl ent12 (over_n w₁ ) ?_
  rintro _ w₂ ⟨rfl, hq₂⟩
  have hs₂ : St _ [] w₂ := St.grow hs₁ hq₂
  refine ex (vs := #[(.pointer none), (.int .i64 1)]) (v := (.pointer none)) rfl rfl rfl ?_
  refine ex (vs := #[(.pointer none), (.int .i64 1)]) (v := (.int .i64 1)) rfl rfl rfl ?_
  refine asg (v := (.pointer none)) rfl rfl ?_
  refine asg (v := (.int .i64 1)) rfl rfl ?_
  refine wl_nil ?_
  refine tN ((hK₂ _ _ ?_))
  refine rt ?_
  refine ret2 (v := (.pointer none)) (v' := (.int .i64 1)) Tryz.results4 rfl rfl ?_
  exact ⟨rfl, hs₂.chg (by simp)⟩
theorem On_z (w : World)  (eb : Nat) (hR : (blk eb 40 [(.int .i64 0), (.int .i64 0), (.int .i64 0), (.int .i64 0), (.pointer none), (.pointer none), (.pointer none), (.pointer none), (.int .u64 0), (.int .u64 0)]).holds w) :
    CR Tryz.prog 4 #[(.pointer (some ⟨eb, 0, none⟩))] w (fun r w' => r = (.tuple #[(.pointer none), (.int .i64 1)]) ∧ Chg [] w w') := by
  refine enter (vs := [(.pointer (some ⟨eb, 0, none⟩))]) Tryz.func4 rfl Tryz.ntmps4 rfl ?_
  have hst0 := St.init w
  refine sq fun K₁ hK₁ => ?_
  refine rg ?_
  refine asg (v := (.pointer none)) rfl rfl ?_
  refine asg (v := (.int .i64 0)) rfl rfl ?_
  refine wl_nil ?_
  refine tN ((hK₁ _ _ ?_))
  refine sq fun K₂ hK₂ => ?_
  refine rg ?_
  refine mv (v := (.pointer (some ⟨eb, 0, none⟩))) rfl rfl ?_
  refine clF (vl := [(.pointer (some ⟨eb, 0, none⟩))]) rfl rfl ent13 (WCopy_z w  eb (St.roBlk hst0 (by simp) hR)) ?_
  rintro _ w₁ ⟨rfl, hq₁⟩
  have hs₁ : St _ [] w₁ := St.grow hst0 hq₁
  refine clF (vl := [(.pointer none)]) rfl rfl ent12 (over_n w₁ ) ?_
  rintro _ w₂ ⟨rfl, hq₂⟩
  have hs₂ : St _ [] w₂ := St.grow hs₁ hq₂
  refine ex (vs := #[(.pointer none), (.int .i64 1)]) (v := (.pointer none)) rfl rfl rfl ?_
  refine ex (vs := #[(.pointer none), (.int .i64 1)]) (v := (.int .i64 1)) rfl rfl rfl ?_
  refine asg (v := (.pointer none)) rfl rfl ?_
  refine asg (v := (.int .i64 1)) rfl rfl ?_
  refine wl_nil ?_
  refine tN ((hK₂ _ _ ?_))
  refine rt ?_
  refine ret2 (v := (.pointer none)) (v' := (.int .i64 1)) Tryz.results4 rfl rfl ?_
  exact ⟨rfl, hs₂.chg (by simp)⟩
theorem Same_r (w : World) (op : Int) :
    CR Tryz.prog 6 #[(.agg #[(.int .i64 op), (.int .i64 1), (.bool false), (.slice none 0 0), (.slice none 0 0)]), (.agg #[(.int .i64 op), (.int .i64 1), (.bool false), (.slice none 0 0), (.slice none 0 0)])] w (fun r w' => r = .bool true ∧ Chg [] w w') := by
  refine enter (vs := [(.agg #[(.int .i64 op), (.int .i64 1), (.bool false), (.slice none 0 0), (.slice none 0 0)]), (.agg #[(.int .i64 op), (.int .i64 1), (.bool false), (.slice none 0 0), (.slice none 0 0)])]) Tryz.func6 rfl Tryz.ntmps6 rfl ?_
  have hst0 := St.init w
  refine sq fun K₁ hK₁ => ?_
  refine rg ?_
  refine bx (v := (.agg #[(.int .i64 op), (.int .i64 1), (.bool false), (.slice none 0 0), (.slice none 0 0)])) (cs := [(.int .i64 op), (.int .i64 1), (.bool false), (.slice none 0 0), (.slice none 0 0)]) rfl rfl rfl hst0 ?_
  intro b₁ w₁ hn₁ hc₁ hs₁
  refine bx (v := (.agg #[(.int .i64 op), (.int .i64 1), (.bool false), (.slice none 0 0), (.slice none 0 0)])) (cs := [(.int .i64 op), (.int .i64 1), (.bool false), (.slice none 0 0), (.slice none 0 0)]) rfl rfl rfl hs₁ ?_
  intro b₂ w₂ hn₂ hc₂ hs₂
  refine asg (v := (.bool false)) rfl rfl ?_
  refine wl_nil ?_
  refine tN ((hK₁ _ _ ?_))
  refine sq fun K₂ hK₂ => ?_
  refine sq fun K₃ hK₃ => ?_
  refine rg ?_
  refine fa (o := 0) (o' := 0) rfl rfl Tryz.underlying51 rfl ti22 rfl ?_
  refine ld (a := ⟨b₁, 0, none⟩) (v := (.int .i64 op)) rfl rfl Tryz.underlying22 rfl (St.blkCell hs₂ (i := 1) rfl rfl) ?_
  refine fa (o := 0) (o' := 0) rfl rfl Tryz.underlying51 rfl ti22 rfl ?_
  refine ld (a := ⟨b₂, 0, none⟩) (v := (.int .i64 op)) rfl rfl Tryz.underlying22 rfl (St.blkCell hs₂ (i := 0) rfl rfl) ?_
  refine cmp (a := op) (b := op) rfl rfl rfl (c_nne rfl) ?_
  refine mv (v := (.bool false)) rfl rfl ?_
  refine fa (o := 0) (o' := 1) rfl rfl Tryz.underlying51 rfl ti30 rfl ?_
  refine ld (a := ⟨b₁, 1, none⟩) (v := (.int .i64 1)) rfl rfl Tryz.underlying30 rfl (St.blkCell hs₂ (i := 1) rfl rfl) ?_
  refine fa (o := 0) (o' := 1) rfl rfl Tryz.underlying51 rfl ti30 rfl ?_
  refine ld (a := ⟨b₂, 1, none⟩) (v := (.int .i64 1)) rfl rfl Tryz.underlying30 rfl (St.blkCell hs₂ (i := 0) rfl rfl) ?_
  refine cmp (a := 1) (b := 1) rfl rfl rfl (c_nne (by decide)) ?_
  refine pkF (v := (.bool false)) rfl rfl rfl ?_
  refine mv (v := (.bool false)) rfl rfl ?_
  refine fa (o := 0) (o' := 2) rfl rfl Tryz.underlying51 rfl ti4 rfl ?_
  refine ld (a := ⟨b₁, 2, none⟩) (v := (.bool false)) rfl rfl Tryz.underlying4 rfl (St.blkCell hs₂ (i := 1) rfl rfl) ?_
  refine fa (o := 0) (o' := 2) rfl rfl Tryz.underlying51 rfl ti4 rfl ?_
  refine ld (a := ⟨b₂, 2, none⟩) (v := (.bool false)) rfl rfl Tryz.underlying4 rfl (St.blkCell hs₂ (i := 0) rfl rfl) ?_
  refine neBool (c := false) rfl rfl rfl Tryz.underlying4 rfl ?_
  refine pkF (v := (.bool false)) rfl rfl rfl ?_
  refine mv (v := (.bool false)) rfl rfl ?_
  refine fa (o := 0) (o' := 3) rfl rfl Tryz.underlying51 rfl ti24 rfl ?_
  refine ld (a := ⟨b₁, 3, none⟩) (v := (.slice none 0 0)) rfl rfl Tryz.underlying24 rfl (St.blkCell hs₂ (i := 1) rfl rfl) ?_
  refine lenS (a := none) (m := 0) (c := 0) rfl rfl Tryz.underlying24 ?_
  refine fa (o := 0) (o' := 3) rfl rfl Tryz.underlying51 rfl ti24 rfl ?_
  refine ld (a := ⟨b₂, 3, none⟩) (v := (.slice none 0 0)) rfl rfl Tryz.underlying24 rfl (St.blkCell hs₂ (i := 0) rfl rfl) ?_
  refine lenS (a := none) (m := 0) (c := 0) rfl rfl Tryz.underlying24 ?_
  refine cmp (a := 0) (b := 0) rfl rfl rfl (c_nne (by decide)) ?_
  refine pkF (v := (.bool false)) rfl rfl rfl ?_
  refine mv (v := (.bool false)) rfl rfl ?_
  refine fa (o := 0) (o' := 4) rfl rfl Tryz.underlying51 rfl ti25 rfl ?_
  refine ld (a := ⟨b₁, 4, none⟩) (v := (.slice none 0 0)) rfl rfl Tryz.underlying25 rfl (St.blkCell hs₂ (i := 1) rfl rfl) ?_
  refine lenS (a := none) (m := 0) (c := 0) rfl rfl Tryz.underlying25 ?_
  refine fa (o := 0) (o' := 4) rfl rfl Tryz.underlying51 rfl ti25 rfl ?_
  refine ld (a := ⟨b₂, 4, none⟩) (v := (.slice none 0 0)) rfl rfl Tryz.underlying25 rfl (St.blkCell hs₂ (i := 0) rfl rfl) ?_
  refine lenS (a := none) (m := 0) (c := 0) rfl rfl Tryz.underlying25 ?_
  refine cmp (a := 0) (b := 0) rfl rfl rfl (c_nne (by decide)) ?_
  refine pkF (v := (.bool false)) rfl rfl rfl ?_
  refine wl_nil ?_
  refine tN ((hK₃ _ _ ?_))
  refine cdF rfl ?_
  refine sp ?_
  refine tN ((hK₂ _ _ ?_))
  refine sq fun K₄ hK₄ => ?_
  refine sq fun K₅ hK₅ => ?_
  refine rg ?_
  refine asg (v := (.int .i64 0)) rfl rfl ?_
  refine wl_nil ?_
  refine tN ((hK₅ _ _ ?_))
  refine bk ?_
  refine unr 1 ?_
  refine rds ?_
  refine sq fun K₆ hK₆ => ?_
  refine sq fun K₇ hK₇ => ?_
  refine rg ?_
  refine mv (v := (.int .i64 0)) rfl rfl ?_
  refine fa (o := 0) (o' := 3) rfl rfl Tryz.underlying51 rfl ti24 rfl ?_
  refine ld (a := ⟨b₁, 3, none⟩) (v := (.slice none 0 0)) rfl rfl Tryz.underlying24 rfl (St.blkCell hs₂ (i := 1) rfl rfl) ?_
  refine lenS (a := none) (m := 0) (c := 0) rfl rfl Tryz.underlying24 ?_
  refine cmp (a := 0) (b := 0) rfl rfl rfl (c_nlt (by decide)) ?_
  refine wl_nil ?_
  refine tN ((hK₇ _ _ ?_))
  refine cdF rfl ?_
  refine xt ?_
  refine tX (tX (bX (tN ((hK₄ _ _ ?_)))))
  refine sq fun K₈ hK₈ => ?_
  refine sq fun K₉ hK₉ => ?_
  refine rg ?_
  refine asg (v := (.int .i64 0)) rfl rfl ?_
  refine wl_nil ?_
  refine tN ((hK₉ _ _ ?_))
  refine bk ?_
  refine unr 1 ?_
  refine rds ?_
  refine sq fun K₁₀ hK₁₀ => ?_
  refine sq fun K₁₁ hK₁₁ => ?_
  refine rg ?_
  refine mv (v := (.int .i64 0)) rfl rfl ?_
  refine fa (o := 0) (o' := 4) rfl rfl Tryz.underlying51 rfl ti25 rfl ?_
  refine ld (a := ⟨b₁, 4, none⟩) (v := (.slice none 0 0)) rfl rfl Tryz.underlying25 rfl (St.blkCell hs₂ (i := 1) rfl rfl) ?_
  refine lenS (a := none) (m := 0) (c := 0) rfl rfl Tryz.underlying25 ?_
  refine cmp (a := 0) (b := 0) rfl rfl rfl (c_nlt (by decide)) ?_
  refine wl_nil ?_
  refine tN ((hK₁₁ _ _ ?_))
  refine cdF rfl ?_
  refine xt ?_
  refine tX (tX (bX (tN ((hK₈ _ _ ?_)))))
  refine sq fun K₁₂ hK₁₂ => ?_
  refine rg ?_
  refine asg (v := (.bool true)) rfl rfl ?_
  refine wl_nil ?_
  refine tN ((hK₁₂ _ _ ?_))
  refine rt ?_
  refine ret1 (v := (.bool true)) Tryz.results6 rfl ?_
  exact ⟨rfl, hs₂.chg (by simp)⟩
end Go.Proofs.YtkgehjpepjaliaaGreatDoor
