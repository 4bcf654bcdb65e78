import Derived.Test.YtkgehjpepjaliaaGreatDoorD2
import Derived.Test.YtkgehjpepjaliaaGreatDoorVR
import Derived.Test.YtkgehjpepjaliaaGreatDoorFa
set_option linter.unusedVariables false
set_option linter.unusedSimpArgs false
set_option maxRecDepth 100000
namespace Go.Proofs.YtkgehjpepjaliaaGreatDoor
open Go Go.Sx
theorem glob_chg {w w' : World} {p : Nat × List Value} (h : Go.Ex.GlobOk w p) (hc : Chg [] w w') : Go.Ex.GlobOk w' p := by
  obtain ⟨h1, h2, h3, h4⟩ := h
  refine ⟨h1, h2, h3, fun j u hu => ?_⟩
  have hx := h4 j u hu
  have hb := World.block_lt_of_cell? w _ hx
  rw [← hx]
  exact World.cell?_of_block (hc.block _ hb (by simp))
abbrev prl3_13 : List (List Nat) := [[], [], [0, 1], [], [3], [3, 4], [0, 1, 2, 3, 4, 5], [0, 1, 2, 3, 4, 5, 6], [0, 1, 2, 3, 4, 5, 6, 7], [0, 1, 2, 3, 4, 5, 6, 7, 8], [0, 1, 2, 3, 4, 5, 6, 7, 8, 9], [0, 1, 2, 3, 4, 5, 6, 7, 8, 9, 10], [0, 1, 2, 3, 4, 5, 6, 7, 8, 9, 10, 11], [0, 1, 2, 3, 4, 5, 6, 7, 8, 9, 10, 11, 12], [0, 1, 2, 3, 4, 5, 6, 7, 8, 9, 10, 11, 12, 13], [0, 1, 2, 3, 4, 5, 6, 7, 8, 9, 10, 11, 12, 13, 14], [0, 1, 2, 3, 4, 5, 6, 7, 8, 9, 10, 11, 12, 13, 14, 15], [0, 1, 2, 3, 4, 5, 6, 7, 8, 9, 10, 11, 12, 13, 14, 15, 16], [0, 1, 2, 3, 4, 5, 6, 7, 8, 9, 10, 11, 12, 13, 14, 15, 16, 17], [0, 1, 2, 3, 4, 5, 6, 7, 8, 9, 10, 11, 12, 13, 14, 15, 16, 17, 18], [0, 1, 2, 3, 4, 5, 6, 7, 8, 9, 10, 11, 12, 13, 14, 15, 16, 17, 18, 19], [0, 1, 2, 3, 4, 5, 6, 7, 8, 9, 10, 11, 12, 13, 14, 15, 16, 17, 18, 19, 20], [0, 1, 2, 3, 4, 5, 6, 7, 8, 9, 10, 11, 12, 13, 14, 15, 16, 17, 18, 19, 20, 21], [0, 1, 2, 3, 4, 5, 6, 7, 8, 9, 10, 11, 12, 13, 14, 15, 16, 17, 18, 19, 20, 21, 22], [0, 1, 2, 3, 4, 5, 6, 7, 8, 9, 10, 11, 12, 13, 14, 15, 16, 17, 18, 19, 20, 21, 22, 23], [0, 1, 2, 3, 4, 5, 6, 7, 8, 9, 10, 11, 12, 13, 14, 15, 16, 17, 18, 19, 20, 21, 22, 23, 24], [0, 1, 2, 3, 4, 5, 6, 7, 8, 9, 10, 11, 12, 13, 14, 15, 16, 17, 18, 19, 20, 21, 22, 23, 24, 25], [0, 1, 2, 3, 4, 5, 6, 7, 8, 9, 10, 11, 12, 13, 14, 15, 16, 17, 18, 19, 20, 21, 22, 23, 24, 25, 26], [0, 1, 2, 3, 4, 5, 6, 7, 8, 9, 10, 11, 12, 13, 14, 15, 16, 17, 18, 19, 20, 21, 22, 23, 24, 25, 26, 27], [0, 1, 2, 3, 4, 5, 6, 7, 8, 9, 10, 11, 12, 13, 14, 15, 16, 17, 18, 19, 20, 21, 22, 23, 24, 25, 26, 27, 28], [0, 1, 2, 3, 4, 5, 6, 7, 8, 9, 10, 11, 12, 13, 14, 15, 16, 17, 18, 19, 20, 21, 22, 23, 24, 25, 26, 27, 28, 29]]
set_option maxHeartbeats 4000000 in
theorem nil_call (op u v wt t : Int) (dv bv : Value) (hd : dv.oneCell' = true) (hb : bv.oneCell' = true) (w : World) (hg : ∀ p ∈ tabs, Go.Ex.GlobOk w p) :
    CR Tryz.prog 3 #[(.agg #[(.int .i64 op), (.int .u64 u), (.int .u64 v), (.int .i64 wt), (.int .i64 t), dv, bv])] w (fun r w' => r = .bool true ∧ Chg [] w w') := by
  refine enter (vs := [(.agg #[(.int .i64 op), (.int .u64 u), (.int .u64 v), (.int .i64 wt), (.int .i64 t), dv, bv])]) Tryz.func3 rfl Tryz.ntmps3 rfl ?_
  have hst0 := St.init w
  refine sq fun K₁ hK₁ => ?_
  refine rg ?_
  refine bx (v := (.agg #[(.int .i64 op), (.int .u64 u), (.int .u64 v), (.int .i64 wt), (.int .i64 t), dv, bv])) (cs := [(.int .i64 op), (.int .u64 u), (.int .u64 v), (.int .i64 wt), (.int .i64 t), dv, bv]) rfl rfl rfl hst0 ?_
  intro b₁ w₁ hn₁ hc₁ hs₁
  refine asg (v := (.bool false)) rfl rfl ?_
  refine wl_nil ?_
  refine tN ((hK₁ _ _ ?_))
  refine sq fun K₂ hK₂ => ?_
  refine rg ?_
  refine asg (v := (.pointer none)) rfl rfl ?_
  refine wl_nil ?_
  refine tN ((hK₂ _ _ ?_))
  refine sq fun K₃ hK₃ => ?_
  refine rg ?_
  refine asg (v := (.pointer none)) rfl rfl ?_
  refine wl_nil ?_
  refine tN ((hK₃ _ _ ?_))
  refine sq fun K₄ hK₄ => ?_
  refine rg ?_
  refine mv (v := (.pointer none)) rfl rfl ?_
  refine clF (vl := [(.pointer none)]) rfl rfl ent4 (On_n w₁ ) ?_
  rintro _ w₂ ⟨rfl, hq₁⟩
  have hs₂ : St _ [blk b₁ 27 [(.int .i64 op), (.int .u64 u), (.int .u64 v), (.int .i64 wt), (.int .i64 t), dv, bv]] w₂ := St.grow hs₁ hq₁
  refine mv (v := (.tuple #[(.pointer none), (.int .i64 1)])) rfl rfl ?_
  refine ex (vs := #[(.pointer none), (.int .i64 1)]) (v := (.pointer none)) rfl rfl rfl ?_
  refine ex (vs := #[(.pointer none), (.int .i64 1)]) (v := (.int .i64 1)) rfl rfl rfl ?_
  refine asg (v := (.pointer none)) rfl rfl ?_
  refine asg (v := (.int .i64 1)) rfl rfl ?_
  refine wl_nil ?_
  refine tN ((hK₄ _ _ ?_))
  refine sq fun K₅ hK₅ => ?_
  refine rg ?_
  refine bld (pvs := []) (v := .agg #[(.int .i64 0), (.int .i64 0), (.int .i64 0), (.int .i64 0), (.pointer none), (.pointer none), (.pointer none), (.pointer none), (.int .u64 0), (.int .u64 0)]) rfl rfl (buildS [] ti40 pl40 rfl trivial rfl) ?_
  refine bx (v := (.agg #[(.int .i64 0), (.int .i64 0), (.int .i64 0), (.int .i64 0), (.pointer none), (.pointer none), (.pointer none), (.pointer none), (.int .u64 0), (.int .u64 0)])) (cs := [(.int .i64 0), (.int .i64 0), (.int .i64 0), (.int .i64 0), (.pointer none), (.pointer none), (.pointer none), (.pointer none), (.int .u64 0), (.int .u64 0)]) rfl rfl rfl hs₂ ?_
  intro b₂ w₃ hn₂ hc₂ hs₃
  refine clF (vl := [(.pointer (some ⟨b₂, 0, none⟩))]) rfl rfl ent4 (On_z w₃  b₂ (hs₃.at (i := 0) rfl)) ?_
  rintro _ w₄ ⟨rfl, hq₂⟩
  have hs₄ : St _ [blk b₂ 40 [(.int .i64 0), (.int .i64 0), (.int .i64 0), (.int .i64 0), (.pointer none), (.pointer none), (.pointer none), (.pointer none), (.int .u64 0), (.int .u64 0)], blk b₁ 27 [(.int .i64 op), (.int .u64 u), (.int .u64 v), (.int .i64 wt), (.int .i64 t), dv, bv]] w₄ := St.grow hs₃ hq₂
  refine mv (v := (.tuple #[(.pointer none), (.int .i64 1)])) rfl rfl ?_
  refine ex (vs := #[(.pointer none), (.int .i64 1)]) (v := (.pointer none)) rfl rfl rfl ?_
  refine ex (vs := #[(.pointer none), (.int .i64 1)]) (v := (.int .i64 1)) rfl rfl rfl ?_
  refine asg (v := (.pointer none)) rfl rfl ?_
  refine asg (v := (.int .i64 1)) rfl rfl ?_
  refine wl_nil ?_
  refine tN ((hK₅ _ _ ?_))
  refine sq fun K₆ hK₆ => ?_
  refine sq fun K₇ hK₇ => ?_
  refine rg ?_
  refine mv (v := (.int .i64 1)) rfl rfl ?_
  refine cmp (a := 1) (b := 1) rfl rfl rfl (c_nne (by decide)) ?_
  refine mv (v := (.bool false)) rfl rfl ?_
  refine mv (v := (.int .i64 1)) rfl rfl ?_
  refine cmp (a := 1) (b := 1) rfl rfl rfl (c_nne (by decide)) ?_
  refine pkF (v := (.bool false)) rfl rfl rfl ?_
  refine wl_nil ?_
  refine tN ((hK₇ _ _ ?_))
  refine cdF rfl ?_
  refine sp ?_
  refine tN ((hK₆ _ _ ?_))
  refine sq fun K₈ hK₈ => ?_
  refine rg ?_
  refine mv (v := (.pointer none)) rfl rfl ?_
  refine bld (pvs := []) (v := .agg #[(.pointer none), (.pointer none), (.int .u64 0), (.int .u64 0), (.int .i64 0), (.bool false), (.int .u64 0)]) rfl rfl (buildS [] ti45 pl45 rfl trivial rfl) ?_
  refine bx (v := (.agg #[(.pointer none), (.pointer none), (.int .u64 0), (.int .u64 0), (.int .i64 0), (.bool false), (.int .u64 0)])) (cs := [(.pointer none), (.pointer none), (.int .u64 0), (.int .u64 0), (.int .i64 0), (.bool false), (.int .u64 0)]) rfl rfl rfl hs₄ ?_
  intro b₃ w₅ hn₃ hc₃ hs₅
  refine bsv (vs := [(.pointer none), (.pointer (some ⟨b₃, 0, none⟩))]) (cs := [(.pointer none), (.pointer (some ⟨b₃, 0, none⟩))]) rfl rfl Tryz.underlying46 ti28 rfl (by simp [Value.cells]) rfl rfl rfl hs₅ ?_
  intro b₄ w₆ hn₄ hc₄ hs₆
  have hs₆ : St _ [row (.slice (some ⟨b₄, 0, none⟩) 2 2) 28 1 2 ([(.pointer none), (.pointer (some ⟨b₃, 0, none⟩))]), blk b₃ 45 [(.pointer none), (.pointer none), (.int .u64 0), (.int .u64 0), (.int .i64 0), (.bool false), (.int .u64 0)], blk b₂ 40 [(.int .i64 0), (.int .i64 0), (.int .i64 0), (.int .i64 0), (.pointer none), (.pointer none), (.pointer none), (.pointer none), (.int .u64 0), (.int .u64 0)], blk b₁ 27 [(.int .i64 op), (.int .u64 u), (.int .u64 v), (.int .i64 wt), (.int .i64 t), dv, bv]] w₆ := hs₆
  refine asg (v := (.slice (some ⟨b₄, 0, none⟩) 2 2)) rfl rfl ?_
  refine wl_nil ?_
  refine tN ((hK₈ _ _ ?_))
  refine sq fun K₉ hK₉ => ?_
  refine sq fun K₁₀ hK₁₀ => ?_
  refine rg ?_
  obtain ⟨PL, hPL⟩ : ∃ l : List (Option Addr), l = [none, some ⟨b₃, 0, none⟩] := ⟨_, rfl⟩
  have hPn : PL.length = 2 := by rw [hPL]; rfl
  have hs₇ : St [(w, [])] [rowR ptC (.slice (some ⟨b₄, 0, none⟩) 2 2) 28 1 PL, blk b₃ 45 [(.pointer none), (.pointer none), (.int .u64 0), (.int .u64 0), (.int .i64 0), (.bool false), (.int .u64 0)], blk b₂ 40 [(.int .i64 0), (.int .i64 0), (.int .i64 0), (.int .i64 0), (.pointer none), (.pointer none), (.pointer none), (.pointer none), (.int .u64 0), (.int .u64 0)], blk b₁ 27 [(.int .i64 op), (.int .u64 u), (.int .u64 v), (.int .i64 wt), (.int .i64 t), dv, bv]] w₆ := by rw [hPL]; exact hs₆
  have hk₁ : Recs 1 ptC _ w₆ (.slice (some ⟨b₄, 0, none⟩) 2 2) PL := St.rowRecs hs₇ (i := 0) rfl (fun _ => rfl)
  refine asg (v := (.int .i64 0)) rfl rfl ?_
  refine wl_nil ?_
  refine tN ((hK₁₀ _ _ ?_))
  refine bk ?_
  refine unr 3 ?_
  refine rds ?_
  refine sq fun K₁₁ hK₁₁ => ?_
  refine sq fun K₁₂ hK₁₂ => ?_
  refine rg ?_
  refine mv (v := (.int .i64 0)) rfl rfl ?_
  refine mv (v := (.slice (some ⟨b₄, 0, none⟩) 2 2)) rfl rfl ?_
  refine lenI (v := (.slice (some ⟨b₄, 0, none⟩) 2 2)) rfl rfl Tryz.underlying46 hk₁ ?_
  refine cmp (a := 0) (b := (PL.length : Int)) rfl rfl rfl (c_lt (by rw [hPn]; decide)) ?_
  refine wl_nil ?_
  refine tN ((hK₁₂ _ _ ?_))
  refine cdT rfl ?_
  refine sp ?_
  refine tN ((hK₁₁ _ _ ?_))
  refine sq fun K₁₃ hK₁₃ => ?_
  refine bk ?_
  refine sq fun K₁₄ hK₁₄ => ?_
  refine rg ?_
  refine mv (v := (.slice (some ⟨b₄, 0, none⟩) 2 2)) rfl rfl ?_
  refine mv (v := (.int .i64 0)) rfl rfl ?_
  refine ixR (k := 0) (i := 0) rfl rfl rfl Tryz.underlying46 ti28 hk₁ (by omega) (by omega) (by rw [hPL]; rfl) ?_
  refine ldR (u := (.pointer none)) rfl rfl Tryz.underlying28 rfl hk₁ (by rw [hPL]; rfl) rfl ?_
  refine asg (v := (.pointer none)) rfl rfl ?_
  refine wl_nil ?_
  refine tN ((hK₁₄ _ _ ?_))
  refine sq fun K₁₅ hK₁₅ => ?_
  refine rg ?_
  refine mv (v := (.pointer none)) rfl rfl ?_
  refine clF (vl := [(.pointer none)]) rfl rfl ent5 (Done_n w₆ ) ?_
  rintro _ w₇ ⟨rfl, hq₃⟩
  have hs₈ : St _ [rowR ptC (.slice (some ⟨b₄, 0, none⟩) 2 2) 28 1 PL, blk b₃ 45 [(.pointer none), (.pointer none), (.int .u64 0), (.int .u64 0), (.int .i64 0), (.bool false), (.int .u64 0)], blk b₂ 40 [(.int .i64 0), (.int .i64 0), (.int .i64 0), (.int .i64 0), (.pointer none), (.pointer none), (.pointer none), (.pointer none), (.int .u64 0), (.int .u64 0)], blk b₁ 27 [(.int .i64 op), (.int .u64 u), (.int .u64 v), (.int .i64 wt), (.int .i64 t), dv, bv]] w₇ := St.grow hs₇ hq₃
  refine mv (v := (.tuple #[(.int .u64 0), (.int .u64 0)])) rfl rfl ?_
  refine ex (vs := #[(.int .u64 0), (.int .u64 0)]) (v := (.int .u64 0)) rfl rfl rfl ?_
  refine ex (vs := #[(.int .u64 0), (.int .u64 0)]) (v := (.int .u64 0)) rfl rfl rfl ?_
  refine asg (v := (.int .u64 0)) rfl rfl ?_
  refine asg (v := (.int .u64 0)) rfl rfl ?_
  refine wl_nil ?_
  refine tN ((hK₁₅ _ _ ?_))
  refine sq fun K₁₆ hK₁₆ => ?_
  refine rgs (Γ := Unit) mixed prl3_13 [] (by kernel_rfl) [fun _ => (.pointer none), fun _ => (.agg #[(.int .i64 op), (.int .u64 u), (.int .u64 v), (.int .i64 wt), (.int .i64 t), dv, bv]), fun _ => (.agg #[(.int .i64 op), (.int .i64 1), (.bool false), (.slice none 0 0), (.slice none 0 0)]), fun _ => (.pointer (some ⟨b₁, 0, none⟩)), fun _ => (.int .i64 op), fun _ => (.agg #[(.int .i64 op), (.int .i64 1), (.bool false), (.slice none 0 0), (.slice none 0 0)]), fun _ => (.bool true), fun _ => (.bool false), fun _ => (.bool false), fun _ => (.pointer none), fun _ => (.pointer none), fun _ => (.bool false), fun _ => (.bool false), fun _ => (.bool false), fun _ => (.pointer none), fun _ => (.int .i64 0), fun _ => (.bool false), fun _ => (.bool false), fun _ => (.bool false), fun _ => (.int .u64 0), fun _ => (.bool false), fun _ => (.bool false), fun _ => (.bool false), fun _ => (.int .u64 0), fun _ => (.bool false), fun _ => (.bool false), fun _ => (.bool false), fun _ => (.pointer none), fun _ => (.pointer none), fun _ => (.bool false), fun _ => (.bool false)] [(fun _ => [rowR ptC (.slice (some ⟨b₄, 0, none⟩) 2 2) 28 1 PL, blk b₃ 45 [(.pointer none), (.pointer none), (.int .u64 0), (.int .u64 0), (.int .i64 0), (.bool false), (.int .u64 0)], blk b₂ 40 [(.int .i64 0), (.int .i64 0), (.int .i64 0), (.int .i64 0), (.pointer none), (.pointer none), (.pointer none), (.pointer none), (.int .u64 0), (.int .u64 0)], blk b₁ 27 [(.int .i64 op), (.int .u64 u), (.int .u64 v), (.int .i64 wt), (.int .i64 t), dv, bv]], fun _ _ => True)] () (fun _ => (80, (.bool false)) :: (79, (.bool false)) :: (78, (.pointer none)) :: (77, (.pointer none)) :: (76, (.bool false)) :: (75, (.bool false)) :: (74, (.bool false)) :: (73, (.int .u64 0)) :: (72, (.bool false)) :: (71, (.bool false)) :: (70, (.bool false)) :: (69, (.int .u64 0)) :: (68, (.bool false)) :: (67, (.bool false)) :: (66, (.bool false)) :: (65, (.int .i64 0)) :: (64, (.pointer none)) :: (63, (.bool false)) :: (62, (.bool false)) :: (61, (.bool false)) :: (60, (.pointer none)) :: (59, (.pointer none)) :: (58, (.bool false)) :: (57, (.bool false)) :: (56, (.bool true)) :: (55, (.agg #[(.int .i64 op), (.int .i64 1), (.bool false), (.slice none 0 0), (.slice none 0 0)])) :: (54, (.int .i64 op)) :: (53, (.pointer (some ⟨b₁, 0, none⟩))) :: (52, (.agg #[(.int .i64 op), (.int .i64 1), (.bool false), (.slice none 0 0), (.slice none 0 0)])) :: (51, (.agg #[(.int .i64 op), (.int .u64 u), (.int .u64 v), (.int .i64 wt), (.int .i64 t), dv, bv])) :: (50, (.pointer none)) :: _) rfl hs₈ (fun _ _ => trivial) ?_ (fun _ => rfl) rfl ?_
  · skip
    refine ob_p rfl (fun _ _ _ => qv rfl rfl (mv_r (v := (.pointer none)) rfl)) ?_
    refine ob_q1 rfl rfl rfl rfl (fun _ wq hM hF => qv rfl rfl (ldA_r (cs := [(.int .i64 op), (.int .u64 u), (.int .u64 v), (.int .i64 wt), (.int .i64 t), dv, bv]) rfl Tryz.underlying27 rfl ti27 rfl (St.blkCells hM (i := 3) (o := 0) (vs := [(.int .i64 op), (.int .u64 u), (.int .u64 v), (.int .i64 wt), (.int .i64 t), dv, bv]) rfl rfl))) ?_
    refine ob_q1 rfl rfl rfl rfl (fun _ wq hM hF => qc rfl rfl (clF_r (vl := [(.pointer none), (.agg #[(.int .i64 op), (.int .u64 u), (.int .u64 v), (.int .i64 wt), (.int .i64 t), dv, bv])]) rfl ent7) (CR.mono (Do_n wq op u v wt t dv bv hd hb) fun _ _ h => ⟨h.1, ⟨hM.grow h.2, trivial⟩⟩)) ?_
    refine ob_p rfl (fun _ _ _ => qv rfl rfl (fa_r (o := 0) (o' := 0) rfl Tryz.underlying27 rfl ti22 rfl)) ?_
    refine ob_q1 rfl rfl rfl rfl (fun _ wq hM hF => qv rfl rfl (ld_r (a := ⟨b₁, 0, none⟩) (v := (.int .i64 op)) rfl Tryz.underlying22 rfl (St.blkCell hM (i := 3) rfl rfl))) ?_
    refine ob_p rfl (fun _ _ _ => qv rfl rfl (bld_r (pvs := [(0, (.int .i64 op)), (1, (.int .i64 1))]) (v := .agg #[(.int .i64 op), (.int .i64 1), (.bool false), (.slice none 0 0), (.slice none 0 0)]) rfl (buildS [(0, [(.int .i64 op)]), (1, [(.int .i64 1)])] ti51 pl51 rfl ⟨rfl, rfl, rfl, rfl, trivial⟩ rfl))) ?_
    refine ob_q1 rfl rfl rfl rfl (fun _ wq hM hF => qc rfl rfl (clF_r (vl := [(.agg #[(.int .i64 op), (.int .i64 1), (.bool false), (.slice none 0 0), (.slice none 0 0)]), (.agg #[(.int .i64 op), (.int .i64 1), (.bool false), (.slice none 0 0), (.slice none 0 0)])]) rfl ent6) (CR.mono (Same_r wq op) fun _ _ h => ⟨h.1, ⟨hM.grow h.2, trivial⟩⟩)) ?_
    refine ob_p rfl (fun _ _ _ => qv rfl rfl (not_r (b := true) (c := false) rfl rfl)) ?_
    refine ob_p rfl (fun _ _ _ => qv rfl rfl (mv_r (v := (.bool false)) rfl)) ?_
    refine ob_p rfl (fun _ _ _ => qv rfl rfl (mv_r (v := (.pointer none)) rfl)) ?_
    refine ob_q1 rfl rfl rfl rfl (fun _ wq hM hF => qc rfl rfl (clF_r (vl := [(.pointer none)]) rfl ent8) (CR.mono (Window_n wq ) fun _ _ h => ⟨h.1, ⟨hM.grow h.2, trivial⟩⟩)) ?_
    refine ob_p rfl (fun _ _ _ => qv rfl rfl (neP_r (a := none) (c := false) rfl rfl Tryz.underlying29 rfl)) ?_
    refine ob_p rfl (fun _ _ _ => qv rfl rfl (pkF_r (v := (.bool false)) rfl rfl)) ?_
    refine ob_p rfl (fun _ _ _ => qv rfl rfl (mv_r (v := (.bool false)) rfl)) ?_
    refine ob_p rfl (fun _ _ _ => qv rfl rfl (mv_r (v := (.pointer none)) rfl)) ?_
    refine ob_q1 rfl rfl rfl rfl (fun _ wq hM hF => qc rfl rfl (clF_r (vl := [(.pointer none)]) rfl ent9) (CR.mono (Builds_n wq ) fun _ _ h => ⟨h.1, ⟨hM.grow h.2, trivial⟩⟩)) ?_
    refine ob_p rfl (fun _ _ _ => qv rfl rfl (cmp_r (a := 0) (b := 0) rfl rfl (c_nne (by decide)))) ?_
    refine ob_p rfl (fun _ _ _ => qv rfl rfl (pkF_r (v := (.bool false)) rfl rfl)) ?_
    refine ob_p rfl (fun _ _ _ => qv rfl rfl (mv_r (v := (.bool false)) rfl)) ?_
    refine ob_p rfl (fun _ _ _ => qv rfl rfl (mv_r (v := (.int .u64 0)) rfl)) ?_
    refine ob_p rfl (fun _ _ _ => qv rfl rfl (cmp_r (a := 0) (b := 0) rfl rfl (c_nne (by decide)))) ?_
    refine ob_p rfl (fun _ _ _ => qv rfl rfl (pkF_r (v := (.bool false)) rfl rfl)) ?_
    refine ob_p rfl (fun _ _ _ => qv rfl rfl (mv_r (v := (.bool false)) rfl)) ?_
    refine ob_p rfl (fun _ _ _ => qv rfl rfl (mv_r (v := (.int .u64 0)) rfl)) ?_
    refine ob_p rfl (fun _ _ _ => qv rfl rfl (cmp_r (a := 0) (b := 0) rfl rfl (c_nne (by decide)))) ?_
    refine ob_p rfl (fun _ _ _ => qv rfl rfl (pkF_r (v := (.bool false)) rfl rfl)) ?_
    refine ob_p rfl (fun _ _ _ => qv rfl rfl (mv_r (v := (.bool false)) rfl)) ?_
    refine ob_p rfl (fun _ _ _ => qv rfl rfl (mv_r (v := (.pointer none)) rfl)) ?_
    refine ob_q1 rfl rfl rfl rfl (fun _ wq hM hF => qc rfl rfl (clF_r (vl := [(.pointer none)]) rfl ent10) (CR.mono (Copy_n wq ) fun _ _ h => ⟨h.1, ⟨hM.grow h.2, trivial⟩⟩)) ?_
    refine ob_p rfl (fun _ _ _ => qv rfl rfl (neP_r (a := none) (c := false) rfl rfl Tryz.underlying28 rfl)) ?_
    refine ob_p rfl (fun _ _ _ => qv rfl rfl (pkF_r (v := (.bool false)) rfl rfl)) ?_
    exact ob_n
  rintro - w₁₃ hs₁₄ -
  refine tN ((hK₁₆ _ _ ?_))
  refine cdF rfl ?_
  refine sp ?_
  refine bN (tN ((hK₁₃ _ _ ?_)))
  refine rg ?_
  refine mv (v := (.int .i64 0)) rfl rfl ?_
  refine ar (a := 0) (b := 1) (c := 1) rfl rfl rfl rfl (w64 (by omega)) ?_
  refine asg (v := (.int .i64 1)) rfl rfl ?_
  refine wl_nil ?_
  refine tN (?_)
  refine rds ?_
  refine sq fun K₁₇ hK₁₇ => ?_
  refine sq fun K₁₈ hK₁₈ => ?_
  refine rg ?_
  refine mv (v := (.int .i64 1)) rfl rfl ?_
  refine mv (v := (.slice (some ⟨b₄, 0, none⟩) 2 2)) rfl rfl ?_
  refine lenI (v := (.slice (some ⟨b₄, 0, none⟩) 2 2)) rfl rfl Tryz.underlying46 hk₁ ?_
  refine cmp (a := 1) (b := (PL.length : Int)) rfl rfl rfl (c_lt (by rw [hPn]; decide)) ?_
  refine wl_nil ?_
  refine tN ((hK₁₈ _ _ ?_))
  refine cdT rfl ?_
  refine sp ?_
  refine tN ((hK₁₇ _ _ ?_))
  refine sq fun K₁₉ hK₁₉ => ?_
  refine bk ?_
  refine sq fun K₂₀ hK₂₀ => ?_
  refine rg ?_
  refine mv (v := (.slice (some ⟨b₄, 0, none⟩) 2 2)) rfl rfl ?_
  refine mv (v := (.int .i64 1)) rfl rfl ?_
  refine ixR (k := 1) (i := 1) rfl rfl rfl Tryz.underlying46 ti28 hk₁ (by omega) (by omega) (by rw [hPL]; rfl) ?_
  refine ldR (u := (.pointer (some ⟨b₃, 0, none⟩))) rfl rfl Tryz.underlying28 rfl (St.rowRecs hs₁₄ (i := 0) rfl (fun _ => rfl)) (by rw [hPL]; rfl) rfl ?_
  refine asg (v := (.pointer (some ⟨b₃, 0, none⟩))) rfl rfl ?_
  refine wl_nil ?_
  refine tN ((hK₂₀ _ _ ?_))
  refine sq fun K₂₁ hK₂₁ => ?_
  refine rg ?_
  refine mv (v := (.pointer (some ⟨b₃, 0, none⟩))) rfl rfl ?_
  refine clF (vl := [(.pointer (some ⟨b₃, 0, none⟩))]) rfl rfl ent5 (Done_z w₁₃  b₃ (hs₁₄.at (i := 1) rfl)) ?_
  rintro _ w₁₄ ⟨rfl, hq₉⟩
  have hs₁₅ : St _ [rowR ptC (.slice (some ⟨b₄, 0, none⟩) 2 2) 28 1 PL, blk b₃ 45 [(.pointer none), (.pointer none), (.int .u64 0), (.int .u64 0), (.int .i64 0), (.bool false), (.int .u64 0)], blk b₂ 40 [(.int .i64 0), (.int .i64 0), (.int .i64 0), (.int .i64 0), (.pointer none), (.pointer none), (.pointer none), (.pointer none), (.int .u64 0), (.int .u64 0)], blk b₁ 27 [(.int .i64 op), (.int .u64 u), (.int .u64 v), (.int .i64 wt), (.int .i64 t), dv, bv]] w₁₄ := St.grow hs₁₄ hq₉
  refine mv (v := (.tuple #[(.int .u64 0), (.int .u64 0)])) rfl rfl ?_
  refine ex (vs := #[(.int .u64 0), (.int .u64 0)]) (v := (.int .u64 0)) rfl rfl rfl ?_
  refine ex (vs := #[(.int .u64 0), (.int .u64 0)]) (v := (.int .u64 0)) rfl rfl rfl ?_
  refine asg (v := (.int .u64 0)) rfl rfl ?_
  refine asg (v := (.int .u64 0)) rfl rfl ?_
  refine wl_nil ?_
  refine tN ((hK₂₁ _ _ ?_))
  refine sq fun K₂₂ hK₂₂ => ?_
  refine rgs (Γ := Unit) mixed prl3_13 [] (by kernel_rfl) [fun _ => (.pointer (some ⟨b₃, 0, none⟩)), fun _ => (.agg #[(.int .i64 op), (.int .u64 u), (.int .u64 v), (.int .i64 wt), (.int .i64 t), dv, bv]), fun _ => (.agg #[(.int .i64 op), (.int .i64 1), (.bool false), (.slice none 0 0), (.slice none 0 0)]), fun _ => (.pointer (some ⟨b₁, 0, none⟩)), fun _ => (.int .i64 op), fun _ => (.agg #[(.int .i64 op), (.int .i64 1), (.bool false), (.slice none 0 0), (.slice none 0 0)]), fun _ => (.bool true), fun _ => (.bool false), fun _ => (.bool false), fun _ => (.pointer (some ⟨b₃, 0, none⟩)), fun _ => (.pointer none), fun _ => (.bool false), fun _ => (.bool false), fun _ => (.bool false), fun _ => (.pointer (some ⟨b₃, 0, none⟩)), fun _ => (.int .i64 0), fun _ => (.bool false), fun _ => (.bool false), fun _ => (.bool false), fun _ => (.int .u64 0), fun _ => (.bool false), fun _ => (.bool false), fun _ => (.bool false), fun _ => (.int .u64 0), fun _ => (.bool false), fun _ => (.bool false), fun _ => (.bool false), fun _ => (.pointer (some ⟨b₃, 0, none⟩)), fun _ => (.pointer none), fun _ => (.bool false), fun _ => (.bool false)] [(fun _ => [rowR ptC (.slice (some ⟨b₄, 0, none⟩) 2 2) 28 1 PL, blk b₃ 45 [(.pointer none), (.pointer none), (.int .u64 0), (.int .u64 0), (.int .i64 0), (.bool false), (.int .u64 0)], blk b₂ 40 [(.int .i64 0), (.int .i64 0), (.int .i64 0), (.int .i64 0), (.pointer none), (.pointer none), (.pointer none), (.pointer none), (.int .u64 0), (.int .u64 0)], blk b₁ 27 [(.int .i64 op), (.int .u64 u), (.int .u64 v), (.int .i64 wt), (.int .i64 t), dv, bv]], fun _ _ => True)] () (fun _ => (80, (.bool false)) :: (79, (.bool false)) :: (78, (.pointer none)) :: (77, (.pointer (some ⟨b₃, 0, none⟩))) :: (76, (.bool false)) :: (75, (.bool false)) :: (74, (.bool false)) :: (73, (.int .u64 0)) :: (72, (.bool false)) :: (71, (.bool false)) :: (70, (.bool false)) :: (69, (.int .u64 0)) :: (68, (.bool false)) :: (67, (.bool false)) :: (66, (.bool false)) :: (65, (.int .i64 0)) :: (64, (.pointer (some ⟨b₃, 0, none⟩))) :: (63, (.bool false)) :: (62, (.bool false)) :: (61, (.bool false)) :: (60, (.pointer none)) :: (59, (.pointer (some ⟨b₃, 0, none⟩))) :: (58, (.bool false)) :: (57, (.bool false)) :: (56, (.bool true)) :: (55, (.agg #[(.int .i64 op), (.int .i64 1), (.bool false), (.slice none 0 0), (.slice none 0 0)])) :: (54, (.int .i64 op)) :: (53, (.pointer (some ⟨b₁, 0, none⟩))) :: (52, (.agg #[(.int .i64 op), (.int .i64 1), (.bool false), (.slice none 0 0), (.slice none 0 0)])) :: (51, (.agg #[(.int .i64 op), (.int .u64 u), (.int .u64 v), (.int .i64 wt), (.int .i64 t), dv, bv])) :: (50, (.pointer (some ⟨b₃, 0, none⟩))) :: _) rfl hs₁₅ (fun _ _ => trivial) ?_ (fun _ => rfl) rfl ?_
  · skip
    refine ob_p rfl (fun _ _ _ => qv rfl rfl (mv_r (v := (.pointer (some ⟨b₃, 0, none⟩))) rfl)) ?_
    refine ob_q1 rfl rfl rfl rfl (fun _ wq hM hF => qv rfl rfl (ldA_r (cs := [(.int .i64 op), (.int .u64 u), (.int .u64 v), (.int .i64 wt), (.int .i64 t), dv, bv]) rfl Tryz.underlying27 rfl ti27 rfl (St.blkCells hM (i := 3) (o := 0) (vs := [(.int .i64 op), (.int .u64 u), (.int .u64 v), (.int .i64 wt), (.int .i64 t), dv, bv]) rfl rfl))) ?_
    refine ob_q1 rfl rfl rfl rfl (fun _ wq hM hF => qc rfl rfl (clF_r (vl := [(.pointer (some ⟨b₃, 0, none⟩)), (.agg #[(.int .i64 op), (.int .u64 u), (.int .u64 v), (.int .i64 wt), (.int .i64 t), dv, bv])]) rfl ent7) (CR.mono (Do_z wq op u v wt t dv bv hd hb b₃ (hM.at (i := 1) rfl)) fun _ _ h => ⟨h.1, ⟨hM.grow h.2, trivial⟩⟩)) ?_
    refine ob_p rfl (fun _ _ _ => qv rfl rfl (fa_r (o := 0) (o' := 0) rfl Tryz.underlying27 rfl ti22 rfl)) ?_
    refine ob_q1 rfl rfl rfl rfl (fun _ wq hM hF => qv rfl rfl (ld_r (a := ⟨b₁, 0, none⟩) (v := (.int .i64 op)) rfl Tryz.underlying22 rfl (St.blkCell hM (i := 3) rfl rfl))) ?_
    refine ob_p rfl (fun _ _ _ => qv rfl rfl (bld_r (pvs := [(0, (.int .i64 op)), (1, (.int .i64 1))]) (v := .agg #[(.int .i64 op), (.int .i64 1), (.bool false), (.slice none 0 0), (.slice none 0 0)]) rfl (buildS [(0, [(.int .i64 op)]), (1, [(.int .i64 1)])] ti51 pl51 rfl ⟨rfl, rfl, rfl, rfl, trivial⟩ rfl))) ?_
    refine ob_q1 rfl rfl rfl rfl (fun _ wq hM hF => qc rfl rfl (clF_r (vl := [(.agg #[(.int .i64 op), (.int .i64 1), (.bool false), (.slice none 0 0), (.slice none 0 0)]), (.agg #[(.int .i64 op), (.int .i64 1), (.bool false), (.slice none 0 0), (.slice none 0 0)])]) rfl ent6) (CR.mono (Same_r wq op) fun _ _ h => ⟨h.1, ⟨hM.grow h.2, trivial⟩⟩)) ?_
    refine ob_p rfl (fun _ _ _ => qv rfl rfl (not_r (b := true) (c := false) rfl rfl)) ?_
    refine ob_p rfl (fun _ _ _ => qv rfl rfl (mv_r (v := (.bool false)) rfl)) ?_
    refine ob_p rfl (fun _ _ _ => qv rfl rfl (mv_r (v := (.pointer (some ⟨b₃, 0, none⟩))) rfl)) ?_
    refine ob_q1 rfl rfl rfl rfl (fun _ wq hM hF => qc rfl rfl (clF_r (vl := [(.pointer (some ⟨b₃, 0, none⟩))]) rfl ent8) (CR.mono (Window_z wq  b₃ (hM.at (i := 1) rfl)) fun _ _ h => ⟨h.1, ⟨hM.grow h.2, trivial⟩⟩)) ?_
    refine ob_p rfl (fun _ _ _ => qv rfl rfl (neP_r (a := none) (c := false) rfl rfl Tryz.underlying29 rfl)) ?_
    refine ob_p rfl (fun _ _ _ => qv rfl rfl (pkF_r (v := (.bool false)) rfl rfl)) ?_
    refine ob_p rfl (fun _ _ _ => qv rfl rfl (mv_r (v := (.bool false)) rfl)) ?_
    refine ob_p rfl (fun _ _ _ => qv rfl rfl (mv_r (v := (.pointer (some ⟨b₃, 0, none⟩))) rfl)) ?_
    refine ob_q1 rfl rfl rfl rfl (fun _ wq hM hF => qc rfl rfl (clF_r (vl := [(.pointer (some ⟨b₃, 0, none⟩))]) rfl ent9) (CR.mono (Builds_z wq  b₃ (hM.at (i := 1) rfl)) fun _ _ h => ⟨h.1, ⟨hM.grow h.2, trivial⟩⟩)) ?_
    refine ob_p rfl (fun _ _ _ => qv rfl rfl (cmp_r (a := 0) (b := 0) rfl rfl (c_nne (by decide)))) ?_
    refine ob_p rfl (fun _ _ _ => qv rfl rfl (pkF_r (v := (.bool false)) rfl rfl)) ?_
    refine ob_p rfl (fun _ _ _ => qv rfl rfl (mv_r (v := (.bool false)) rfl)) ?_
    refine ob_p rfl (fun _ _ _ => qv rfl rfl (mv_r (v := (.int .u64 0)) rfl)) ?_
    refine ob_p rfl (fun _ _ _ => qv rfl rfl (cmp_r (a := 0) (b := 0) rfl rfl (c_nne (by decide)))) ?_
    refine ob_p rfl (fun _ _ _ => qv rfl rfl (pkF_r (v := (.bool false)) rfl rfl)) ?_
    refine ob_p rfl (fun _ _ _ => qv rfl rfl (mv_r (v := (.bool false)) rfl)) ?_
    refine ob_p rfl (fun _ _ _ => qv rfl rfl (mv_r (v := (.int .u64 0)) rfl)) ?_
    refine ob_p rfl (fun _ _ _ => qv rfl rfl (cmp_r (a := 0) (b := 0) rfl rfl (c_nne (by decide)))) ?_
    refine ob_p rfl (fun _ _ _ => qv rfl rfl (pkF_r (v := (.bool false)) rfl rfl)) ?_
    refine ob_p rfl (fun _ _ _ => qv rfl rfl (mv_r (v := (.bool false)) rfl)) ?_
    refine ob_p rfl (fun _ _ _ => qv rfl rfl (mv_r (v := (.pointer (some ⟨b₃, 0, none⟩))) rfl)) ?_
    refine ob_q1 rfl rfl rfl rfl (fun _ wq hM hF => qc rfl rfl (clF_r (vl := [(.pointer (some ⟨b₃, 0, none⟩))]) rfl ent10) (CR.mono (Copy_z wq  b₃ (hM.at (i := 1) rfl)) fun _ _ h => ⟨h.1, ⟨hM.grow h.2, trivial⟩⟩)) ?_
    refine ob_p rfl (fun _ _ _ => qv rfl rfl (neP_r (a := none) (c := false) rfl rfl Tryz.underlying28 rfl)) ?_
    refine ob_p rfl (fun _ _ _ => qv rfl rfl (pkF_r (v := (.bool false)) rfl rfl)) ?_
    exact ob_n
  rintro - w₂₀ hs₂₁ -
  refine tN ((hK₂₂ _ _ ?_))
  refine cdF rfl ?_
  refine sp ?_
  refine bN (tN ((hK₁₉ _ _ ?_)))
  refine rg ?_
  refine mv (v := (.int .i64 1)) rfl rfl ?_
  refine ar (a := 1) (b := 1) (c := 2) rfl rfl rfl rfl (w64 (by omega)) ?_
  refine asg (v := (.int .i64 2)) rfl rfl ?_
  refine wl_nil ?_
  refine tN (?_)
  refine rds ?_
  refine sq fun K₂₃ hK₂₃ => ?_
  refine sq fun K₂₄ hK₂₄ => ?_
  refine rg ?_
  refine mv (v := (.int .i64 2)) rfl rfl ?_
  refine mv (v := (.slice (some ⟨b₄, 0, none⟩) 2 2)) rfl rfl ?_
  refine lenI (v := (.slice (some ⟨b₄, 0, none⟩) 2 2)) rfl rfl Tryz.underlying46 hk₁ ?_
  refine cmp (a := 2) (b := (PL.length : Int)) rfl rfl rfl (c_nlt (by rw [hPn]; decide)) ?_
  refine wl_nil ?_
  refine tN ((hK₂₄ _ _ ?_))
  refine cdF rfl ?_
  refine xt ?_
  refine tX (tX (bX (tN ((hK₉ _ _ ?_)))))
  refine sq fun K₂₅ hK₂₅ => ?_
  refine rg ?_
  refine clF (vl := []) rfl rfl ent11 (works_run w₂₀ (fun p hp => glob_chg (hg p hp) (hs₂₁.chg (by simp)))) ?_
  rintro _ w₂₁ ⟨rfl, hq₁₅⟩
  have hs₂₂ : St _ [rowR ptC (.slice (some ⟨b₄, 0, none⟩) 2 2) 28 1 PL, blk b₃ 45 [(.pointer none), (.pointer none), (.int .u64 0), (.int .u64 0), (.int .i64 0), (.bool false), (.int .u64 0)], blk b₂ 40 [(.int .i64 0), (.int .i64 0), (.int .i64 0), (.int .i64 0), (.pointer none), (.pointer none), (.pointer none), (.pointer none), (.int .u64 0), (.int .u64 0)], blk b₁ 27 [(.int .i64 op), (.int .u64 u), (.int .u64 v), (.int .i64 wt), (.int .i64 t), dv, bv]] w₂₁ := St.grow hs₂₁ hq₁₅
  refine asg (v := (.bool true)) rfl rfl ?_
  refine wl_nil ?_
  refine tN ((hK₂₅ _ _ ?_))
  refine rt ?_
  refine ret1 (v := (.bool true)) Tryz.results3 rfl ?_
  exact ⟨rfl, hs₂₂.chg (by simp)⟩
end Go.Proofs.YtkgehjpepjaliaaGreatDoor
