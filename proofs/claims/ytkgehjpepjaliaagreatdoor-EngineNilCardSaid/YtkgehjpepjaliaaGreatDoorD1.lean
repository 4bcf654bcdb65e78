import Derived.Test.YtkgehjpepjaliaaGreatDoorT
import Derived.Test.YtkgehjpepjaliaaGreatDoorFa
import Derived.Test.YtkgehjpepjaliaaGreatDoorFc
set_option linter.unusedVariables false
set_option linter.unusedSimpArgs false
set_option maxRecDepth 100000
namespace Go.Proofs.YtkgehjpepjaliaaGreatDoor
open Go Go.Sx
theorem del_one (b o u : Nat) (cs : List Value) (w : World) (hO : Own (blk b 3 cs) w) (ho : o + 1 ≤ cs.length) :
    CR Tryz.prog 145 #[(.slice (some ⟨b, o, none⟩) 1 (1)), (.int .i64 0), (.int .i64 1)] w (fun r w' => r = .slice (some ⟨b, o, none⟩) 0 (1) ∧ Turn (blk b 3 cs) w w' (blk b 3 (setAt cs o [.int .i64 0]))) := by
  refine enter (vs := [(.slice (some ⟨b, o, none⟩) 1 (1)), (.int .i64 0), (.int .i64 1)]) Tryz.func145 rfl Tryz.ntmps145 rfl ?_
  have hst0 : St _ [blk b 3 cs] w := St.initR hO
  refine sq fun K₁ hK₁ => ?_
  refine rg ?_
  refine asg (v := (.slice none 0 0)) rfl rfl ?_
  refine wl_nil ?_
  refine tN ((hK₁ _ _ ?_))
  refine sq fun K₂ hK₂ => ?_
  refine rg ?_
  refine mv (v := (.slice (some ⟨b, o, none⟩) 1 (1))) rfl rfl ?_
  refine mv (v := (.int .i64 0)) rfl rfl ?_
  refine mv (v := (.int .i64 1)) rfl rfl ?_
  refine mv (v := (.slice (some ⟨b, o, none⟩) 1 (1))) rfl rfl ?_
  refine lenS (m := 1) (c := (1)) rfl rfl Tryz.underlying85 ?_
  refine sl3 rfl rfl rfl rfl rfl Tryz.underlying85 ti3 (by omega) ?_
  refine wl_nil ?_
  refine tN ((hK₂ _ _ ?_))
  refine sq fun K₃ hK₃ => ?_
  refine sq fun K₄ hK₄ => ?_
  refine rg ?_
  refine mv (v := (.int .i64 0)) rfl rfl ?_
  refine mv (v := (.int .i64 1)) rfl rfl ?_
  refine cmp (a := 0) (b := 1) rfl rfl rfl (c_neq (by decide)) ?_
  refine wl_nil ?_
  refine tN ((hK₄ _ _ ?_))
  refine cdF rfl ?_
  refine sp ?_
  refine tN ((hK₃ _ _ ?_))
  refine sq fun K₅ hK₅ => ?_
  refine rg ?_
  refine mv (v := (.slice (some ⟨b, o, none⟩) 1 (1))) rfl rfl ?_
  refine lenS (m := 1) (c := (1)) rfl rfl Tryz.underlying85 ?_
  refine asg (v := (.int .i64 (1 : Int))) rfl rfl ?_
  refine wl_nil ?_
  refine tN ((hK₅ _ _ ?_))
  refine sq fun K₆ hK₆ => ?_
  refine rgs (Γ := Unit) mixed [[], [], [0, 1], [], [], [3, 4], [0, 1, 2, 3, 4, 5], [0, 1, 2, 3, 4, 5, 6]] [] (by decide) [fun _ => (.slice (some ⟨b, o, none⟩) 1 (1)), fun _ => (.int .i64 0), fun _ => (.slice (some ⟨b, o, none⟩) 0 (1)), fun _ => (.slice (some ⟨b, o, none⟩) 1 (1)), fun _ => (.int .i64 1), fun _ => (.slice (some ⟨b, o, none⟩) 0 0), fun _ => (.slice (some ⟨b, o, none⟩) 0 (1)), fun _ => (.slice (some ⟨b, o, none⟩) 0 (1))] [(fun _ => [blk b 3 cs], fun _ _ => True)] () (fun _ => (0, (.slice (some ⟨b, o, none⟩) 0 (1))) :: (26, (.slice (some ⟨b, o, none⟩) 0 (1))) :: (25, (.slice (some ⟨b, o, none⟩) 0 0)) :: (24, (.int .i64 1)) :: (23, (.slice (some ⟨b, o, none⟩) 1 (1))) :: (22, (.slice (some ⟨b, o, none⟩) 0 (1))) :: (21, (.int .i64 0)) :: (20, (.slice (some ⟨b, o, none⟩) 1 (1))) :: _) rfl hst0 (fun _ _ => trivial) ?_ (fun _ => rfl) rfl ?_
  · skip
    refine ob_p rfl (fun _ _ _ => qv rfl rfl (mv_r (v := (.slice (some ⟨b, o, none⟩) 1 (1))) rfl)) ?_
    refine ob_p rfl (fun _ _ _ => qv rfl rfl (mv_r (v := (.int .i64 0)) rfl)) ?_
    refine ob_p rfl (fun _ _ _ => qv rfl rfl (sl0_r rfl rfl Tryz.underlying85 ti3)) ?_
    refine ob_p rfl (fun _ _ _ => qv rfl rfl (mv_r (v := (.slice (some ⟨b, o, none⟩) 1 (1))) rfl)) ?_
    refine ob_p rfl (fun _ _ _ => qv rfl rfl (mv_r (v := (.int .i64 1)) rfl)) ?_
    refine ob_p rfl (fun _ _ _ => qv rfl rfl (slE_r rfl rfl Tryz.underlying85 ti3)) ?_
    refine ob_p rfl (fun _ _ _ => qv rfl rfl (ap0_r rfl rfl Tryz.underlying85 ti3)) ?_
    refine ob_p rfl (fun _ _ _ => qv rfl rfl (asg_r (v := (.slice (some ⟨b, o, none⟩) 0 (1))) rfl)) ?_
    exact ob_n
  rintro - w₁ hs₁ -
  refine tN ((hK₆ _ _ ?_))
  refine sq fun K₇ hK₇ => ?_
  refine rg ?_
  refine mv (v := (.slice (some ⟨b, o, none⟩) 0 (1))) rfl rfl ?_
  refine mv (v := (.slice (some ⟨b, o, none⟩) 0 (1))) rfl rfl ?_
  refine lenS (m := 0) (c := (1)) rfl rfl Tryz.underlying85 ?_
  refine mv (v := (.int .i64 (1 : Int))) rfl rfl ?_
  refine sl01 rfl rfl rfl rfl Tryz.underlying85 ti3 (by omega) ?_
  refine clr1 rfl rfl Tryz.underlying85 ti3 hs₁ rfl ho ?_
  intro w₂ hs₂
  refine wl_nil ?_
  refine tN ((hK₇ _ _ ?_))
  refine sq fun K₈ hK₈ => ?_
  refine rg ?_
  refine mv (v := (.slice (some ⟨b, o, none⟩) 0 (1))) rfl rfl ?_
  refine asg (v := (.slice (some ⟨b, o, none⟩) 0 (1))) rfl rfl ?_
  refine wl_nil ?_
  refine tN ((hK₈ _ _ ?_))
  refine rt ?_
  refine ret1 (v := (.slice (some ⟨b, o, none⟩) 0 (1))) Tryz.results145 rfl ?_
  exact ⟨rfl, St.endTurn (R' := blk b 3 (setAt cs o [.int .i64 0])) hs₂ List.mem_cons_self⟩
theorem del_more (b o s : Nat) (cs : List Value) (w : World) (hO : Own (blk b 3 cs) w) (ho : o + 1 ≤ cs.length) :
    CR Tryz.prog 145 #[(.slice (some ⟨b, o, none⟩) 1 (s + 2)), (.int .i64 0), (.int .i64 1)] w (fun r w' => r = .slice (some ⟨b, o, none⟩) 0 (s + 2) ∧ Turn (blk b 3 cs) w w' (blk b 3 (setAt cs o [.int .i64 0]))) := by
  refine enter (vs := [(.slice (some ⟨b, o, none⟩) 1 (s + 2)), (.int .i64 0), (.int .i64 1)]) Tryz.func145 rfl Tryz.ntmps145 rfl ?_
  have hst0 : St _ [blk b 3 cs] w := St.initR hO
  refine sq fun K₁ hK₁ => ?_
  refine rg ?_
  refine asg (v := (.slice none 0 0)) rfl rfl ?_
  refine wl_nil ?_
  refine tN ((hK₁ _ _ ?_))
  refine sq fun K₂ hK₂ => ?_
  refine rg ?_
  refine mv (v := (.slice (some ⟨b, o, none⟩) 1 (s + 2))) rfl rfl ?_
  refine mv (v := (.int .i64 0)) rfl rfl ?_
  refine mv (v := (.int .i64 1)) rfl rfl ?_
  refine mv (v := (.slice (some ⟨b, o, none⟩) 1 (s + 2))) rfl rfl ?_
  refine lenS (m := 1) (c := (s + 2)) rfl rfl Tryz.underlying85 ?_
  refine sl3 rfl rfl rfl rfl rfl Tryz.underlying85 ti3 (by omega) ?_
  refine wl_nil ?_
  refine tN ((hK₂ _ _ ?_))
  refine sq fun K₃ hK₃ => ?_
  refine sq fun K₄ hK₄ => ?_
  refine rg ?_
  refine mv (v := (.int .i64 0)) rfl rfl ?_
  refine mv (v := (.int .i64 1)) rfl rfl ?_
  refine cmp (a := 0) (b := 1) rfl rfl rfl (c_neq (by decide)) ?_
  refine wl_nil ?_
  refine tN ((hK₄ _ _ ?_))
  refine cdF rfl ?_
  refine sp ?_
  refine tN ((hK₃ _ _ ?_))
  refine sq fun K₅ hK₅ => ?_
  refine rg ?_
  refine mv (v := (.slice (some ⟨b, o, none⟩) 1 (s + 2))) rfl rfl ?_
  refine lenS (m := 1) (c := (s + 2)) rfl rfl Tryz.underlying85 ?_
  refine asg (v := (.int .i64 (1 : Int))) rfl rfl ?_
  refine wl_nil ?_
  refine tN ((hK₅ _ _ ?_))
  refine sq fun K₆ hK₆ => ?_
  refine rgs (Γ := Unit) mixed [[], [], [0, 1], [], [], [3, 4], [0, 1, 2, 3, 4, 5], [0, 1, 2, 3, 4, 5, 6]] [] (by decide) [fun _ => (.slice (some ⟨b, o, none⟩) 1 (s + 2)), fun _ => (.int .i64 0), fun _ => (.slice (some ⟨b, o, none⟩) 0 (s + 2)), fun _ => (.slice (some ⟨b, o, none⟩) 1 (s + 2)), fun _ => (.int .i64 1), fun _ => (.slice (some ⟨b, o + 1, none⟩) 0 (s + 1)), fun _ => (.slice (some ⟨b, o, none⟩) 0 (s + 2)), fun _ => (.slice (some ⟨b, o, none⟩) 0 (s + 2))] [(fun _ => [blk b 3 cs], fun _ _ => True)] () (fun _ => (0, (.slice (some ⟨b, o, none⟩) 0 (s + 2))) :: (26, (.slice (some ⟨b, o, none⟩) 0 (s + 2))) :: (25, (.slice (some ⟨b, o + 1, none⟩) 0 (s + 1))) :: (24, (.int .i64 1)) :: (23, (.slice (some ⟨b, o, none⟩) 1 (s + 2))) :: (22, (.slice (some ⟨b, o, none⟩) 0 (s + 2))) :: (21, (.int .i64 0)) :: (20, (.slice (some ⟨b, o, none⟩) 1 (s + 2))) :: _) rfl hst0 (fun _ _ => trivial) ?_ (fun _ => rfl) rfl ?_
  · skip
    refine ob_p rfl (fun _ _ _ => qv rfl rfl (mv_r (v := (.slice (some ⟨b, o, none⟩) 1 (s + 2))) rfl)) ?_
    refine ob_p rfl (fun _ _ _ => qv rfl rfl (mv_r (v := (.int .i64 0)) rfl)) ?_
    refine ob_p rfl (fun _ _ _ => qv rfl rfl (sl0_r rfl rfl Tryz.underlying85 ti3)) ?_
    refine ob_p rfl (fun _ _ _ => qv rfl rfl (mv_r (v := (.slice (some ⟨b, o, none⟩) 1 (s + 2))) rfl)) ?_
    refine ob_p rfl (fun _ _ _ => qv rfl rfl (mv_r (v := (.int .i64 1)) rfl)) ?_
    refine ob_p rfl (fun _ _ _ => qv rfl rfl (slS_r rfl rfl Tryz.underlying85 ti3)) ?_
    refine ob_p rfl (fun _ _ _ => qv rfl rfl (ap0_r rfl rfl Tryz.underlying85 ti3)) ?_
    refine ob_p rfl (fun _ _ _ => qv rfl rfl (asg_r (v := (.slice (some ⟨b, o, none⟩) 0 (s + 2))) rfl)) ?_
    exact ob_n
  rintro - w₁ hs₁ -
  refine tN ((hK₆ _ _ ?_))
  refine sq fun K₇ hK₇ => ?_
  refine rg ?_
  refine mv (v := (.slice (some ⟨b, o, none⟩) 0 (s + 2))) rfl rfl ?_
  refine mv (v := (.slice (some ⟨b, o, none⟩) 0 (s + 2))) rfl rfl ?_
  refine lenS (m := 0) (c := (s + 2)) rfl rfl Tryz.underlying85 ?_
  refine mv (v := (.int .i64 (1 : Int))) rfl rfl ?_
  refine sl01 rfl rfl rfl rfl Tryz.underlying85 ti3 (by omega) ?_
  refine clr1 rfl rfl Tryz.underlying85 ti3 hs₁ rfl ho ?_
  intro w₂ hs₂
  refine wl_nil ?_
  refine tN ((hK₇ _ _ ?_))
  refine sq fun K₈ hK₈ => ?_
  refine rg ?_
  refine mv (v := (.slice (some ⟨b, o, none⟩) 0 (s + 2))) rfl rfl ?_
  refine asg (v := (.slice (some ⟨b, o, none⟩) 0 (s + 2))) rfl rfl ?_
  refine wl_nil ?_
  refine tN ((hK₈ _ _ ?_))
  refine rt ?_
  refine ret1 (v := (.slice (some ⟨b, o, none⟩) 0 (s + 2))) Tryz.results145 rfl ?_
  exact ⟨rfl, St.endTurn (R' := blk b 3 (setAt cs o [.int .i64 0])) hs₂ List.mem_cons_self⟩
end Go.Proofs.YtkgehjpepjaliaaGreatDoor
