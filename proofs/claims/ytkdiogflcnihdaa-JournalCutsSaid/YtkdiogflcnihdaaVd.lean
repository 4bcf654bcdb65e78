/- What the functions that the statements reach do: walks through the code of the program and of the references, one theorem a function; under what is said of its arguments. -/
import Derived.Test.YtkdiogflcnihdaaVc
import Derived.Test.YtkdiogflcnihdaaFb
set_option linter.unusedVariables false
set_option linter.unusedSimpArgs false
set_option maxRecDepth 100000
namespace Go.Proofs.Ytkdiogflcnihdaa
open Go Go.Sx
theorem Clone_ok (v : Value) (xs : List Int) (w : World) (hv : Ints .u8 (fun _ => True) w v xs) (hl0 : xs.length ≤ 100000000000) :
 CR Try.prog 32 #[v] w (fun r w' => Fresh .u8 w w' r 5 xs ∧ Chg [] w w') := by
 have hv := (hv.old (by decide)).mono (ok' := fun b => b < w.heap.size) (fun _ h => h.2)
 have hlen := hv.len
 refine enter (vs := [v]) Try.func32 rfl Try.ntmps32 rfl ?_
 have hst0 := St.init w
 refine sq fun K1 hK1 => (rg (asg (v := (.slice none 0 0)) rfl rfl (wl_nil (tN ((hK1 _ _ ?_))))))
 refine sq fun K2 hK2 => (sq fun K3 hK3 => (rg (mv (v := v) rfl rfl (eqNilI (v := v) rfl rfl rfl Try.underlying22 hv (wl_nil (tN ((hK3 _ _ ?_))))))))
 cases hz1 : (nilS v : Bool)
 · skip
   refine cdF rfl (sp (tN ((hK2 _ _ ?_))))
   refine sq fun K4 hK4 => (rg (bsv (vs := []) (cs := []) rfl rfl Try.underlying22 ti5 rfl (by intro v hv; simp at hv) rfl rfl rfl hst0 ?_))
   intro b1 w1 hn1 hc1 hs1
   have hs1 : St _ [rowI .u8 (.slice (some ⟨b1, 0, none⟩) 0 0) 5 ([])] w1 := hs1
   refine mv (v := v) rfl rfl (apdI (k := .u8) (ys := []) (zs := xs) (LL := fun v1 => [rowI .u8 v1 5 (([]) ++ xs)]) 0 rfl rfl rfl Try.underlying22 ti5 rfl hs1 rfl (Ints.src (St.ints0 hs1 (by simp) hv)) (by simp; omega) (by simp; omega) (fun _ => rfl) ?_)
   intro v1 w2 hs2 hc2
   have hs2 : St _ [rowI .u8 v1 5 (([]) ++ xs)] w2 := hs2
   refine asg (v := v1) rfl rfl (wl_nil (tN ((hK4 _ _ ?_))))
   refine rt (ret1 (v := v1) Try.results32 rfl ?_)
   exact ⟨St.endFresh hs2 (by simp), hs2.chg (by simp)⟩
 · skip
   refine cdT rfl (sq fun K5 hK5 => (rg (asg (v := (.slice none 0 0)) rfl rfl (wl_nil (tN ((hK5 _ _ ?_)))))))
   refine rt (tR (?_))
   refine ret1 (v := (.slice none 0 0)) Try.results32 rfl ?_
   obtain rfl := nil_empty hz1 hv
   exact ⟨Fresh.nil _ _ _ _, hst0.chg (by simp)⟩
theorem Repair_ok (v : Value) (xs : List Int) (w : World) (hv : Ints .u8 (fun _ => True) w v xs) (hl0 : xs.length ≤ 100000000000) :
 CR Try.prog 20 #[v] w (fun r w' => Fresh .u8 w w' r 5 (xs.take (readS xs).2.1) ∧ Chg [] w w') := by
 have hv := (hv.old (by decide)).mono (ok' := fun b => b < w.heap.size) (fun _ h => h.2)
 have hlen := hv.len
 have hrl := read_le xs
 refine enter (vs := [v]) Try.func20 rfl Try.ntmps20 rfl ?_
 have hst0 := St.init w
 refine sq fun K1 hK1 => (rg (asg (v := (.slice none 0 0)) rfl rfl (wl_nil (tN ((hK1 _ _ ?_))))))
 refine sq fun K2 hK2 => (rg (mv (v := v) rfl rfl (mv (v := v) rfl rfl (clF (vl := [v]) rfl rfl ent23 (size_ok v xs w (Sl.any hv) (by omega)) ?_))))
 rintro _ w1 ⟨rfl, hq⟩
 have hs1 : St _ [] w1 := St.grow hst0 hq
 refine slI (l := 0) (h := (readS xs).2.1) rfl rfl Try.underlying22 ti5 hv rfl ⟨_, eqI (by omega)⟩ (by first | omega | simp) (by first | omega | simp) (fun v1 hv1 => clF (vl := [v1]) rfl rfl ent32 (Clone_ok v1 (xs.take (readS xs).2.1) w1 (Sl.any (by have h9 := (St.ints0 hs1 (by simp) hv1); rw [List.drop_zero] at h9; exact h9)) (by simp; omega)) ?_)
 rintro v2 w2 hf
 have hs2 : St _ [rowI .u8 v2 5 (xs.take (readS xs).2.1)] w2 := St.addFresh hs1 hf.2 hf.1
 refine asg (v := v2) rfl rfl (wl_nil (tN ((hK2 _ _ ?_))))
 refine rt (ret1 (v := v2) Try.results20 rfl ?_)
 exact ⟨St.endFresh hs2 (by simp), hs2.chg (by simp)⟩
theorem Append_ok (v : Value) (xs : List Int) (w : World) (hv : Ints .u8 (fun _ => True) w v xs) (hl0 : xs.length ≤ 100000000000) (c : Cmd) (dv bv : Value) (hc : c.ok) (hd : Ints .u64 (fun _ => True) w dv c.dr) (hb : Ints .i64 (fun _ => True) w bv c.bo) :
 CR Try.prog 10 #[v, (.agg #[(.int .i64 c.op), (.int .u64 c.u), (.int .u64 c.v), (.int .i64 c.wt), (.int .i64 c.t), dv, bv])] w (fun r w' => ∃ v', r = .tuple #[v', .int .i64 (appO xs c).2] ∧ Fresh .u8 w w' v' 5 (appO xs c).1 ∧ Chg [] w w') := by
 have hv := (hv.old (by decide)).mono (ok' := fun b => b < w.heap.size) (fun _ h => h.2)
 have hlen := hv.len
 have hd := (hd.old (by decide)).mono (ok' := fun b => b < w.heap.size) (fun _ h => h.2)
 have hb := (hb.old (by decide)).mono (ok' := fun b => b < w.heap.size) (fun _ h => h.2)
 have hrl := read_le xs
 refine enter (vs := [v, (.agg #[(.int .i64 c.op), (.int .u64 c.u), (.int .u64 c.v), (.int .i64 c.wt), (.int .i64 c.t), dv, bv])]) Try.func10 rfl Try.ntmps10 rfl ?_
 have hst0 := St.init w
 refine sq fun K1 hK1 => (rg (bx (v := (.agg #[(.int .i64 c.op), (.int .u64 c.u), (.int .u64 c.v), (.int .i64 c.wt), (.int .i64 c.t), dv, bv])) (cs := [(.int .i64 c.op), (.int .u64 c.u), (.int .u64 c.v), (.int .i64 c.wt), (.int .i64 c.t), dv, bv]) rfl rfl rfl hst0 (fun b1 w1 hn1 hc1 hs1 => asg (v := (.slice none 0 0)) rfl rfl (asg (v := (.int .i64 0)) rfl rfl (wl_nil (tN ((hK1 _ _ ?_))))))))
 refine sq fun K2 hK2 => (rg (ldA (cs := [(.int .i64 c.op), (.int .u64 c.u), (.int .u64 c.v), (.int .i64 c.wt), (.int .i64 c.t), dv, bv]) rfl rfl Try.underlying28 rfl ti28 rfl (St.blkCells hs1 (i := 0) (o := 0) (vs := [(.int .i64 c.op), (.int .u64 c.u), (.int .u64 c.v), (.int .i64 c.wt), (.int .i64 c.t), dv, bv]) rfl rfl) (clF (vl := [(.agg #[(.int .i64 c.op), (.int .u64 c.u), (.int .u64 c.v), (.int .i64 c.wt), (.int .i64 c.t), dv, bv])]) rfl rfl ent22 (Put_ok c dv bv w1 hc (Sl.any (St.ints0 hs1 (by simp) hd)) (Sl.any (St.ints0 hs1 (by simp) hb))) ?_)))
 rintro _ w2 ⟨vf, rfl, hf, hq⟩
 have hs2 : St _ [rowI .u8 vf 5 (frameO c), blk b1 28 [(.int .i64 c.op), (.int .u64 c.u), (.int .u64 c.v), (.int .i64 c.wt), (.int .i64 c.t), dv, bv]] w2 := St.addFresh hs1 hq hf
 refine mv (v := (.tuple #[vf, (.int .i64 (checkS c))])) rfl rfl (ex (vs := #[vf, (.int .i64 (checkS c))]) (v := vf) rfl rfl rfl (ex (vs := #[vf, (.int .i64 (checkS c))]) (v := (.int .i64 (checkS c))) rfl rfl rfl (asg (v := vf) rfl rfl (asg (v := (.int .i64 (checkS c))) rfl rfl (wl_nil (tN ((hK2 _ _ ?_))))))))
 refine sq fun K3 hK3 => (sq fun K4 hK4 => (rg (mv (v := (.int .i64 (checkS c))) rfl rfl ?_)))
 by_cases h1 : (checkS c : Int) = (0 : Int)
 · refine cmp (a := checkS c) (b := 0) rfl rfl rfl (c_nne h1) ?_
   have hk0 : checkS c = 0 := h1
   have hfl9 := frame_len hc hk0
   have hfp := frame_pos c
   have hfe : (frameO c).length = (frameS c).length := by rw [frameO_ok hk0]
   have hfin : ∀ y ∈ frameO c, InK .u8 y := by rw [frameO_ok hk0]; exact frame_in hc hk0
   refine wl_nil (tN ((hK4 _ _ ?_)))
   refine cdF rfl (sp (tN ((hK3 _ _ ?_))))
   refine sq fun K5 hK5 => (sq fun K6 hK6 => (rg (mv (v := v) rfl rfl (clF (vl := [v]) rfl rfl ent23 (size_ok v xs w2 (Sl.any (St.ints0 hs2 (by simp) hv)) (by omega)) ?_))))
   rintro _ w3 ⟨rfl, hq⟩
   have hs3 : St _ [rowI .u8 vf 5 (frameO c), blk b1 28 [(.int .i64 c.op), (.int .u64 c.u), (.int .u64 c.v), (.int .i64 c.wt), (.int .i64 c.t), dv, bv]] w3 := St.grow hs2 hq
   refine mv (v := v) rfl rfl (lenI (v := v) rfl rfl Try.underlying22 hv ?_)
   by_cases h2 : (((readS xs).2.1 : Int) : Int) = ((xs.length : Int) : Int)
   · refine cmp (a := ((readS xs).2.1 : Int)) (b := (xs.length : Int)) rfl rfl rfl (c_nne h2) (wl_nil (tN ((hK6 _ _ ?_))))
     refine cdF rfl (sp (tN ((hK5 _ _ ?_))))
     refine sq fun K7 hK7 => (rg (al (cs := [(.int .u8 0), (.int .u8 0), (.int .u8 0), (.int .u8 0)]) rfl ti54 rfl hs3 (fun b2 w4 hn2 hc2 hs4 => wl_nil (tN ((hK7 _ _ ?_))))))
     refine sq fun K8 hK8 => ?_
     obtain ⟨l0, l1, l2, l3, hlast, hor, hset⟩ := last4 (b := xs) (by omega)
     refine rgs (Γ := Unit) mixed [[], [], [], [2], [2, 3], [2, 3, 4], [1, 2, 3, 4, 5], [0, 1, 2, 3, 4, 5, 6]] [7] (by decide) [fun _ => (.slice (some ⟨b2, 0, none⟩) 4 4), fun _ => v, fun _ => v, fun _ => (.int .i64 (xs.length : Int)), fun _ => (.int .i64 ((xs.length : Int) - 4)), fun _ => (.int .i64 ((xs.length - 4 : Nat) : Int)), fun _ => (cutV 1 v (xs.length - 4) xs.length), fun _ => (.int .i64 ((min ((xs.drop (xs.length - 4)).length) 4 : Nat) : Int))] [(fun _ => [blk b2 54 [(.int .u8 0), (.int .u8 0), (.int .u8 0), (.int .u8 0)], rowI .u8 vf 5 (frameO c), blk b1 28 [(.int .i64 c.op), (.int .u64 c.u), (.int .u64 c.v), (.int .i64 c.wt), (.int .i64 c.t), dv, bv]], fun _ _ => True), (fun _ => [blk b2 54 [(.int .u8 l0), (.int .u8 l1), (.int .u8 l2), (.int .u8 l3)], rowI .u8 vf 5 (frameO c), blk b1 28 [(.int .i64 c.op), (.int .u64 c.u), (.int .u64 c.v), (.int .i64 c.wt), (.int .i64 c.t), dv, bv]], fun _ _ => True)] () (fun _ => (31, (.int .i64 ((min ((xs.drop (xs.length - 4)).length) 4 : Nat) : Int))) :: (30, (cutV 1 v (xs.length - 4) xs.length)) :: (29, (.int .i64 ((xs.length - 4 : Nat) : Int))) :: (28, (.int .i64 ((xs.length : Int) - 4))) :: (27, (.int .i64 (xs.length : Int))) :: (26, v) :: (25, v) :: (24, (.slice (some ⟨b2, 0, none⟩) 4 4)) :: _) rfl hs4 (fun _ _ => trivial) ?_ (fun _ => rfl) rfl ?_
     · skip
       refine ob_p rfl (fun _ _ _ => qv rfl rfl (slArr_r (b := b2) (o := 0) (m := 4) rfl Try.underlying54 ti5)) (ob_p rfl (fun _ _ _ => qv rfl rfl (mv_r (v := v) rfl)) (ob_p rfl (fun _ _ _ => qv rfl rfl (mv_r (v := v) rfl)) (ob_p rfl (fun _ _ _ => qv rfl rfl (lenI_r (v := v) rfl Try.underlying22 hv)) (ob_p rfl (fun _ _ _ => qv rfl rfl (ar_r (a := (xs.length : Int)) (b := 4) (c := (xs.length : Int) - 4) rfl rfl rfl (w64 (by omega)))) (ob_p rfl (fun _ _ _ => qv rfl rfl (max2_r (a := (xs.length : Int) - 4) (b := 0) (c := ((xs.length - 4 : Nat) : Int)) rfl rfl (by split <;> omega))) (ob_p rfl (fun _ _ _ => qv rfl rfl (slI_r (l := (xs.length - 4)) (h := xs.length) rfl Try.underlying22 ti5 hv ⟨_, eqI (by omega)⟩ rfl (by omega) (by omega))) (ob_m rfl rfl rfl rfl (fun _ wq hM hF => m_cpy (cnt := (xs.drop (xs.length - 4)).length) (news := (xs.drop (xs.length - 4)).map (.int .u8)) (dl := 4) (dc := 4) (cs' := [(.int .u8 l0), (.int .u8 l1), (.int .u8 l2), (.int .u8 l3)]) (L' := [blk b2 54 [(.int .u8 l0), (.int .u8 l1), (.int .u8 l2), (.int .u8 l3)], rowI .u8 vf 5 (frameO c), blk b1 28 [(.int .i64 c.op), (.int .u64 c.u), (.int .u64 c.v), (.int .i64 c.wt), (.int .i64 c.t), dv, bv]]) 0 rfl rfl rfl Try.underlying22 ti5 (Ints.src (St.ints0 hM (by simp) (Ints.dropV hv (n := (xs.length - 4)) (by omega)))) (ints_one _ _) hM rfl (by simp; omega) hset rfl (fun _ h => ⟨(), ⟨h, trivial⟩, rfl, Stab.refl _ _ _⟩)) ?_)))))))
       exact ob_n
     rintro - w5 hs5 -
     refine tN ((hK8 _ _ ?_))
     refine sq fun K9 hK9 => (rg ?_)
     have hin4 : ∀ y ∈ [l0, l1, l2, l3], InK .u8 y := by rw [← hlast]; exact read_last_in xs (fun y hy => Ints.in hv hy)
     refine ldA (cs := [(.int .u8 l0), (.int .u8 l1), (.int .u8 l2), (.int .u8 l3)]) rfl rfl Try.underlying54 rfl ti54 rfl (St.blkCells hs5 (i := 0) (o := 0) (vs := [(.int .u8 l0), (.int .u8 l1), (.int .u8 l2), (.int .u8 l3)]) rfl rfl) (clF (vl := [(.agg #[(.int .u8 l0), (.int .u8 l1), (.int .u8 l2), (.int .u8 l3)])]) rfl rfl ent24 (chain_ok l0 l1 l2 l3 w5) ?_)
     rintro _ w6 ⟨kl, hkn, rfl, hkb0, hq⟩
     have hs6 : St _ [blk kl 54 [(.int .u8 l0), (.int .u8 l1), (.int .u8 l2), (.int .u8 l3)], blk b2 54 [(.int .u8 l0), (.int .u8 l1), (.int .u8 l2), (.int .u8 l3)], rowI .u8 vf 5 (frameO c), blk b1 28 [(.int .i64 c.op), (.int .u64 c.u), (.int .u64 c.v), (.int .i64 c.wt), (.int .i64 c.t), dv, bv]] w6 := St.addBlk hs5 hq hkn hkb0
     refine mv (v := vf) rfl rfl (clV (fi := []) (ca := [(.pointer (some ⟨kl, 0, none⟩))]) (vl := [vf, (.pointer (some ⟨kl, 0, none⟩))]) rfl rfl rfl ent34 (chain1_ok kl l0 l1 l2 l3 vf (frameO c) (fun b => b ∉ (blk kl 54 [(.int .u8 l0), (.int .u8 l1), (.int .u8 l2), (.int .u8 l3)]).foot) w6 (hs6.at (i := 0) rfl) hin4 (St.rowIntsX hs6 (i := 2) (j := 0) rfl hfin rfl (by decide)) (fun b hb e => hb (by simp [blk, e])) (by omega) (by omega)) ?_)
     rintro _ w7 ⟨rfl, hk1, hk2⟩
     have hs7 : St _ [blk kl 54 [(.int .u8 (((sumS ([l0, l1, l2, l3] ++ frameO c)) / 16777216 % 256 : Nat) : Int)), (.int .u8 (((sumS ([l0, l1, l2, l3] ++ frameO c)) / 65536 % 256 : Nat) : Int)), (.int .u8 (((sumS ([l0, l1, l2, l3] ++ frameO c)) / 256 % 256 : Nat) : Int)), (.int .u8 (((sumS ([l0, l1, l2, l3] ++ frameO c)) % 256 : Nat) : Int))], blk b2 54 [(.int .u8 l0), (.int .u8 l1), (.int .u8 l2), (.int .u8 l3)], rowI .u8 vf 5 (frameO c), blk b1 28 [(.int .i64 c.op), (.int .u64 c.u), (.int .u64 c.v), (.int .i64 c.wt), (.int .i64 c.t), dv, bv]] w7 := St.updB 0 hs6 rfl hk1 hk2 rfl
     refine al (cs := [(.int .u8 0), (.int .u8 0), (.int .u8 0), (.int .u8 0)]) rfl ti54 rfl hs7 (fun b3 w8 hn3 hc3 hs8 => sto (v := (.agg #[(.int .u8 (((sumS ([l0, l1, l2, l3] ++ frameO c)) / 16777216 % 256 : Nat) : Int)), (.int .u8 (((sumS ([l0, l1, l2, l3] ++ frameO c)) / 65536 % 256 : Nat) : Int)), (.int .u8 (((sumS ([l0, l1, l2, l3] ++ frameO c)) / 256 % 256 : Nat) : Int)), (.int .u8 (((sumS ([l0, l1, l2, l3] ++ frameO c)) % 256 : Nat) : Int))])) (vs := [(.int .u8 (((sumS ([l0, l1, l2, l3] ++ frameO c)) / 16777216 % 256 : Nat) : Int)), (.int .u8 (((sumS ([l0, l1, l2, l3] ++ frameO c)) / 65536 % 256 : Nat) : Int)), (.int .u8 (((sumS ([l0, l1, l2, l3] ++ frameO c)) / 256 % 256 : Nat) : Int)), (.int .u8 (((sumS ([l0, l1, l2, l3] ++ frameO c)) % 256 : Nat) : Int))]) (cs' := [(.int .u8 (((sumS ([l0, l1, l2, l3] ++ frameO c)) / 16777216 % 256 : Nat) : Int)), (.int .u8 (((sumS ([l0, l1, l2, l3] ++ frameO c)) / 65536 % 256 : Nat) : Int)), (.int .u8 (((sumS ([l0, l1, l2, l3] ++ frameO c)) / 256 % 256 : Nat) : Int)), (.int .u8 (((sumS ([l0, l1, l2, l3] ++ frameO c)) % 256 : Nat) : Int))]) (L' := [blk b3 54 [(.int .u8 (((sumS ([l0, l1, l2, l3] ++ frameO c)) / 16777216 % 256 : Nat) : Int)), (.int .u8 (((sumS ([l0, l1, l2, l3] ++ frameO c)) / 65536 % 256 : Nat) : Int)), (.int .u8 (((sumS ([l0, l1, l2, l3] ++ frameO c)) / 256 % 256 : Nat) : Int)), (.int .u8 (((sumS ([l0, l1, l2, l3] ++ frameO c)) % 256 : Nat) : Int))], blk kl 54 [(.int .u8 (((sumS ([l0, l1, l2, l3] ++ frameO c)) / 16777216 % 256 : Nat) : Int)), (.int .u8 (((sumS ([l0, l1, l2, l3] ++ frameO c)) / 65536 % 256 : Nat) : Int)), (.int .u8 (((sumS ([l0, l1, l2, l3] ++ frameO c)) / 256 % 256 : Nat) : Int)), (.int .u8 (((sumS ([l0, l1, l2, l3] ++ frameO c)) % 256 : Nat) : Int))], blk b2 54 [(.int .u8 l0), (.int .u8 l1), (.int .u8 l2), (.int .u8 l3)], rowI .u8 vf 5 (frameO c), blk b1 28 [(.int .i64 c.op), (.int .u64 c.u), (.int .u64 c.v), (.int .i64 c.wt), (.int .i64 c.t), dv, bv]]) 0 rfl rfl rfl rfl ti54 rfl rfl hs8 rfl rfl rfl rfl (fun w9 hs9 => wl_nil (tN ((hK9 _ _ ?_)))))
     refine sq fun K10 hK10 => (rg (mv (v := v) rfl rfl (lenI (v := v) rfl rfl Try.underlying22 hv (mv (v := vf) rfl rfl (lenR (m := (frameO c).length) 3 rfl rfl Try.underlying22 hs9 rfl (ar (a := (xs.length : Int)) (b := (((frameO c).length : Nat) : Int)) (c := (xs.length : Int) + (((frameO c).length : Nat) : Int)) rfl rfl rfl rfl (w64 (by omega)) (ar (a := (xs.length : Int) + (((frameO c).length : Nat) : Int)) (b := 4) (c := ((xs.length : Int) + (((frameO c).length : Nat) : Int)) + 4) rfl rfl rfl rfl (w64 (by omega)) ?_)))))))
     refine mks (m := 0) (c := (xs.length + (frameO c).length + 4)) rfl (eqI (by omega)) (eqI (by omega)) Try.underlying22 ti5 rfl (by omega) (by omega) (by omega) hs9 ?_
     intro b4 w10 hn4 hc4 hs10
     have hs11 : St _ [rowI .u8 (.slice (some ⟨b4, 0, none⟩) 0 (xs.length + (frameO c).length + 4)) 5 ([]), blk b3 54 [(.int .u8 (((sumS ([l0, l1, l2, l3] ++ frameO c)) / 16777216 % 256 : Nat) : Int)), (.int .u8 (((sumS ([l0, l1, l2, l3] ++ frameO c)) / 65536 % 256 : Nat) : Int)), (.int .u8 (((sumS ([l0, l1, l2, l3] ++ frameO c)) / 256 % 256 : Nat) : Int)), (.int .u8 (((sumS ([l0, l1, l2, l3] ++ frameO c)) % 256 : Nat) : Int))], blk kl 54 [(.int .u8 (((sumS ([l0, l1, l2, l3] ++ frameO c)) / 16777216 % 256 : Nat) : Int)), (.int .u8 (((sumS ([l0, l1, l2, l3] ++ frameO c)) / 65536 % 256 : Nat) : Int)), (.int .u8 (((sumS ([l0, l1, l2, l3] ++ frameO c)) / 256 % 256 : Nat) : Int)), (.int .u8 (((sumS ([l0, l1, l2, l3] ++ frameO c)) % 256 : Nat) : Int))], blk b2 54 [(.int .u8 l0), (.int .u8 l1), (.int .u8 l2), (.int .u8 l3)], rowI .u8 vf 5 (frameO c), blk b1 28 [(.int .i64 c.op), (.int .u64 c.u), (.int .u64 c.v), (.int .i64 c.wt), (.int .i64 c.t), dv, bv]] w10 := St.toRow (i := 0) (m := 0) (c := (xs.length + (frameO c).length + 4)) (sz := 1) hs10 rfl (by simp) (by omega) (by simp only [maxLen]; omega)
     refine asg (v := (.slice (some ⟨b4, 0, none⟩) 0 (xs.length + (frameO c).length + 4))) rfl rfl (wl_nil (tN ((hK10 _ _ ?_))))
     refine sq fun K11 hK11 => (rg (mv (v := (.slice (some ⟨b4, 0, none⟩) 0 (xs.length + (frameO c).length + 4))) rfl rfl (mv (v := v) rfl rfl (apdI (k := .u8) (ys := []) (zs := xs) (LL := fun v1 => [rowI .u8 v1 5 (([]) ++ xs), blk b3 54 [(.int .u8 (((sumS ([l0, l1, l2, l3] ++ frameO c)) / 16777216 % 256 : Nat) : Int)), (.int .u8 (((sumS ([l0, l1, l2, l3] ++ frameO c)) / 65536 % 256 : Nat) : Int)), (.int .u8 (((sumS ([l0, l1, l2, l3] ++ frameO c)) / 256 % 256 : Nat) : Int)), (.int .u8 (((sumS ([l0, l1, l2, l3] ++ frameO c)) % 256 : Nat) : Int))], blk kl 54 [(.int .u8 (((sumS ([l0, l1, l2, l3] ++ frameO c)) / 16777216 % 256 : Nat) : Int)), (.int .u8 (((sumS ([l0, l1, l2, l3] ++ frameO c)) / 65536 % 256 : Nat) : Int)), (.int .u8 (((sumS ([l0, l1, l2, l3] ++ frameO c)) / 256 % 256 : Nat) : Int)), (.int .u8 (((sumS ([l0, l1, l2, l3] ++ frameO c)) % 256 : Nat) : Int))], blk b2 54 [(.int .u8 l0), (.int .u8 l1), (.int .u8 l2), (.int .u8 l3)], rowI .u8 vf 5 (frameO c), blk b1 28 [(.int .i64 c.op), (.int .u64 c.u), (.int .u64 c.v), (.int .i64 c.wt), (.int .i64 c.t), dv, bv]]) 0 rfl rfl rfl Try.underlying22 ti5 rfl hs11 rfl (Ints.src (St.ints0 hs11 (by simp) hv)) (by simp only [List.length_append, List.length_cons, List.length_nil] at *; omega) (by simp only [List.length_append, List.length_cons, List.length_nil] at *; omega) (fun _ => rfl) ?_))))
     intro v1 w11 hs12 hc5
     have hs12 : St _ [rowI .u8 v1 5 (([]) ++ xs), blk b3 54 [(.int .u8 (((sumS ([l0, l1, l2, l3] ++ frameO c)) / 16777216 % 256 : Nat) : Int)), (.int .u8 (((sumS ([l0, l1, l2, l3] ++ frameO c)) / 65536 % 256 : Nat) : Int)), (.int .u8 (((sumS ([l0, l1, l2, l3] ++ frameO c)) / 256 % 256 : Nat) : Int)), (.int .u8 (((sumS ([l0, l1, l2, l3] ++ frameO c)) % 256 : Nat) : Int))], blk kl 54 [(.int .u8 (((sumS ([l0, l1, l2, l3] ++ frameO c)) / 16777216 % 256 : Nat) : Int)), (.int .u8 (((sumS ([l0, l1, l2, l3] ++ frameO c)) / 65536 % 256 : Nat) : Int)), (.int .u8 (((sumS ([l0, l1, l2, l3] ++ frameO c)) / 256 % 256 : Nat) : Int)), (.int .u8 (((sumS ([l0, l1, l2, l3] ++ frameO c)) % 256 : Nat) : Int))], blk b2 54 [(.int .u8 l0), (.int .u8 l1), (.int .u8 l2), (.int .u8 l3)], rowI .u8 vf 5 (frameO c), blk b1 28 [(.int .i64 c.op), (.int .u64 c.u), (.int .u64 c.v), (.int .i64 c.wt), (.int .i64 c.t), dv, bv]] w11 := hs12
     refine asg (v := v1) rfl rfl (wl_nil (tN ((hK11 _ _ ?_))))
     refine sq fun K12 hK12 => (rg (mv (v := v1) rfl rfl (mv (v := vf) rfl rfl (apdI (k := .u8) (ys := ([]) ++ xs) (zs := frameO c) (LL := fun v2 => [rowI .u8 v2 5 ((([]) ++ xs) ++ (frameO c)), blk b3 54 [(.int .u8 (((sumS ([l0, l1, l2, l3] ++ frameO c)) / 16777216 % 256 : Nat) : Int)), (.int .u8 (((sumS ([l0, l1, l2, l3] ++ frameO c)) / 65536 % 256 : Nat) : Int)), (.int .u8 (((sumS ([l0, l1, l2, l3] ++ frameO c)) / 256 % 256 : Nat) : Int)), (.int .u8 (((sumS ([l0, l1, l2, l3] ++ frameO c)) % 256 : Nat) : Int))], blk kl 54 [(.int .u8 (((sumS ([l0, l1, l2, l3] ++ frameO c)) / 16777216 % 256 : Nat) : Int)), (.int .u8 (((sumS ([l0, l1, l2, l3] ++ frameO c)) / 65536 % 256 : Nat) : Int)), (.int .u8 (((sumS ([l0, l1, l2, l3] ++ frameO c)) / 256 % 256 : Nat) : Int)), (.int .u8 (((sumS ([l0, l1, l2, l3] ++ frameO c)) % 256 : Nat) : Int))], blk b2 54 [(.int .u8 l0), (.int .u8 l1), (.int .u8 l2), (.int .u8 l3)], rowI .u8 vf 5 (frameO c), blk b1 28 [(.int .i64 c.op), (.int .u64 c.u), (.int .u64 c.v), (.int .i64 c.wt), (.int .i64 c.t), dv, bv]]) 0 rfl rfl rfl Try.underlying22 ti5 rfl hs12 rfl (St.rowSrc hs12 (i := 4) rfl) (by simp only [List.length_append, List.length_cons, List.length_nil] at *; omega) (by simp only [List.length_append, List.length_cons, List.length_nil] at *; omega) (fun _ => rfl) ?_))))
     intro v2 w12 hs13 hc6
     have hs13 : St _ [rowI .u8 v2 5 ((([]) ++ xs) ++ (frameO c)), blk b3 54 [(.int .u8 (((sumS ([l0, l1, l2, l3] ++ frameO c)) / 16777216 % 256 : Nat) : Int)), (.int .u8 (((sumS ([l0, l1, l2, l3] ++ frameO c)) / 65536 % 256 : Nat) : Int)), (.int .u8 (((sumS ([l0, l1, l2, l3] ++ frameO c)) / 256 % 256 : Nat) : Int)), (.int .u8 (((sumS ([l0, l1, l2, l3] ++ frameO c)) % 256 : Nat) : Int))], blk kl 54 [(.int .u8 (((sumS ([l0, l1, l2, l3] ++ frameO c)) / 16777216 % 256 : Nat) : Int)), (.int .u8 (((sumS ([l0, l1, l2, l3] ++ frameO c)) / 65536 % 256 : Nat) : Int)), (.int .u8 (((sumS ([l0, l1, l2, l3] ++ frameO c)) / 256 % 256 : Nat) : Int)), (.int .u8 (((sumS ([l0, l1, l2, l3] ++ frameO c)) % 256 : Nat) : Int))], blk b2 54 [(.int .u8 l0), (.int .u8 l1), (.int .u8 l2), (.int .u8 l3)], rowI .u8 vf 5 (frameO c), blk b1 28 [(.int .i64 c.op), (.int .u64 c.u), (.int .u64 c.v), (.int .i64 c.wt), (.int .i64 c.t), dv, bv]] w12 := hs13
     refine asg (v := v2) rfl rfl (wl_nil (tN ((hK12 _ _ ?_))))
     refine sq fun K13 hK13 => (rg (mv (v := v2) rfl rfl (slArr (b := b3) (o := 0) (m := 4) rfl rfl Try.underlying54 ti5 (apdI (k := .u8) (ys := (([]) ++ xs) ++ (frameO c)) (zs := [(((sumS ([l0, l1, l2, l3] ++ frameO c)) / 16777216 % 256 : Nat) : Int), (((sumS ([l0, l1, l2, l3] ++ frameO c)) / 65536 % 256 : Nat) : Int), (((sumS ([l0, l1, l2, l3] ++ frameO c)) / 256 % 256 : Nat) : Int), (((sumS ([l0, l1, l2, l3] ++ frameO c)) % 256 : Nat) : Int)]) (LL := fun v3 => [rowI .u8 v3 5 (((([]) ++ xs) ++ (frameO c)) ++ ([(((sumS ([l0, l1, l2, l3] ++ frameO c)) / 16777216 % 256 : Nat) : Int), (((sumS ([l0, l1, l2, l3] ++ frameO c)) / 65536 % 256 : Nat) : Int), (((sumS ([l0, l1, l2, l3] ++ frameO c)) / 256 % 256 : Nat) : Int), (((sumS ([l0, l1, l2, l3] ++ frameO c)) % 256 : Nat) : Int)])), blk b3 54 [(.int .u8 (((sumS ([l0, l1, l2, l3] ++ frameO c)) / 16777216 % 256 : Nat) : Int)), (.int .u8 (((sumS ([l0, l1, l2, l3] ++ frameO c)) / 65536 % 256 : Nat) : Int)), (.int .u8 (((sumS ([l0, l1, l2, l3] ++ frameO c)) / 256 % 256 : Nat) : Int)), (.int .u8 (((sumS ([l0, l1, l2, l3] ++ frameO c)) % 256 : Nat) : Int))], blk kl 54 [(.int .u8 (((sumS ([l0, l1, l2, l3] ++ frameO c)) / 16777216 % 256 : Nat) : Int)), (.int .u8 (((sumS ([l0, l1, l2, l3] ++ frameO c)) / 65536 % 256 : Nat) : Int)), (.int .u8 (((sumS ([l0, l1, l2, l3] ++ frameO c)) / 256 % 256 : Nat) : Int)), (.int .u8 (((sumS ([l0, l1, l2, l3] ++ frameO c)) % 256 : Nat) : Int))], blk b2 54 [(.int .u8 l0), (.int .u8 l1), (.int .u8 l2), (.int .u8 l3)], rowI .u8 vf 5 (frameO c), blk b1 28 [(.int .i64 c.op), (.int .u64 c.u), (.int .u64 c.v), (.int .i64 c.wt), (.int .i64 c.t), dv, bv]]) 0 rfl rfl rfl Try.underlying22 ti5 rfl hs13 rfl (St.blkSrc hs13 (i := 1) (o := 0) (m := 4) (sz := 1) (xs := [(.int .u8 (((sumS ([l0, l1, l2, l3] ++ frameO c)) / 16777216 % 256 : Nat) : Int)), (.int .u8 (((sumS ([l0, l1, l2, l3] ++ frameO c)) / 65536 % 256 : Nat) : Int)), (.int .u8 (((sumS ([l0, l1, l2, l3] ++ frameO c)) / 256 % 256 : Nat) : Int)), (.int .u8 (((sumS ([l0, l1, l2, l3] ++ frameO c)) % 256 : Nat) : Int))]) rfl rfl rfl) (by simp only [List.length_append, List.length_cons, List.length_nil] at *; omega) (by simp only [List.length_append, List.length_cons, List.length_nil] at *; omega) (fun _ => rfl) ?_))))
     intro v3 w13 hs14 hc7
     have hs14 : St _ [rowI .u8 v3 5 (((([]) ++ xs) ++ (frameO c)) ++ ([(((sumS ([l0, l1, l2, l3] ++ frameO c)) / 16777216 % 256 : Nat) : Int), (((sumS ([l0, l1, l2, l3] ++ frameO c)) / 65536 % 256 : Nat) : Int), (((sumS ([l0, l1, l2, l3] ++ frameO c)) / 256 % 256 : Nat) : Int), (((sumS ([l0, l1, l2, l3] ++ frameO c)) % 256 : Nat) : Int)])), blk b3 54 [(.int .u8 (((sumS ([l0, l1, l2, l3] ++ frameO c)) / 16777216 % 256 : Nat) : Int)), (.int .u8 (((sumS ([l0, l1, l2, l3] ++ frameO c)) / 65536 % 256 : Nat) : Int)), (.int .u8 (((sumS ([l0, l1, l2, l3] ++ frameO c)) / 256 % 256 : Nat) : Int)), (.int .u8 (((sumS ([l0, l1, l2, l3] ++ frameO c)) % 256 : Nat) : Int))], blk kl 54 [(.int .u8 (((sumS ([l0, l1, l2, l3] ++ frameO c)) / 16777216 % 256 : Nat) : Int)), (.int .u8 (((sumS ([l0, l1, l2, l3] ++ frameO c)) / 65536 % 256 : Nat) : Int)), (.int .u8 (((sumS ([l0, l1, l2, l3] ++ frameO c)) / 256 % 256 : Nat) : Int)), (.int .u8 (((sumS ([l0, l1, l2, l3] ++ frameO c)) % 256 : Nat) : Int))], blk b2 54 [(.int .u8 l0), (.int .u8 l1), (.int .u8 l2), (.int .u8 l3)], rowI .u8 vf 5 (frameO c), blk b1 28 [(.int .i64 c.op), (.int .u64 c.u), (.int .u64 c.v), (.int .i64 c.wt), (.int .i64 c.t), dv, bv]] w13 := hs14
     refine asg (v := v3) rfl rfl (asg (v := (.int .i64 0)) rfl rfl (wl_nil (tN ((hK13 _ _ ?_)))))
     refine rt (ret2 (v := v3) (v' := (.int .i64 0)) Try.results10 rfl rfl ?_)
     have hap := app_ok (b := xs) hk0 (by omega)
     have hfo := frameO_ok hk0
     refine ⟨_, by rw [hap], ?_, hs14.chg (by simp)⟩
     have hfr := St.endFresh hs14 (w0 := w) (by simp)
     rw [hap, hlast, ← hfo]
     exact hfr
   · refine cmp (a := ((readS xs).2.1 : Int)) (b := (xs.length : Int)) rfl rfl rfl (c_ne h2) (wl_nil (tN ((hK6 _ _ ?_))))
     refine cdT rfl (sq fun K14 hK14 => (rg (asg (v := (.slice none 0 0)) rfl rfl (asg (v := (.int .i64 15)) rfl rfl (wl_nil (tN ((hK14 _ _ ?_))))))))
     refine rt (tR (?_))
     refine ret2 (v := (.slice none 0 0)) (v' := (.int .i64 15)) Try.results10 rfl rfl ?_
     exact ⟨.slice none 0 0, by rw [app_form hk0 (by omega)], by rw [app_form hk0 (by omega)]; exact Fresh.nil _ _ _ _, hs3.chg (by simp)⟩
 · refine cmp (a := checkS c) (b := 0) rfl rfl rfl (c_ne h1) (wl_nil (tN ((hK4 _ _ ?_))))
   refine cdT rfl (sq fun K15 hK15 => (rg (mv (v := (.int .i64 (checkS c))) rfl rfl (asg (v := (.slice none 0 0)) rfl rfl (asg (v := (.int .i64 (checkS c))) rfl rfl (wl_nil (tN ((hK15 _ _ ?_)))))))))
   refine rt (tR (?_))
   refine ret2 (v := (.slice none 0 0)) (v' := (.int .i64 (checkS c))) Try.results10 rfl rfl ?_
   exact ⟨.slice none 0 0, by rw [app_bad (by omega)], by rw [app_bad (by omega)]; exact Fresh.nil _ _ _ _, hs2.chg (by simp)⟩
theorem gd53 : Try.prog.eqGuardType Try.prog.depth 53 = false := by kernel_rfl
theorem rsum_ok (l0 l1 l2 l3 : Int) (hin : ∀ y ∈ [l0, l1, l2, l3], InK .u8 y) (v : Value) (xs : List Int) (w : World) (hv : Ints .u8 (fun _ => True) w v xs) (hl0 : xs.length ≤ 100000000000) :
 CR Try.prog 27 #[(.agg #[(.int .u8 l0), (.int .u8 l1), (.int .u8 l2), (.int .u8 l3)]), v] w (fun r w' => r = .agg #[(.int .u8 (((sumS ([l0, l1, l2, l3] ++ xs)) / 16777216 % 256 : Nat) : Int)), (.int .u8 (((sumS ([l0, l1, l2, l3] ++ xs)) / 65536 % 256 : Nat) : Int)), (.int .u8 (((sumS ([l0, l1, l2, l3] ++ xs)) / 256 % 256 : Nat) : Int)), (.int .u8 (((sumS ([l0, l1, l2, l3] ++ xs)) % 256 : Nat) : Int))] ∧ Chg [] w w') := by
 have hv := (hv.old (by decide)).mono (ok' := fun b => b < w.heap.size) (fun _ h => h.2)
 have hlen := hv.len
 refine enter (vs := [(.agg #[(.int .u8 l0), (.int .u8 l1), (.int .u8 l2), (.int .u8 l3)]), v]) Try.func27 rfl Try.ntmps27 rfl ?_
 have hst0 := St.init w
 refine sq fun K1 hK1 => (rg (bx (v := (.agg #[(.int .u8 l0), (.int .u8 l1), (.int .u8 l2), (.int .u8 l3)])) (cs := [(.int .u8 l0), (.int .u8 l1), (.int .u8 l2), (.int .u8 l3)]) rfl rfl rfl hst0 (fun b1 w1 hn1 hc1 hs1 => al (cs := [(.int .u8 0), (.int .u8 0), (.int .u8 0), (.int .u8 0)]) rfl ti53 rfl hs1 (fun b2 w2 hn2 hc2 hs2 => wl_nil (tN ((hK1 _ _ ?_)))))))
 refine sq fun K2 hK2 => (rg (bsv (vs := []) (cs := []) rfl rfl Try.underlying22 ti5 rfl (by intro v hv; simp at hv) rfl rfl rfl hs2 ?_))
 intro b3 w3 hn3 hc3 hs3
 have hs3 : St _ [rowI .u8 (.slice (some ⟨b3, 0, none⟩) 0 0) 5 ([]), blk b2 53 [(.int .u8 0), (.int .u8 0), (.int .u8 0), (.int .u8 0)], blk b1 53 [(.int .u8 l0), (.int .u8 l1), (.int .u8 l2), (.int .u8 l3)]] w3 := hs3
 refine ixArr (o := 0) (o' := 0) (i := 0) rfl rfl rfl Try.underlying53 ti5 (by decide) rfl (ld (a := ⟨b1, 0, none⟩) (v := (.int .u8 l0)) rfl rfl Try.underlying5 rfl (St.blkCell hs3 (i := 2) rfl rfl) (ixArr (o := 0) (o' := 1) (i := 1) rfl rfl rfl Try.underlying53 ti5 (by decide) rfl (ld (a := ⟨b1, 1, none⟩) (v := (.int .u8 l1)) rfl rfl Try.underlying5 rfl (St.blkCell hs3 (i := 2) rfl rfl) (ixArr (o := 0) (o' := 2) (i := 2) rfl rfl rfl Try.underlying53 ti5 (by decide) rfl (ld (a := ⟨b1, 2, none⟩) (v := (.int .u8 l2)) rfl rfl Try.underlying5 rfl (St.blkCell hs3 (i := 2) rfl rfl) (ixArr (o := 0) (o' := 3) (i := 3) rfl rfl rfl Try.underlying53 ti5 (by decide) rfl (ld (a := ⟨b1, 3, none⟩) (v := (.int .u8 l3)) rfl rfl Try.underlying5 rfl (St.blkCell hs3 (i := 2) rfl rfl) ?_)))))))
 refine bsv (vs := [(.int .u8 l0), (.int .u8 l1), (.int .u8 l2), (.int .u8 l3)]) (cs := [(.int .u8 l0), (.int .u8 l1), (.int .u8 l2), (.int .u8 l3)]) rfl rfl Try.underlying22 ti5 rfl (by simp [Value.cells]) rfl rfl rfl hs3 ?_
 intro b4 w4 hn4 hc4 hs4
 have hs4 : St _ [rowI .u8 (.slice (some ⟨b4, 0, none⟩) 4 4) 5 ([l0, l1, l2, l3]), rowI .u8 (.slice (some ⟨b3, 0, none⟩) 0 0) 5 ([]), blk b2 53 [(.int .u8 0), (.int .u8 0), (.int .u8 0), (.int .u8 0)], blk b1 53 [(.int .u8 l0), (.int .u8 l1), (.int .u8 l2), (.int .u8 l3)]] w4 := hs4
 refine apdI (k := .u8) (ys := []) (zs := [l0, l1, l2, l3]) (LL := fun v1 => [rowI .u8 (.slice (some ⟨b4, 0, none⟩) 4 4) 5 ([l0, l1, l2, l3]), rowI .u8 v1 5 (([]) ++ ([l0, l1, l2, l3])), blk b2 53 [(.int .u8 0), (.int .u8 0), (.int .u8 0), (.int .u8 0)], blk b1 53 [(.int .u8 l0), (.int .u8 l1), (.int .u8 l2), (.int .u8 l3)]]) 1 rfl rfl rfl Try.underlying22 ti5 rfl hs4 rfl (St.rowSrc hs4 (i := 0) rfl) (by simp only [List.length_append, List.length_cons, List.length_nil] at *; omega) (by simp only [List.length_append, List.length_cons, List.length_nil] at *; omega) (fun _ => rfl) ?_
 intro v1 w5 hs5 hc5
 have hs5 : St _ [rowI .u8 (.slice (some ⟨b4, 0, none⟩) 4 4) 5 ([l0, l1, l2, l3]), rowI .u8 v1 5 (([]) ++ ([l0, l1, l2, l3])), blk b2 53 [(.int .u8 0), (.int .u8 0), (.int .u8 0), (.int .u8 0)], blk b1 53 [(.int .u8 l0), (.int .u8 l1), (.int .u8 l2), (.int .u8 l3)]] w5 := hs5
 have hs6 := St.sub (L' := [rowI .u8 v1 5 (([]) ++ ([l0, l1, l2, l3])), blk b2 53 [(.int .u8 0), (.int .u8 0), (.int .u8 0), (.int .u8 0)], blk b1 53 [(.int .u8 l0), (.int .u8 l1), (.int .u8 l2), (.int .u8 l3)]]) hs5 (List.Sublist.cons _ (List.Sublist.refl _))
 refine asg (v := v1) rfl rfl (wl_nil (tN ((hK2 _ _ ?_))))
 refine sq fun K3 hK3 => (rg (mv (v := v1) rfl rfl (mv (v := v) rfl rfl (apdI (k := .u8) (ys := ([]) ++ ([l0, l1, l2, l3])) (zs := xs) (LL := fun v2 => [rowI .u8 v2 5 ((([]) ++ ([l0, l1, l2, l3])) ++ xs), blk b2 53 [(.int .u8 0), (.int .u8 0), (.int .u8 0), (.int .u8 0)], blk b1 53 [(.int .u8 l0), (.int .u8 l1), (.int .u8 l2), (.int .u8 l3)]]) 0 rfl rfl rfl Try.underlying22 ti5 rfl hs6 rfl (Ints.src (St.ints0 hs6 (by simp) hv)) (by simp only [List.length_append, List.length_cons, List.length_nil] at *; omega) (by simp only [List.length_append, List.length_cons, List.length_nil] at *; omega) (fun _ => rfl) ?_))))
 intro v2 w6 hs7 hc6
 have hs7 : St _ [rowI .u8 v2 5 ((([]) ++ ([l0, l1, l2, l3])) ++ xs), blk b2 53 [(.int .u8 0), (.int .u8 0), (.int .u8 0), (.int .u8 0)], blk b1 53 [(.int .u8 l0), (.int .u8 l1), (.int .u8 l2), (.int .u8 l3)]] w6 := hs7
 refine clF (vl := [v2]) rfl rfl ent39 (rSum_ok v2 ([l0, l1, l2, l3] ++ xs) w6 (St.rowInts hs7 (i := 0) rfl (in_append hin (fun y hy => Ints.in hv hy))).any) ?_
 rintro _ _ ⟨rfl, rfl⟩
 refine asg (v := (.int .u32 ((sumS ([l0, l1, l2, l3] ++ xs)) : Nat))) rfl rfl (wl_nil (tN ((hK3 _ _ ?_))))
 refine sq fun K4 hK4 => (rg (mv (v := (.int .u32 ((sumS ([l0, l1, l2, l3] ++ xs)) : Nat))) rfl rfl (shr (a := ((sumS ([l0, l1, l2, l3] ++ xs)) : Nat)) (b := 24) (e := ((sumS ([l0, l1, l2, l3] ++ xs)) / 16777216 : Nat)) rfl rfl rfl (by decide) (fdiv_nat _ 24 32 (by decide)) (cv (a := ((sumS ([l0, l1, l2, l3] ++ xs)) / 16777216 : Nat)) (e := (((sumS ([l0, l1, l2, l3] ++ xs)) / 16777216 % 256 : Nat) : Int)) rfl rfl Try.underlying65 Try.underlying5 (by rw [IntKind.wrap_u8]; omega) (mv (v := (.int .u32 ((sumS ([l0, l1, l2, l3] ++ xs)) : Nat))) rfl rfl (shr (a := ((sumS ([l0, l1, l2, l3] ++ xs)) : Nat)) (b := 16) (e := ((sumS ([l0, l1, l2, l3] ++ xs)) / 65536 : Nat)) rfl rfl rfl (by decide) (fdiv_nat _ 16 32 (by decide)) (cv (a := ((sumS ([l0, l1, l2, l3] ++ xs)) / 65536 : Nat)) (e := (((sumS ([l0, l1, l2, l3] ++ xs)) / 65536 % 256 : Nat) : Int)) rfl rfl Try.underlying65 Try.underlying5 (by rw [IntKind.wrap_u8]; omega) ?_)))))))
 refine mv (v := (.int .u32 ((sumS ([l0, l1, l2, l3] ++ xs)) : Nat))) rfl rfl (shr (a := ((sumS ([l0, l1, l2, l3] ++ xs)) : Nat)) (b := 8) (e := ((sumS ([l0, l1, l2, l3] ++ xs)) / 256 : Nat)) rfl rfl rfl (by decide) (fdiv_nat _ 8 32 (by decide)) (cv (a := ((sumS ([l0, l1, l2, l3] ++ xs)) / 256 : Nat)) (e := (((sumS ([l0, l1, l2, l3] ++ xs)) / 256 % 256 : Nat) : Int)) rfl rfl Try.underlying65 Try.underlying5 (by rw [IntKind.wrap_u8]; omega) (mv (v := (.int .u32 ((sumS ([l0, l1, l2, l3] ++ xs)) : Nat))) rfl rfl (cv (a := ((sumS ([l0, l1, l2, l3] ++ xs)) : Nat)) (e := (((sumS ([l0, l1, l2, l3] ++ xs)) % 256 : Nat) : Int)) rfl rfl Try.underlying65 Try.underlying5 (by rw [IntKind.wrap_u8]; omega) (bld (pvs := [(0, (.int .u8 (((sumS ([l0, l1, l2, l3] ++ xs)) / 16777216 % 256 : Nat) : Int))), (1, (.int .u8 (((sumS ([l0, l1, l2, l3] ++ xs)) / 65536 % 256 : Nat) : Int))), (2, (.int .u8 (((sumS ([l0, l1, l2, l3] ++ xs)) / 256 % 256 : Nat) : Int))), (3, (.int .u8 (((sumS ([l0, l1, l2, l3] ++ xs)) % 256 : Nat) : Int)))]) (v := .agg #[(.int .u8 (((sumS ([l0, l1, l2, l3] ++ xs)) / 16777216 % 256 : Nat) : Int)), (.int .u8 (((sumS ([l0, l1, l2, l3] ++ xs)) / 65536 % 256 : Nat) : Int)), (.int .u8 (((sumS ([l0, l1, l2, l3] ++ xs)) / 256 % 256 : Nat) : Int)), (.int .u8 (((sumS ([l0, l1, l2, l3] ++ xs)) % 256 : Nat) : Int))]) rfl rfl (buildA [(0, [(.int .u8 (((sumS ([l0, l1, l2, l3] ++ xs)) / 16777216 % 256 : Nat) : Int))]), (1, [(.int .u8 (((sumS ([l0, l1, l2, l3] ++ xs)) / 65536 % 256 : Nat) : Int))]), (2, [(.int .u8 (((sumS ([l0, l1, l2, l3] ++ xs)) / 256 % 256 : Nat) : Int))]), (3, [(.int .u8 (((sumS ([l0, l1, l2, l3] ++ xs)) % 256 : Nat) : Int))])] ti53 Try.underlying53 ti5 rfl ⟨rfl, rfl, rfl, rfl, rfl, rfl, rfl, rfl, trivial⟩ rfl (by simp)) (sto (v := (.agg #[(.int .u8 (((sumS ([l0, l1, l2, l3] ++ xs)) / 16777216 % 256 : Nat) : Int)), (.int .u8 (((sumS ([l0, l1, l2, l3] ++ xs)) / 65536 % 256 : Nat) : Int)), (.int .u8 (((sumS ([l0, l1, l2, l3] ++ xs)) / 256 % 256 : Nat) : Int)), (.int .u8 (((sumS ([l0, l1, l2, l3] ++ xs)) % 256 : Nat) : Int))])) (vs := [(.int .u8 (((sumS ([l0, l1, l2, l3] ++ xs)) / 16777216 % 256 : Nat) : Int)), (.int .u8 (((sumS ([l0, l1, l2, l3] ++ xs)) / 65536 % 256 : Nat) : Int)), (.int .u8 (((sumS ([l0, l1, l2, l3] ++ xs)) / 256 % 256 : Nat) : Int)), (.int .u8 (((sumS ([l0, l1, l2, l3] ++ xs)) % 256 : Nat) : Int))]) (cs' := [(.int .u8 (((sumS ([l0, l1, l2, l3] ++ xs)) / 16777216 % 256 : Nat) : Int)), (.int .u8 (((sumS ([l0, l1, l2, l3] ++ xs)) / 65536 % 256 : Nat) : Int)), (.int .u8 (((sumS ([l0, l1, l2, l3] ++ xs)) / 256 % 256 : Nat) : Int)), (.int .u8 (((sumS ([l0, l1, l2, l3] ++ xs)) % 256 : Nat) : Int))]) (L' := [rowI .u8 v2 5 ((([]) ++ ([l0, l1, l2, l3])) ++ xs), blk b2 53 [(.int .u8 (((sumS ([l0, l1, l2, l3] ++ xs)) / 16777216 % 256 : Nat) : Int)), (.int .u8 (((sumS ([l0, l1, l2, l3] ++ xs)) / 65536 % 256 : Nat) : Int)), (.int .u8 (((sumS ([l0, l1, l2, l3] ++ xs)) / 256 % 256 : Nat) : Int)), (.int .u8 (((sumS ([l0, l1, l2, l3] ++ xs)) % 256 : Nat) : Int))], blk b1 53 [(.int .u8 l0), (.int .u8 l1), (.int .u8 l2), (.int .u8 l3)]]) 1 rfl rfl rfl rfl ti53 rfl rfl hs7 rfl rfl rfl rfl (fun w7 hs8 => wl_nil ?_)))))))
 refine tN ((hK4 _ _ ?_))
 refine rt (retL1 (v := (.agg #[(.int .u8 (((sumS ([l0, l1, l2, l3] ++ xs)) / 16777216 % 256 : Nat) : Int)), (.int .u8 (((sumS ([l0, l1, l2, l3] ++ xs)) / 65536 % 256 : Nat) : Int)), (.int .u8 (((sumS ([l0, l1, l2, l3] ++ xs)) / 256 % 256 : Nat) : Int)), (.int .u8 (((sumS ([l0, l1, l2, l3] ++ xs)) % 256 : Nat) : Int))])) Try.results27 (rvA (cs := [(.int .u8 (((sumS ([l0, l1, l2, l3] ++ xs)) / 16777216 % 256 : Nat) : Int)), (.int .u8 (((sumS ([l0, l1, l2, l3] ++ xs)) / 65536 % 256 : Nat) : Int)), (.int .u8 (((sumS ([l0, l1, l2, l3] ++ xs)) / 256 % 256 : Nat) : Int)), (.int .u8 (((sumS ([l0, l1, l2, l3] ++ xs)) % 256 : Nat) : Int))]) rfl Try.underlying53 rfl ti53 rfl (St.blkCells hs8 (i := 1) (o := 0) (vs := [(.int .u8 (((sumS ([l0, l1, l2, l3] ++ xs)) / 16777216 % 256 : Nat) : Int)), (.int .u8 (((sumS ([l0, l1, l2, l3] ++ xs)) / 65536 % 256 : Nat) : Int)), (.int .u8 (((sumS ([l0, l1, l2, l3] ++ xs)) / 256 % 256 : Nat) : Int)), (.int .u8 (((sumS ([l0, l1, l2, l3] ++ xs)) % 256 : Nat) : Int))]) rfl rfl)) ?_)
 exact ⟨rfl, hs8.chg (by simp)⟩
theorem rread_ok (v : Value) (xs : List Int) (w : World) (hv : Ints .u8 (fun _ => True) w v xs) (hl0 : xs.length ≤ 100000000000) :
 CR Try.prog 26 #[v] w (fun r w' => ∃ lv l0 l1 l2 l3, r = .tuple #[lv, .int .i64 ((readS xs).2.1 : Int), .agg #[(.int .u8 l0), (.int .u8 l1), (.int .u8 l2), (.int .u8 l3)]] ∧ (readS xs).2.2 = [l0, l1, l2, l3] ∧ Cmds (fun b => w.heap.size ≤ b) w' lv (readS xs).1 ∧ Chg [] w w') := by
 have hv := (hv.old (by decide)).mono (ok' := fun b => b < w.heap.size) (fun _ h => h.2)
 have hlen := hv.len
 refine enter (vs := [v]) Try.func26 rfl Try.ntmps26 rfl ?_
 have hst0 := St.init w
 refine sq fun K1 hK1 => (rg (asg (v := (.slice none 0 0)) rfl rfl (asg (v := (.int .i64 0)) rfl rfl (al (cs := [(.int .u8 0), (.int .u8 0), (.int .u8 0), (.int .u8 0)]) rfl ti53 rfl hst0 (fun b1 w1 hn1 hc1 hs1 => wl_nil (tN ((hK1 _ _ ?_))))))))
 refine sq fun K2 hK2 => (rg (asg (v := (.slice none 0 0)) rfl rfl (wl_nil (tN ((hK2 _ _ ?_))))))
 refine sq fun K3 hK3 => (rg (asg (v := (.int .i64 0)) rfl rfl (wl_nil (tN ((hK3 _ _ ?_))))))
 refine sq fun K4 hK4 => (rg (bld (pvs := []) (v := .agg #[(.int .u8 0), (.int .u8 0), (.int .u8 0), (.int .u8 0)]) rfl rfl (buildA [] ti53 Try.underlying53 ti5 rfl trivial rfl (by simp)) (al (cs := [(.int .u8 0), (.int .u8 0), (.int .u8 0), (.int .u8 0)]) rfl ti53 rfl hs1 (fun b2 w2 hn2 hc2 hs2 => sto (v := (.agg #[(.int .u8 0), (.int .u8 0), (.int .u8 0), (.int .u8 0)])) (vs := [(.int .u8 0), (.int .u8 0), (.int .u8 0), (.int .u8 0)]) (cs' := [(.int .u8 0), (.int .u8 0), (.int .u8 0), (.int .u8 0)]) (L' := [blk b2 53 [(.int .u8 0), (.int .u8 0), (.int .u8 0), (.int .u8 0)], blk b1 53 [(.int .u8 0), (.int .u8 0), (.int .u8 0), (.int .u8 0)]]) 0 rfl rfl rfl rfl ti53 rfl rfl hs2 rfl rfl rfl rfl (fun w3 hs3 => wl_nil (tN ((hK4 _ _ ?_))))))))
 refine bk ?_
 have hs4 : St _ [tsRes [] [], blk b2 53 [(.int .u8 0), (.int .u8 0), (.int .u8 0), (.int .u8 0)], blk b1 53 [(.int .u8 0), (.int .u8 0), (.int .u8 0), (.int .u8 0)]] w3 := St.nilTs hs3
 have hs5 : St _ [row (.slice none 0 0) 28 7 0 ([]), tsRes [] [], blk b2 53 [(.int .u8 0), (.int .u8 0), (.int .u8 0), (.int .u8 0)], blk b1 53 [(.int .u8 0), (.int .u8 0), (.int .u8 0), (.int .u8 0)]] w3 := St.addNil hs4 28 7
 refine lp (α := Nat × Nat × Int × Int × Int × Int × Value × List Nat × List CT) (fun (f, k, l0, l1, l2, l3, lv, F, ts) => [(0, v), (4, (.pointer (some ⟨b1, 0, none⟩))), (5, lv), (6, (.int .i64 k)), (7, (.pointer (some ⟨b2, 0, none⟩)))]) (fun (f, k, l0, l1, l2, l3, lv, F, ts) w1 => St [(w, [])] [row lv 28 7 ts.length (ts.flatMap CT.cells), tsRes F ts, blk b2 53 [(.int .u8 l0), (.int .u8 l1), (.int .u8 l2), (.int .u8 l3)], blk b1 53 [(.int .u8 0), (.int .u8 0), (.int .u8 0), (.int .u8 0)]] w1 ∧ k ≤ xs.length ∧ (xs.drop k).length ≤ f ∧ RdI xs f k [l0, l1, l2, l3] (ts.map Prod.fst) ∧ (∀ y ∈ [l0, l1, l2, l3], InK .u8 y) ∧ ts.length ≤ k) (fun (f, k, l0, l1, l2, l3, lv, F, ts) => f) (xs.length, 0, 0, 0, 0, 0, (.slice none 0 0), [], []) ⟨rfl, rfl, rfl, eqI (by first | rfl | omega), rfl, trivial⟩ (⟨hs5, by omega, by simp, RdI.start xs, bytes4_in 0, by simp⟩) ?_
 rintro ⟨f, k, l0, l1, l2, l3, lv, F, ts⟩ s1 w4 ⟨hst, hk1, hfl, hrd, hin4, htk⟩
 have hdl : (xs.drop k).length = xs.length - k := List.length_drop
 refine bk (sq fun K5 hK5 => (rg (mv (v := v) rfl rfl (mv (v := (.int .i64 k)) rfl rfl (slI (l := k) (h := xs.length) rfl rfl Try.underlying22 ti5 hv ⟨_, eqI (by omega)⟩ rfl (by first | omega | simp) (by first | omega | simp) ?_)))))
 intro v1 hv1
 rw [List.take_length] at hv1
 obtain ⟨cq1, hg1⟩ : ∃ q, getS (xs.drop k) = q := ⟨_, rfl⟩
 rcases cq1 with _ | ⟨cc1, nn1⟩
 · skip
   refine clF (vl := [v1]) rfl rfl ent38 (rGet_ok v1 (xs.drop k) w4 (Sl.any (St.ints0 hst (by simp) hv1)) (by simp; omega)) ?_
   rintro _ w5 ⟨dv0, bv0, rfl, -, hq⟩
   rw [hg1]
   have hs6 : St _ [row lv 28 7 ts.length (ts.flatMap CT.cells), tsRes F ts, blk b2 53 [(.int .u8 l0), (.int .u8 l1), (.int .u8 l2), (.int .u8 l3)], blk b1 53 [(.int .u8 0), (.int .u8 0), (.int .u8 0), (.int .u8 0)]] w5 := St.grow hst hq
   refine mv (v := (.tuple #[(.agg #[(.int .i64 0), (.int .u64 0), (.int .u64 0), (.int .i64 0), (.int .i64 0), (.slice none 0 0), (.slice none 0 0)]), (.int .i64 0), (.int .i64 15)])) rfl rfl (ex (vs := #[(.agg #[(.int .i64 0), (.int .u64 0), (.int .u64 0), (.int .i64 0), (.int .i64 0), (.slice none 0 0), (.slice none 0 0)]), (.int .i64 0), (.int .i64 15)]) (v := (.agg #[(.int .i64 0), (.int .u64 0), (.int .u64 0), (.int .i64 0), (.int .i64 0), (.slice none 0 0), (.slice none 0 0)])) rfl rfl rfl (ex (vs := #[(.agg #[(.int .i64 0), (.int .u64 0), (.int .u64 0), (.int .i64 0), (.int .i64 0), (.slice none 0 0), (.slice none 0 0)]), (.int .i64 0), (.int .i64 15)]) (v := (.int .i64 0)) rfl rfl rfl (ex (vs := #[(.agg #[(.int .i64 0), (.int .u64 0), (.int .u64 0), (.int .i64 0), (.int .i64 0), (.slice none 0 0), (.slice none 0 0)]), (.int .i64 0), (.int .i64 15)]) (v := (.int .i64 15)) rfl rfl rfl (al (cs := [(.int .i64 0), (.int .u64 0), (.int .u64 0), (.int .i64 0), (.int .i64 0), (.slice none 0 0), (.slice none 0 0)]) rfl ti28 rfl hs6 (fun b3 w6 hn3 hc3 hs7 => sto (v := (.agg #[(.int .i64 0), (.int .u64 0), (.int .u64 0), (.int .i64 0), (.int .i64 0), (.slice none 0 0), (.slice none 0 0)])) (vs := [(.int .i64 0), (.int .u64 0), (.int .u64 0), (.int .i64 0), (.int .i64 0), (.slice none 0 0), (.slice none 0 0)]) (cs' := [(.int .i64 0), (.int .u64 0), (.int .u64 0), (.int .i64 0), (.int .i64 0), (.slice none 0 0), (.slice none 0 0)]) (L' := [blk b3 28 [(.int .i64 0), (.int .u64 0), (.int .u64 0), (.int .i64 0), (.int .i64 0), (.slice none 0 0), (.slice none 0 0)], row lv 28 7 ts.length (ts.flatMap CT.cells), tsRes F ts, blk b2 53 [(.int .u8 l0), (.int .u8 l1), (.int .u8 l2), (.int .u8 l3)], blk b1 53 [(.int .u8 0), (.int .u8 0), (.int .u8 0), (.int .u8 0)]]) 0 rfl rfl rfl rfl ti28 rfl rfl hs7 rfl rfl rfl rfl (fun w7 hs8 => asg (v := (.int .i64 0)) rfl rfl (asg (v := (.int .i64 15)) rfl rfl ?_)))))))
   refine wl_nil (tN ((hK5 _ _ ?_)))
   refine sq fun K6 hK6 => (sq fun K7 hK7 => (rg (mv (v := (.int .i64 15)) rfl rfl (cmp (a := 15) (b := 0) rfl rfl rfl (c_ne (by decide)) (mv (v := (.bool true)) rfl rfl (sk rfl (sk rfl ?_)))))))
   refine sk rfl (sk rfl (sk rfl (sk rfl (sk rfl (pkT (v := (.bool true)) rfl rfl rfl (wl_nil (tN ((hK7 _ _ ?_)))))))))
   refine cdT rfl (sq fun K8 hK8 => (rgs (Γ := Unit) mixed [[], [], [], [0], [0, 1, 3], [0, 1, 2, 3, 4]] [5] (by decide) [fun _ => lv, fun _ => (.int .i64 k), fun _ => (.agg #[(.int .u8 l0), (.int .u8 l1), (.int .u8 l2), (.int .u8 l3)]), fun _ => lv, fun _ => (.int .i64 k), fun _ => undef] [(fun _ => [blk b3 28 [(.int .i64 0), (.int .u64 0), (.int .u64 0), (.int .i64 0), (.int .i64 0), (.slice none 0 0), (.slice none 0 0)], row lv 28 7 ts.length (ts.flatMap CT.cells), tsRes F ts, blk b2 53 [(.int .u8 l0), (.int .u8 l1), (.int .u8 l2), (.int .u8 l3)], blk b1 53 [(.int .u8 0), (.int .u8 0), (.int .u8 0), (.int .u8 0)]], fun _ _ => True), (fun _ => [blk b3 28 [(.int .i64 0), (.int .u64 0), (.int .u64 0), (.int .i64 0), (.int .i64 0), (.slice none 0 0), (.slice none 0 0)], row lv 28 7 ts.length (ts.flatMap CT.cells), tsRes F ts, blk b2 53 [(.int .u8 l0), (.int .u8 l1), (.int .u8 l2), (.int .u8 l3)], blk b1 53 [(.int .u8 l0), (.int .u8 l1), (.int .u8 l2), (.int .u8 l3)]], fun _ _ => True)] () (fun _ => (3, (.int .i64 k)) :: (2, lv) :: (35, (.agg #[(.int .u8 l0), (.int .u8 l1), (.int .u8 l2), (.int .u8 l3)])) :: (34, (.int .i64 k)) :: (33, lv) :: _) rfl hs8 (fun _ _ => trivial) ?_ (fun _ => rfl) rfl ?_))
   · skip
     refine ob_p rfl (fun _ _ _ => qv rfl rfl (mv_r (v := lv) rfl)) (ob_p rfl (fun _ _ _ => qv rfl rfl (mv_r (v := (.int .i64 k)) rfl)) (ob_q1 rfl rfl rfl rfl (fun _ wq hM hF => qv rfl rfl (ldA_r (cs := [(.int .u8 l0), (.int .u8 l1), (.int .u8 l2), (.int .u8 l3)]) rfl Try.underlying53 rfl ti53 rfl (St.blkCells hM (i := 3) (o := 0) (vs := [(.int .u8 l0), (.int .u8 l1), (.int .u8 l2), (.int .u8 l3)]) rfl rfl))) (ob_p rfl (fun _ _ _ => qv rfl rfl (asg_r (v := lv) rfl)) (ob_p rfl (fun _ _ _ => qv rfl rfl (asg_r (v := (.int .i64 k)) rfl)) (ob_m rfl rfl rfl rfl (fun _ wq hM hF => m_sto (v := (.agg #[(.int .u8 l0), (.int .u8 l1), (.int .u8 l2), (.int .u8 l3)])) (vs := [(.int .u8 l0), (.int .u8 l1), (.int .u8 l2), (.int .u8 l3)]) (cs' := [(.int .u8 l0), (.int .u8 l1), (.int .u8 l2), (.int .u8 l3)]) (L' := [blk b3 28 [(.int .i64 0), (.int .u64 0), (.int .u64 0), (.int .i64 0), (.int .i64 0), (.slice none 0 0), (.slice none 0 0)], row lv 28 7 ts.length (ts.flatMap CT.cells), tsRes F ts, blk b2 53 [(.int .u8 l0), (.int .u8 l1), (.int .u8 l2), (.int .u8 l3)], blk b1 53 [(.int .u8 l0), (.int .u8 l1), (.int .u8 l2), (.int .u8 l3)]]) 4 rfl rfl rfl rfl ti53 rfl rfl hM rfl rfl rfl rfl (fun _ h => ⟨(), ⟨h, trivial⟩, rfl, Stab.refl _ _ _⟩)) ?_)))))
     exact ob_n
   rintro - w8 hs9 -
   refine tN ((hK8 _ _ ?_))
   refine rt (tR (bR (tR (bR (?_)))))
   refine retL3 (v := lv) (v' := (.int .i64 k)) (v'' := (.agg #[(.int .u8 l0), (.int .u8 l1), (.int .u8 l2), (.int .u8 l3)])) Try.results26 (rvT rfl) (rvT rfl) (rvA (cs := [(.int .u8 l0), (.int .u8 l1), (.int .u8 l2), (.int .u8 l3)]) rfl Try.underlying53 rfl ti53 rfl (St.blkCells hs9 (i := 4) (o := 0) (vs := [(.int .u8 l0), (.int .u8 l1), (.int .u8 l2), (.int .u8 l3)]) rfl rfl)) ?_
   have hrs := hrd.stop (recF_none hg1)
   exact ⟨lv, l0, l1, l2, l3, by rw [hrs], by rw [hrs], by rw [hrs]; exact (St.cmds hs9 (i := 1) (j := 2) rfl rfl).monoC (fun b hf => hs9.feetNew (w0 := w) (by simp) hf), hs9.chg (by simp)⟩
 · skip
   have hgl := getS_len (fun y hy => Ints.in hv (List.mem_of_mem_drop hy)) hg1
   refine clF (vl := [v1]) rfl rfl ent38 (rGet_ok v1 (xs.drop k) w4 (Sl.any (St.ints0 hst (by simp) hv1)) (by simp; omega)) ?_
   rintro _ w9 ⟨dv1, bv1, rfl, hgo, hq⟩
   rw [hg1]
   rw [hg1] at hgo
   obtain ⟨F1, hs10⟩ := St.addCmd hst hq hgo.1 hgo.2.1 hgo.2.2
   refine mv (v := (.tuple #[(.agg #[(.int .i64 cc1.op), (.int .u64 cc1.u), (.int .u64 cc1.v), (.int .i64 cc1.wt), (.int .i64 cc1.t), dv1, bv1]), (.int .i64 nn1), (.int .i64 0)])) rfl rfl (ex (vs := #[(.agg #[(.int .i64 cc1.op), (.int .u64 cc1.u), (.int .u64 cc1.v), (.int .i64 cc1.wt), (.int .i64 cc1.t), dv1, bv1]), (.int .i64 nn1), (.int .i64 0)]) (v := (.agg #[(.int .i64 cc1.op), (.int .u64 cc1.u), (.int .u64 cc1.v), (.int .i64 cc1.wt), (.int .i64 cc1.t), dv1, bv1])) rfl rfl rfl (ex (vs := #[(.agg #[(.int .i64 cc1.op), (.int .u64 cc1.u), (.int .u64 cc1.v), (.int .i64 cc1.wt), (.int .i64 cc1.t), dv1, bv1]), (.int .i64 nn1), (.int .i64 0)]) (v := (.int .i64 nn1)) rfl rfl rfl (ex (vs := #[(.agg #[(.int .i64 cc1.op), (.int .u64 cc1.u), (.int .u64 cc1.v), (.int .i64 cc1.wt), (.int .i64 cc1.t), dv1, bv1]), (.int .i64 nn1), (.int .i64 0)]) (v := (.int .i64 0)) rfl rfl rfl (al (cs := [(.int .i64 0), (.int .u64 0), (.int .u64 0), (.int .i64 0), (.int .i64 0), (.slice none 0 0), (.slice none 0 0)]) rfl ti28 rfl hs10 (fun b4 w10 hn4 hc4 hs11 => sto (v := (.agg #[(.int .i64 cc1.op), (.int .u64 cc1.u), (.int .u64 cc1.v), (.int .i64 cc1.wt), (.int .i64 cc1.t), dv1, bv1])) (vs := [(.int .i64 cc1.op), (.int .u64 cc1.u), (.int .u64 cc1.v), (.int .i64 cc1.wt), (.int .i64 cc1.t), dv1, bv1]) (cs' := [(.int .i64 cc1.op), (.int .u64 cc1.u), (.int .u64 cc1.v), (.int .i64 cc1.wt), (.int .i64 cc1.t), dv1, bv1]) (L' := [blk b4 28 [(.int .i64 cc1.op), (.int .u64 cc1.u), (.int .u64 cc1.v), (.int .i64 cc1.wt), (.int .i64 cc1.t), dv1, bv1], tsRes F1 [(cc1, dv1, bv1)], row lv 28 7 ts.length (ts.flatMap CT.cells), tsRes F ts, blk b2 53 [(.int .u8 l0), (.int .u8 l1), (.int .u8 l2), (.int .u8 l3)], blk b1 53 [(.int .u8 0), (.int .u8 0), (.int .u8 0), (.int .u8 0)]]) 0 rfl rfl rfl rfl ti28 rfl (all1 rfl (all1 rfl (all1 rfl (all1 rfl (all1 rfl (all1 (Sl.one1 (St.tsD1 hs11 (i := 1) rfl)) (all1 (Sl.one1 (St.tsB1 hs11 (i := 1) rfl)) all0))))))) hs11 rfl rfl rfl rfl (fun w11 hs12 => asg (v := (.int .i64 nn1)) rfl rfl (asg (v := (.int .i64 0)) rfl rfl ?_)))))))
   refine wl_nil (tN ((hK5 _ _ ?_)))
   refine sq fun K9 hK9 => (sq fun K10 hK10 => (rg (mv (v := (.int .i64 0)) rfl rfl (cmp (a := 0) (b := 0) rfl rfl rfl (c_nne (by decide)) (mv (v := (.bool false)) rfl rfl (mv (v := v) rfl rfl (lenI (v := v) rfl rfl Try.underlying22 hv ?_)))))))
   refine mv (v := (.int .i64 k)) rfl rfl (ar (a := (xs.length : Int)) (b := (k : Int)) (c := (xs.length : Int) - (k : Int)) rfl rfl rfl rfl (w64 (by omega)) (mv (v := (.int .i64 nn1)) rfl rfl (ar (a := (xs.length : Int) - (k : Int)) (b := (nn1 : Int)) (c := ((xs.length : Int) - (k : Int)) - (nn1 : Int)) rfl rfl rfl rfl (w64 (by omega)) ?_)))
   by_cases h1 : (((xs.length : Int) - (k : Int)) - (nn1 : Int) : Int) < (4 : Int)
   · refine cmp (a := ((xs.length : Int) - (k : Int)) - (nn1 : Int)) (b := 4) rfl rfl rfl (c_lt h1) (pkF (v := (.bool true)) rfl rfl rfl (wl_nil (tN ((hK10 _ _ ?_)))))
     refine cdT rfl (sq fun K11 hK11 => (rgs (Γ := Unit) mixed [[], [], [], [0], [0, 1, 3], [0, 1, 2, 3, 4]] [5] (by decide) [fun _ => lv, fun _ => (.int .i64 k), fun _ => (.agg #[(.int .u8 l0), (.int .u8 l1), (.int .u8 l2), (.int .u8 l3)]), fun _ => lv, fun _ => (.int .i64 k), fun _ => undef] [(fun _ => [blk b4 28 [(.int .i64 cc1.op), (.int .u64 cc1.u), (.int .u64 cc1.v), (.int .i64 cc1.wt), (.int .i64 cc1.t), dv1, bv1], tsRes F1 [(cc1, dv1, bv1)], row lv 28 7 ts.length (ts.flatMap CT.cells), tsRes F ts, blk b2 53 [(.int .u8 l0), (.int .u8 l1), (.int .u8 l2), (.int .u8 l3)], blk b1 53 [(.int .u8 0), (.int .u8 0), (.int .u8 0), (.int .u8 0)]], fun _ _ => True), (fun _ => [blk b4 28 [(.int .i64 cc1.op), (.int .u64 cc1.u), (.int .u64 cc1.v), (.int .i64 cc1.wt), (.int .i64 cc1.t), dv1, bv1], tsRes F1 [(cc1, dv1, bv1)], row lv 28 7 ts.length (ts.flatMap CT.cells), tsRes F ts, blk b2 53 [(.int .u8 l0), (.int .u8 l1), (.int .u8 l2), (.int .u8 l3)], blk b1 53 [(.int .u8 l0), (.int .u8 l1), (.int .u8 l2), (.int .u8 l3)]], fun _ _ => True)] () (fun _ => (3, (.int .i64 k)) :: (2, lv) :: (35, (.agg #[(.int .u8 l0), (.int .u8 l1), (.int .u8 l2), (.int .u8 l3)])) :: (34, (.int .i64 k)) :: (33, lv) :: _) rfl hs12 (fun _ _ => trivial) ?_ (fun _ => rfl) rfl ?_))
     · skip
       refine ob_p rfl (fun _ _ _ => qv rfl rfl (mv_r (v := lv) rfl)) (ob_p rfl (fun _ _ _ => qv rfl rfl (mv_r (v := (.int .i64 k)) rfl)) (ob_q1 rfl rfl rfl rfl (fun _ wq hM hF => qv rfl rfl (ldA_r (cs := [(.int .u8 l0), (.int .u8 l1), (.int .u8 l2), (.int .u8 l3)]) rfl Try.underlying53 rfl ti53 rfl (St.blkCells hM (i := 4) (o := 0) (vs := [(.int .u8 l0), (.int .u8 l1), (.int .u8 l2), (.int .u8 l3)]) rfl rfl))) (ob_p rfl (fun _ _ _ => qv rfl rfl (asg_r (v := lv) rfl)) (ob_p rfl (fun _ _ _ => qv rfl rfl (asg_r (v := (.int .i64 k)) rfl)) (ob_m rfl rfl rfl rfl (fun _ wq hM hF => m_sto (v := (.agg #[(.int .u8 l0), (.int .u8 l1), (.int .u8 l2), (.int .u8 l3)])) (vs := [(.int .u8 l0), (.int .u8 l1), (.int .u8 l2), (.int .u8 l3)]) (cs' := [(.int .u8 l0), (.int .u8 l1), (.int .u8 l2), (.int .u8 l3)]) (L' := [blk b4 28 [(.int .i64 cc1.op), (.int .u64 cc1.u), (.int .u64 cc1.v), (.int .i64 cc1.wt), (.int .i64 cc1.t), dv1, bv1], tsRes F1 [(cc1, dv1, bv1)], row lv 28 7 ts.length (ts.flatMap CT.cells), tsRes F ts, blk b2 53 [(.int .u8 l0), (.int .u8 l1), (.int .u8 l2), (.int .u8 l3)], blk b1 53 [(.int .u8 l0), (.int .u8 l1), (.int .u8 l2), (.int .u8 l3)]]) 5 rfl rfl rfl rfl ti53 rfl rfl hM rfl rfl rfl rfl (fun _ h => ⟨(), ⟨h, trivial⟩, rfl, Stab.refl _ _ _⟩)) ?_)))))
       exact ob_n
     rintro - w12 hs13 -
     refine tN ((hK11 _ _ ?_))
     refine rt (tR (bR (tR (bR (?_)))))
     refine retL3 (v := lv) (v' := (.int .i64 k)) (v'' := (.agg #[(.int .u8 l0), (.int .u8 l1), (.int .u8 l2), (.int .u8 l3)])) Try.results26 (rvT rfl) (rvT rfl) (rvA (cs := [(.int .u8 l0), (.int .u8 l1), (.int .u8 l2), (.int .u8 l3)]) rfl Try.underlying53 rfl ti53 rfl (St.blkCells hs13 (i := 5) (o := 0) (vs := [(.int .u8 l0), (.int .u8 l1), (.int .u8 l2), (.int .u8 l3)]) rfl rfl)) ?_
     have hrs := hrd.stop (recF_short hg1 (by simp only [List.length_drop] at *; omega))
     exact ⟨lv, l0, l1, l2, l3, by rw [hrs], by rw [hrs], by rw [hrs]; exact (St.cmds hs13 (i := 2) (j := 3) rfl rfl).monoC (fun b hf => hs13.feetNew (w0 := w) (by simp) hf), hs13.chg (by simp)⟩
   · refine cmp (a := ((xs.length : Int) - (k : Int)) - (nn1 : Int)) (b := 4) rfl rfl rfl (c_nlt h1) (pkF (v := (.bool false)) rfl rfl rfl (wl_nil (tN ((hK10 _ _ ?_)))))
     refine cdF rfl (sp (tN ((hK9 _ _ ?_))))
     refine sq fun K12 hK12 => (rg (mv (v := (.int .i64 k)) rfl rfl (mv (v := (.int .i64 nn1)) rfl rfl (ar (a := (k : Int)) (b := (nn1 : Int)) (c := (k : Int) + (nn1 : Int)) rfl rfl rfl rfl (w64 (by omega)) (asg (v := (.int .i64 ((k : Int) + (nn1 : Int)))) rfl rfl (wl_nil (tN ((hK12 _ _ ?_)))))))))
     refine sq fun K13 hK13 => (rgs (Γ := Nat) mixed [[], [], [], [], [1, 2, 3], [0, 1, 2, 3, 4], [], [0, 1, 2, 3, 4, 5, 6]] [6, 7] (by decide) [fun b5 => (.agg #[(.int .u8 l0), (.int .u8 l1), (.int .u8 l2), (.int .u8 l3)]), fun b5 => v, fun b5 => (.int .i64 k), fun b5 => (.int .i64 ((k : Int) + (nn1 : Int))), fun b5 => (cutV 1 v k (k + nn1)), fun b5 => (.agg #[(.int .u8 (((sumS ([l0, l1, l2, l3] ++ ((xs.drop k).take nn1))) / 16777216 % 256 : Nat) : Int)), (.int .u8 (((sumS ([l0, l1, l2, l3] ++ ((xs.drop k).take nn1))) / 65536 % 256 : Nat) : Int)), (.int .u8 (((sumS ([l0, l1, l2, l3] ++ ((xs.drop k).take nn1))) / 256 % 256 : Nat) : Int)), (.int .u8 (((sumS ([l0, l1, l2, l3] ++ ((xs.drop k).take nn1))) % 256 : Nat) : Int))]), fun b5 => (.pointer (some ⟨b5, 0, none⟩)), fun b5 => undef] [(fun b5 => [blk b4 28 [(.int .i64 cc1.op), (.int .u64 cc1.u), (.int .u64 cc1.v), (.int .i64 cc1.wt), (.int .i64 cc1.t), dv1, bv1], tsRes F1 [(cc1, dv1, bv1)], row lv 28 7 ts.length (ts.flatMap CT.cells), tsRes F ts, blk b2 53 [(.int .u8 l0), (.int .u8 l1), (.int .u8 l2), (.int .u8 l3)], blk b1 53 [(.int .u8 0), (.int .u8 0), (.int .u8 0), (.int .u8 0)]], fun _ _ => True), (fun b5 => [blk b5 53 [(.int .u8 0), (.int .u8 0), (.int .u8 0), (.int .u8 0)], blk b4 28 [(.int .i64 cc1.op), (.int .u64 cc1.u), (.int .u64 cc1.v), (.int .i64 cc1.wt), (.int .i64 cc1.t), dv1, bv1], tsRes F1 [(cc1, dv1, bv1)], row lv 28 7 ts.length (ts.flatMap CT.cells), tsRes F ts, blk b2 53 [(.int .u8 l0), (.int .u8 l1), (.int .u8 l2), (.int .u8 l3)], blk b1 53 [(.int .u8 0), (.int .u8 0), (.int .u8 0), (.int .u8 0)]], fun _ _ => True), (fun b5 => [blk b5 53 [(.int .u8 (((sumS ([l0, l1, l2, l3] ++ ((xs.drop k).take nn1))) / 16777216 % 256 : Nat) : Int)), (.int .u8 (((sumS ([l0, l1, l2, l3] ++ ((xs.drop k).take nn1))) / 65536 % 256 : Nat) : Int)), (.int .u8 (((sumS ([l0, l1, l2, l3] ++ ((xs.drop k).take nn1))) / 256 % 256 : Nat) : Int)), (.int .u8 (((sumS ([l0, l1, l2, l3] ++ ((xs.drop k).take nn1))) % 256 : Nat) : Int))], blk b4 28 [(.int .i64 cc1.op), (.int .u64 cc1.u), (.int .u64 cc1.v), (.int .i64 cc1.wt), (.int .i64 cc1.t), dv1, bv1], tsRes F1 [(cc1, dv1, bv1)], row lv 28 7 ts.length (ts.flatMap CT.cells), tsRes F ts, blk b2 53 [(.int .u8 l0), (.int .u8 l1), (.int .u8 l2), (.int .u8 l3)], blk b1 53 [(.int .u8 0), (.int .u8 0), (.int .u8 0), (.int .u8 0)]], fun _ _ => True)] 0 (fun b5 => (12, (.pointer (some ⟨b5, 0, none⟩))) :: (44, (.agg #[(.int .u8 (((sumS ([l0, l1, l2, l3] ++ ((xs.drop k).take nn1))) / 16777216 % 256 : Nat) : Int)), (.int .u8 (((sumS ([l0, l1, l2, l3] ++ ((xs.drop k).take nn1))) / 65536 % 256 : Nat) : Int)), (.int .u8 (((sumS ([l0, l1, l2, l3] ++ ((xs.drop k).take nn1))) / 256 % 256 : Nat) : Int)), (.int .u8 (((sumS ([l0, l1, l2, l3] ++ ((xs.drop k).take nn1))) % 256 : Nat) : Int))])) :: (43, (cutV 1 v k (k + nn1))) :: (42, (.int .i64 ((k : Int) + (nn1 : Int)))) :: (41, (.int .i64 k)) :: (40, v) :: (39, (.agg #[(.int .u8 l0), (.int .u8 l1), (.int .u8 l2), (.int .u8 l3)])) :: _) rfl hs12 (fun _ _ => trivial) ?_ (fun b5 => rfl) rfl ?_)
     · skip
       refine ob_q2 rfl rfl rfl rfl rfl (fun b5 wq hM hF => qv rfl rfl (ldA_r (cs := [(.int .u8 l0), (.int .u8 l1), (.int .u8 l2), (.int .u8 l3)]) rfl Try.underlying53 rfl ti53 rfl (St.blkCells hM (i := 4) (o := 0) (vs := [(.int .u8 l0), (.int .u8 l1), (.int .u8 l2), (.int .u8 l3)]) rfl rfl))) (fun b5 wq hM hF => qv rfl rfl (ldA_r (cs := [(.int .u8 l0), (.int .u8 l1), (.int .u8 l2), (.int .u8 l3)]) rfl Try.underlying53 rfl ti53 rfl (St.blkCells hM (i := 5) (o := 0) (vs := [(.int .u8 l0), (.int .u8 l1), (.int .u8 l2), (.int .u8 l3)]) rfl rfl))) (ob_p rfl (fun b5 _ _ => qv rfl rfl (mv_r (v := v) rfl)) (ob_p rfl (fun b5 _ _ => qv rfl rfl (mv_r (v := (.int .i64 k)) rfl)) (ob_p rfl (fun b5 _ _ => qv rfl rfl (mv_r (v := (.int .i64 ((k : Int) + (nn1 : Int)))) rfl)) (ob_p rfl (fun b5 _ _ => qv rfl rfl (slI_r (l := k) (h := (k + nn1)) rfl Try.underlying22 ti5 hv ⟨_, eqI (by omega)⟩ ⟨_, eqI (by omega)⟩ (by omega) (by omega))) (ob_q2 rfl rfl rfl rfl rfl (fun b5 wq hM hF => qc rfl rfl (clF_r (vl := [(.agg #[(.int .u8 l0), (.int .u8 l1), (.int .u8 l2), (.int .u8 l3)]), (cutV 1 v k (k + nn1))]) rfl ent27) (CR.mono (rsum_ok l0 l1 l2 l3 hin4 (cutV 1 v k (k + nn1)) ((xs.drop k).take nn1) wq (Sl.any (by have h9 := (St.ints0 hM (by simp) (Sl.cutV hv (l := k) (h := (k + nn1)) (by omega) (by omega))); rw [take_drop_sub] at h9; exact h9)) (by simp; omega)) fun _ _ h => ⟨h.1, ⟨hM.grow h.2, trivial⟩⟩)) (fun b5 wq hM hF => qc rfl rfl (clF_r (vl := [(.agg #[(.int .u8 l0), (.int .u8 l1), (.int .u8 l2), (.int .u8 l3)]), (cutV 1 v k (k + nn1))]) rfl ent27) (CR.mono (rsum_ok l0 l1 l2 l3 hin4 (cutV 1 v k (k + nn1)) ((xs.drop k).take nn1) wq (Sl.any (by have h9 := (St.ints0 hM (by simp) (Sl.cutV hv (l := k) (h := (k + nn1)) (by omega) (by omega))); rw [take_drop_sub] at h9; exact h9)) (by simp; omega)) fun _ _ h => ⟨h.1, ⟨hM.grow h.2, trivial⟩⟩)) (ob_m rfl rfl rfl rfl (fun b5 wq hM hF => m_al (cs := [(.int .u8 0), (.int .u8 0), (.int .u8 0), (.int .u8 0)]) rfl ti53 rfl hM (fun b5' _ h => ⟨b5', ⟨h, trivial⟩, rfl, st_c rfl (st_c rfl (st_c rfl (st_c rfl (st_c rfl (st_c rfl (st_c trivial (st_c trivial (st_n))))))))⟩)) (ob_m rfl rfl rfl rfl (fun b5 wq hM hF => m_sto (v := (.agg #[(.int .u8 (((sumS ([l0, l1, l2, l3] ++ ((xs.drop k).take nn1))) / 16777216 % 256 : Nat) : Int)), (.int .u8 (((sumS ([l0, l1, l2, l3] ++ ((xs.drop k).take nn1))) / 65536 % 256 : Nat) : Int)), (.int .u8 (((sumS ([l0, l1, l2, l3] ++ ((xs.drop k).take nn1))) / 256 % 256 : Nat) : Int)), (.int .u8 (((sumS ([l0, l1, l2, l3] ++ ((xs.drop k).take nn1))) % 256 : Nat) : Int))])) (vs := [(.int .u8 (((sumS ([l0, l1, l2, l3] ++ ((xs.drop k).take nn1))) / 16777216 % 256 : Nat) : Int)), (.int .u8 (((sumS ([l0, l1, l2, l3] ++ ((xs.drop k).take nn1))) / 65536 % 256 : Nat) : Int)), (.int .u8 (((sumS ([l0, l1, l2, l3] ++ ((xs.drop k).take nn1))) / 256 % 256 : Nat) : Int)), (.int .u8 (((sumS ([l0, l1, l2, l3] ++ ((xs.drop k).take nn1))) % 256 : Nat) : Int))]) (cs' := [(.int .u8 (((sumS ([l0, l1, l2, l3] ++ ((xs.drop k).take nn1))) / 16777216 % 256 : Nat) : Int)), (.int .u8 (((sumS ([l0, l1, l2, l3] ++ ((xs.drop k).take nn1))) / 65536 % 256 : Nat) : Int)), (.int .u8 (((sumS ([l0, l1, l2, l3] ++ ((xs.drop k).take nn1))) / 256 % 256 : Nat) : Int)), (.int .u8 (((sumS ([l0, l1, l2, l3] ++ ((xs.drop k).take nn1))) % 256 : Nat) : Int))]) (L' := [blk b5 53 [(.int .u8 (((sumS ([l0, l1, l2, l3] ++ ((xs.drop k).take nn1))) / 16777216 % 256 : Nat) : Int)), (.int .u8 (((sumS ([l0, l1, l2, l3] ++ ((xs.drop k).take nn1))) / 65536 % 256 : Nat) : Int)), (.int .u8 (((sumS ([l0, l1, l2, l3] ++ ((xs.drop k).take nn1))) / 256 % 256 : Nat) : Int)), (.int .u8 (((sumS ([l0, l1, l2, l3] ++ ((xs.drop k).take nn1))) % 256 : Nat) : Int))], blk b4 28 [(.int .i64 cc1.op), (.int .u64 cc1.u), (.int .u64 cc1.v), (.int .i64 cc1.wt), (.int .i64 cc1.t), dv1, bv1], tsRes F1 [(cc1, dv1, bv1)], row lv 28 7 ts.length (ts.flatMap CT.cells), tsRes F ts, blk b2 53 [(.int .u8 l0), (.int .u8 l1), (.int .u8 l2), (.int .u8 l3)], blk b1 53 [(.int .u8 0), (.int .u8 0), (.int .u8 0), (.int .u8 0)]]) 0 rfl rfl rfl rfl ti53 rfl rfl hM rfl rfl rfl rfl (fun _ h => ⟨b5, ⟨h, trivial⟩, rfl, Stab.refl _ _ _⟩)) ?_)))))))
       exact ob_n
     rintro b5 w13 hs14 -
     refine tN ((hK13 _ _ ?_))
     refine sq fun K14 hK14 => (sq fun K15 hK15 => ?_)
     obtain ⟨y0, y1, y2, y3, hy4⟩ := take4 (l := xs.drop (k + nn1)) (by simp; omega)
     have hg4 := get4 hy4
     refine rgs (Γ := Unit) mixed [[], [], [0, 1], [0, 1, 2], [], [], [5], [4, 5, 6], [4, 5, 6, 7], [], [], [10], [9, 10, 11], [9, 10, 11, 12], [], [], [15], [14, 15, 16], [14, 15, 16, 17], [0, 1, 2, 3, 4, 5, 6, 7, 8, 9, 10, 11, 12, 13, 14, 15, 16, 17, 18], [], [0, 1, 2, 3, 4, 5, 6, 7, 8, 9, 10, 11, 12, 13, 14, 15, 16, 17, 18, 19, 20]] [] (by decide) [fun _ => v, fun _ => (.int .i64 ((k : Int) + (nn1 : Int))), fun _ => (adr 1 v (((k : Int) + (nn1 : Int) : Int).toNat)), fun _ => (.int .u8 y0), fun _ => v, fun _ => (.int .i64 ((k : Int) + (nn1 : Int))), fun _ => (.int .i64 (((k : Int) + (nn1 : Int)) + 1)), fun _ => (adr 1 v ((((k : Int) + (nn1 : Int)) + 1 : Int).toNat)), fun _ => (.int .u8 y1), fun _ => v, fun _ => (.int .i64 ((k : Int) + (nn1 : Int))), fun _ => (.int .i64 (((k : Int) + (nn1 : Int)) + 2)), fun _ => (adr 1 v ((((k : Int) + (nn1 : Int)) + 2 : Int).toNat)), fun _ => (.int .u8 y2), fun _ => v, fun _ => (.int .i64 ((k : Int) + (nn1 : Int))), fun _ => (.int .i64 (((k : Int) + (nn1 : Int)) + 3)), fun _ => (adr 1 v ((((k : Int) + (nn1 : Int)) + 3 : Int).toNat)), fun _ => (.int .u8 y3), fun _ => (.agg #[(.int .u8 y0), (.int .u8 y1), (.int .u8 y2), (.int .u8 y3)]), fun _ => (.agg #[(.int .u8 (((sumS ([l0, l1, l2, l3] ++ ((xs.drop k).take nn1))) / 16777216 % 256 : Nat) : Int)), (.int .u8 (((sumS ([l0, l1, l2, l3] ++ ((xs.drop k).take nn1))) / 65536 % 256 : Nat) : Int)), (.int .u8 (((sumS ([l0, l1, l2, l3] ++ ((xs.drop k).take nn1))) / 256 % 256 : Nat) : Int)), (.int .u8 (((sumS ([l0, l1, l2, l3] ++ ((xs.drop k).take nn1))) % 256 : Nat) : Int))]), fun _ => (.bool (!(decide ([y0, y1, y2, y3] = [(((sumS ([l0, l1, l2, l3] ++ ((xs.drop k).take nn1))) / 16777216 % 256 : Nat) : Int), (((sumS ([l0, l1, l2, l3] ++ ((xs.drop k).take nn1))) / 65536 % 256 : Nat) : Int), (((sumS ([l0, l1, l2, l3] ++ ((xs.drop k).take nn1))) / 256 % 256 : Nat) : Int), (((sumS ([l0, l1, l2, l3] ++ ((xs.drop k).take nn1))) % 256 : Nat) : Int)]))))] [(fun _ => [blk b5 53 [(.int .u8 (((sumS ([l0, l1, l2, l3] ++ ((xs.drop k).take nn1))) / 16777216 % 256 : Nat) : Int)), (.int .u8 (((sumS ([l0, l1, l2, l3] ++ ((xs.drop k).take nn1))) / 65536 % 256 : Nat) : Int)), (.int .u8 (((sumS ([l0, l1, l2, l3] ++ ((xs.drop k).take nn1))) / 256 % 256 : Nat) : Int)), (.int .u8 (((sumS ([l0, l1, l2, l3] ++ ((xs.drop k).take nn1))) % 256 : Nat) : Int))], blk b4 28 [(.int .i64 cc1.op), (.int .u64 cc1.u), (.int .u64 cc1.v), (.int .i64 cc1.wt), (.int .i64 cc1.t), dv1, bv1], tsRes F1 [(cc1, dv1, bv1)], row lv 28 7 ts.length (ts.flatMap CT.cells), tsRes F ts, blk b2 53 [(.int .u8 l0), (.int .u8 l1), (.int .u8 l2), (.int .u8 l3)], blk b1 53 [(.int .u8 0), (.int .u8 0), (.int .u8 0), (.int .u8 0)]], fun _ _ => True)] () (fun _ => (66, (.bool (!(decide ([y0, y1, y2, y3] = [(((sumS ([l0, l1, l2, l3] ++ ((xs.drop k).take nn1))) / 16777216 % 256 : Nat) : Int), (((sumS ([l0, l1, l2, l3] ++ ((xs.drop k).take nn1))) / 65536 % 256 : Nat) : Int), (((sumS ([l0, l1, l2, l3] ++ ((xs.drop k).take nn1))) / 256 % 256 : Nat) : Int), (((sumS ([l0, l1, l2, l3] ++ ((xs.drop k).take nn1))) % 256 : Nat) : Int)]))))) :: (65, (.agg #[(.int .u8 (((sumS ([l0, l1, l2, l3] ++ ((xs.drop k).take nn1))) / 16777216 % 256 : Nat) : Int)), (.int .u8 (((sumS ([l0, l1, l2, l3] ++ ((xs.drop k).take nn1))) / 65536 % 256 : Nat) : Int)), (.int .u8 (((sumS ([l0, l1, l2, l3] ++ ((xs.drop k).take nn1))) / 256 % 256 : Nat) : Int)), (.int .u8 (((sumS ([l0, l1, l2, l3] ++ ((xs.drop k).take nn1))) % 256 : Nat) : Int))])) :: (64, (.agg #[(.int .u8 y0), (.int .u8 y1), (.int .u8 y2), (.int .u8 y3)])) :: (63, (.int .u8 y3)) :: (62, (adr 1 v ((((k : Int) + (nn1 : Int)) + 3 : Int).toNat))) :: (61, (.int .i64 (((k : Int) + (nn1 : Int)) + 3))) :: (60, (.int .i64 ((k : Int) + (nn1 : Int)))) :: (59, v) :: (58, (.int .u8 y2)) :: (57, (adr 1 v ((((k : Int) + (nn1 : Int)) + 2 : Int).toNat))) :: (56, (.int .i64 (((k : Int) + (nn1 : Int)) + 2))) :: (55, (.int .i64 ((k : Int) + (nn1 : Int)))) :: (54, v) :: (53, (.int .u8 y1)) :: (52, (adr 1 v ((((k : Int) + (nn1 : Int)) + 1 : Int).toNat))) :: (51, (.int .i64 (((k : Int) + (nn1 : Int)) + 1))) :: (50, (.int .i64 ((k : Int) + (nn1 : Int)))) :: (49, v) :: (48, (.int .u8 y0)) :: (47, (adr 1 v (((k : Int) + (nn1 : Int) : Int).toNat))) :: (46, (.int .i64 ((k : Int) + (nn1 : Int)))) :: (45, v) :: _) rfl hs14 (fun _ _ => trivial) ?_ (fun _ => rfl) rfl ?_
     · skip
       refine ob_p rfl (fun _ _ _ => qv rfl rfl (mv_r (v := v) rfl)) (ob_p rfl (fun _ _ _ => qv rfl rfl (mv_r (v := (.int .i64 ((k : Int) + (nn1 : Int)))) rfl)) (ob_p rfl (fun _ _ _ => qv rfl rfl (ixI_r (i := (k : Int) + (nn1 : Int)) (el := y0) rfl rfl Try.underlying22 ti5 hv (by omega) (getAtI (m := k + nn1 + 0) hg4.1 (by omega)))) (ob_q1 rfl rfl rfl rfl (fun _ wq hM hF => qv rfl rfl (ldI_r rfl Try.underlying5 rfl (St.ints0 hM (by simp) hv) (getAtI (m := k + nn1 + 0) hg4.1 (by omega)))) (ob_p rfl (fun _ _ _ => qv rfl rfl (mv_r (v := v) rfl)) (ob_p rfl (fun _ _ _ => qv rfl rfl (mv_r (v := (.int .i64 ((k : Int) + (nn1 : Int)))) rfl)) (ob_p rfl (fun _ _ _ => qv rfl rfl (ar_r (a := (k : Int) + (nn1 : Int)) (b := 1) (c := ((k : Int) + (nn1 : Int)) + 1) rfl rfl rfl (w64 (by omega)))) (ob_p rfl (fun _ _ _ => qv rfl rfl (ixI_r (i := ((k : Int) + (nn1 : Int)) + 1) (el := y1) rfl rfl Try.underlying22 ti5 hv (by omega) (getAtI (m := k + nn1 + 1) hg4.2.1 (by omega)))) ?_)))))))
       refine ob_q1 rfl rfl rfl rfl (fun _ wq hM hF => qv rfl rfl (ldI_r rfl Try.underlying5 rfl (St.ints0 hM (by simp) hv) (getAtI (m := k + nn1 + 1) hg4.2.1 (by omega)))) (ob_p rfl (fun _ _ _ => qv rfl rfl (mv_r (v := v) rfl)) (ob_p rfl (fun _ _ _ => qv rfl rfl (mv_r (v := (.int .i64 ((k : Int) + (nn1 : Int)))) rfl)) (ob_p rfl (fun _ _ _ => qv rfl rfl (ar_r (a := (k : Int) + (nn1 : Int)) (b := 2) (c := ((k : Int) + (nn1 : Int)) + 2) rfl rfl rfl (w64 (by omega)))) (ob_p rfl (fun _ _ _ => qv rfl rfl (ixI_r (i := ((k : Int) + (nn1 : Int)) + 2) (el := y2) rfl rfl Try.underlying22 ti5 hv (by omega) (getAtI (m := k + nn1 + 2) hg4.2.2.1 (by omega)))) (ob_q1 rfl rfl rfl rfl (fun _ wq hM hF => qv rfl rfl (ldI_r rfl Try.underlying5 rfl (St.ints0 hM (by simp) hv) (getAtI (m := k + nn1 + 2) hg4.2.2.1 (by omega)))) (ob_p rfl (fun _ _ _ => qv rfl rfl (mv_r (v := v) rfl)) (ob_p rfl (fun _ _ _ => qv rfl rfl (mv_r (v := (.int .i64 ((k : Int) + (nn1 : Int)))) rfl)) ?_)))))))
       refine ob_p rfl (fun _ _ _ => qv rfl rfl (ar_r (a := (k : Int) + (nn1 : Int)) (b := 3) (c := ((k : Int) + (nn1 : Int)) + 3) rfl rfl rfl (w64 (by omega)))) (ob_p rfl (fun _ _ _ => qv rfl rfl (ixI_r (i := ((k : Int) + (nn1 : Int)) + 3) (el := y3) rfl rfl Try.underlying22 ti5 hv (by omega) (getAtI (m := k + nn1 + 3) hg4.2.2.2 (by omega)))) (ob_q1 rfl rfl rfl rfl (fun _ wq hM hF => qv rfl rfl (ldI_r rfl Try.underlying5 rfl (St.ints0 hM (by simp) hv) (getAtI (m := k + nn1 + 3) hg4.2.2.2 (by omega)))) (ob_p rfl (fun _ _ _ => qv rfl rfl (bld_r (pvs := [(0, (.int .u8 y0)), (1, (.int .u8 y1)), (2, (.int .u8 y2)), (3, (.int .u8 y3))]) (v := .agg #[(.int .u8 y0), (.int .u8 y1), (.int .u8 y2), (.int .u8 y3)]) rfl (buildA [(0, [(.int .u8 y0)]), (1, [(.int .u8 y1)]), (2, [(.int .u8 y2)]), (3, [(.int .u8 y3)])] ti53 Try.underlying53 ti5 rfl ⟨rfl, rfl, rfl, rfl, rfl, rfl, rfl, rfl, trivial⟩ rfl (by simp)))) (ob_q1 rfl rfl rfl rfl (fun _ wq hM hF => qv rfl rfl (ldA_r (cs := [(.int .u8 (((sumS ([l0, l1, l2, l3] ++ ((xs.drop k).take nn1))) / 16777216 % 256 : Nat) : Int)), (.int .u8 (((sumS ([l0, l1, l2, l3] ++ ((xs.drop k).take nn1))) / 65536 % 256 : Nat) : Int)), (.int .u8 (((sumS ([l0, l1, l2, l3] ++ ((xs.drop k).take nn1))) / 256 % 256 : Nat) : Int)), (.int .u8 (((sumS ([l0, l1, l2, l3] ++ ((xs.drop k).take nn1))) % 256 : Nat) : Int))]) rfl Try.underlying53 rfl ti53 rfl (St.blkCells hM (i := 0) (o := 0) (vs := [(.int .u8 (((sumS ([l0, l1, l2, l3] ++ ((xs.drop k).take nn1))) / 16777216 % 256 : Nat) : Int)), (.int .u8 (((sumS ([l0, l1, l2, l3] ++ ((xs.drop k).take nn1))) / 65536 % 256 : Nat) : Int)), (.int .u8 (((sumS ([l0, l1, l2, l3] ++ ((xs.drop k).take nn1))) / 256 % 256 : Nat) : Int)), (.int .u8 (((sumS ([l0, l1, l2, l3] ++ ((xs.drop k).take nn1))) % 256 : Nat) : Int))]) rfl rfl))) (ob_p rfl (fun _ _ _ => qv rfl rfl (neArr_r (c := !(decide ([y0, y1, y2, y3] = [(((sumS ([l0, l1, l2, l3] ++ ((xs.drop k).take nn1))) / 16777216 % 256 : Nat) : Int), (((sumS ([l0, l1, l2, l3] ++ ((xs.drop k).take nn1))) / 65536 % 256 : Nat) : Int), (((sumS ([l0, l1, l2, l3] ++ ((xs.drop k).take nn1))) / 256 % 256 : Nat) : Int), (((sumS ([l0, l1, l2, l3] ++ ((xs.drop k).take nn1))) % 256 : Nat) : Int)]))) rfl rfl Try.underlying53 Try.underlying5 ti5 gd53 rfl)) ?_)))))
       exact ob_n
     rintro - w14 hs15 -
     refine tN ((hK15 _ _ ?_))
     cases hz1 : (decide ([y0, y1, y2, y3] = [(((sumS ([l0, l1, l2, l3] ++ ((xs.drop k).take nn1))) / 16777216 % 256 : Nat) : Int), (((sumS ([l0, l1, l2, l3] ++ ((xs.drop k).take nn1))) / 65536 % 256 : Nat) : Int), (((sumS ([l0, l1, l2, l3] ++ ((xs.drop k).take nn1))) / 256 % 256 : Nat) : Int), (((sumS ([l0, l1, l2, l3] ++ ((xs.drop k).take nn1))) % 256 : Nat) : Int)]) : Bool)
     · skip
       refine cdT rfl (sq fun K16 hK16 => (rgs (Γ := Unit) mixed [[], [], [], [0], [0, 1, 3], [0, 1, 2, 3, 4]] [5] (by decide) [fun _ => lv, fun _ => (.int .i64 k), fun _ => (.agg #[(.int .u8 l0), (.int .u8 l1), (.int .u8 l2), (.int .u8 l3)]), fun _ => lv, fun _ => (.int .i64 k), fun _ => undef] [(fun _ => [blk b5 53 [(.int .u8 (((sumS ([l0, l1, l2, l3] ++ ((xs.drop k).take nn1))) / 16777216 % 256 : Nat) : Int)), (.int .u8 (((sumS ([l0, l1, l2, l3] ++ ((xs.drop k).take nn1))) / 65536 % 256 : Nat) : Int)), (.int .u8 (((sumS ([l0, l1, l2, l3] ++ ((xs.drop k).take nn1))) / 256 % 256 : Nat) : Int)), (.int .u8 (((sumS ([l0, l1, l2, l3] ++ ((xs.drop k).take nn1))) % 256 : Nat) : Int))], blk b4 28 [(.int .i64 cc1.op), (.int .u64 cc1.u), (.int .u64 cc1.v), (.int .i64 cc1.wt), (.int .i64 cc1.t), dv1, bv1], tsRes F1 [(cc1, dv1, bv1)], row lv 28 7 ts.length (ts.flatMap CT.cells), tsRes F ts, blk b2 53 [(.int .u8 l0), (.int .u8 l1), (.int .u8 l2), (.int .u8 l3)], blk b1 53 [(.int .u8 0), (.int .u8 0), (.int .u8 0), (.int .u8 0)]], fun _ _ => True), (fun _ => [blk b5 53 [(.int .u8 (((sumS ([l0, l1, l2, l3] ++ ((xs.drop k).take nn1))) / 16777216 % 256 : Nat) : Int)), (.int .u8 (((sumS ([l0, l1, l2, l3] ++ ((xs.drop k).take nn1))) / 65536 % 256 : Nat) : Int)), (.int .u8 (((sumS ([l0, l1, l2, l3] ++ ((xs.drop k).take nn1))) / 256 % 256 : Nat) : Int)), (.int .u8 (((sumS ([l0, l1, l2, l3] ++ ((xs.drop k).take nn1))) % 256 : Nat) : Int))], blk b4 28 [(.int .i64 cc1.op), (.int .u64 cc1.u), (.int .u64 cc1.v), (.int .i64 cc1.wt), (.int .i64 cc1.t), dv1, bv1], tsRes F1 [(cc1, dv1, bv1)], row lv 28 7 ts.length (ts.flatMap CT.cells), tsRes F ts, blk b2 53 [(.int .u8 l0), (.int .u8 l1), (.int .u8 l2), (.int .u8 l3)], blk b1 53 [(.int .u8 l0), (.int .u8 l1), (.int .u8 l2), (.int .u8 l3)]], fun _ _ => True)] () (fun _ => (3, (.int .i64 k)) :: (2, lv) :: (69, (.agg #[(.int .u8 l0), (.int .u8 l1), (.int .u8 l2), (.int .u8 l3)])) :: (68, (.int .i64 k)) :: (67, lv) :: _) rfl hs15 (fun _ _ => trivial) ?_ (fun _ => rfl) rfl ?_))
       · skip
         refine ob_p rfl (fun _ _ _ => qv rfl rfl (mv_r (v := lv) rfl)) (ob_p rfl (fun _ _ _ => qv rfl rfl (mv_r (v := (.int .i64 k)) rfl)) (ob_q1 rfl rfl rfl rfl (fun _ wq hM hF => qv rfl rfl (ldA_r (cs := [(.int .u8 l0), (.int .u8 l1), (.int .u8 l2), (.int .u8 l3)]) rfl Try.underlying53 rfl ti53 rfl (St.blkCells hM (i := 5) (o := 0) (vs := [(.int .u8 l0), (.int .u8 l1), (.int .u8 l2), (.int .u8 l3)]) rfl rfl))) (ob_p rfl (fun _ _ _ => qv rfl rfl (asg_r (v := lv) rfl)) (ob_p rfl (fun _ _ _ => qv rfl rfl (asg_r (v := (.int .i64 k)) rfl)) (ob_m rfl rfl rfl rfl (fun _ wq hM hF => m_sto (v := (.agg #[(.int .u8 l0), (.int .u8 l1), (.int .u8 l2), (.int .u8 l3)])) (vs := [(.int .u8 l0), (.int .u8 l1), (.int .u8 l2), (.int .u8 l3)]) (cs' := [(.int .u8 l0), (.int .u8 l1), (.int .u8 l2), (.int .u8 l3)]) (L' := [blk b5 53 [(.int .u8 (((sumS ([l0, l1, l2, l3] ++ ((xs.drop k).take nn1))) / 16777216 % 256 : Nat) : Int)), (.int .u8 (((sumS ([l0, l1, l2, l3] ++ ((xs.drop k).take nn1))) / 65536 % 256 : Nat) : Int)), (.int .u8 (((sumS ([l0, l1, l2, l3] ++ ((xs.drop k).take nn1))) / 256 % 256 : Nat) : Int)), (.int .u8 (((sumS ([l0, l1, l2, l3] ++ ((xs.drop k).take nn1))) % 256 : Nat) : Int))], blk b4 28 [(.int .i64 cc1.op), (.int .u64 cc1.u), (.int .u64 cc1.v), (.int .i64 cc1.wt), (.int .i64 cc1.t), dv1, bv1], tsRes F1 [(cc1, dv1, bv1)], row lv 28 7 ts.length (ts.flatMap CT.cells), tsRes F ts, blk b2 53 [(.int .u8 l0), (.int .u8 l1), (.int .u8 l2), (.int .u8 l3)], blk b1 53 [(.int .u8 l0), (.int .u8 l1), (.int .u8 l2), (.int .u8 l3)]]) 6 rfl rfl rfl rfl ti53 rfl rfl hM rfl rfl rfl rfl (fun _ h => ⟨(), ⟨h, trivial⟩, rfl, Stab.refl _ _ _⟩)) ?_)))))
         exact ob_n
       rintro - w15 hs16 -
       refine tN ((hK16 _ _ ?_))
       refine rt (tR (bR (tR (bR (?_)))))
       refine retL3 (v := lv) (v' := (.int .i64 k)) (v'' := (.agg #[(.int .u8 l0), (.int .u8 l1), (.int .u8 l2), (.int .u8 l3)])) Try.results26 (rvT rfl) (rvT rfl) (rvA (cs := [(.int .u8 l0), (.int .u8 l1), (.int .u8 l2), (.int .u8 l3)]) rfl Try.underlying53 rfl ti53 rfl (St.blkCells hs16 (i := 6) (o := 0) (vs := [(.int .u8 l0), (.int .u8 l1), (.int .u8 l2), (.int .u8 l3)]) rfl rfl)) ?_
       have hrs := hrd.stop (recF_bad hg1 (by rw [List.drop_drop, hy4]; exact of_decide_eq_false hz1))
       exact ⟨lv, l0, l1, l2, l3, by rw [hrs], by rw [hrs], by rw [hrs]; exact (St.cmds hs16 (i := 3) (j := 4) rfl rfl).monoC (fun b hf => hs16.feetNew (w0 := w) (by simp) hf), hs16.chg (by simp)⟩
     · skip
       refine cdF rfl (sp (tN ((hK14 _ _ ?_))))
       refine sq fun K17 hK17 => (rg (mv (v := lv) rfl rfl (ldA (cs := [(.int .i64 cc1.op), (.int .u64 cc1.u), (.int .u64 cc1.v), (.int .i64 cc1.wt), (.int .i64 cc1.t), dv1, bv1]) rfl rfl Try.underlying28 rfl ti28 rfl (St.blkCells hs15 (i := 1) (o := 0) (vs := [(.int .i64 cc1.op), (.int .u64 cc1.u), (.int .u64 cc1.v), (.int .i64 cc1.wt), (.int .i64 cc1.t), dv1, bv1]) rfl rfl) (bsv (vs := [(.agg #[(.int .i64 cc1.op), (.int .u64 cc1.u), (.int .u64 cc1.v), (.int .i64 cc1.wt), (.int .i64 cc1.t), dv1, bv1])]) (cs := [(.int .i64 cc1.op), (.int .u64 cc1.u), (.int .u64 cc1.v), (.int .i64 cc1.wt), (.int .i64 cc1.t), dv1, bv1]) rfl rfl Try.underlying30 ti28 rfl (by simp [Value.cells]) rfl rfl rfl hs15 ?_))))
       intro b6 w16 hn5 hc5 hs17
       have hs17 : St _ [row (.slice (some ⟨b6, 0, none⟩) 1 1) 28 7 1 ([(.int .i64 cc1.op), (.int .u64 cc1.u), (.int .u64 cc1.v), (.int .i64 cc1.wt), (.int .i64 cc1.t), dv1, bv1]), blk b5 53 [(.int .u8 (((sumS ([l0, l1, l2, l3] ++ ((xs.drop k).take nn1))) / 16777216 % 256 : Nat) : Int)), (.int .u8 (((sumS ([l0, l1, l2, l3] ++ ((xs.drop k).take nn1))) / 65536 % 256 : Nat) : Int)), (.int .u8 (((sumS ([l0, l1, l2, l3] ++ ((xs.drop k).take nn1))) / 256 % 256 : Nat) : Int)), (.int .u8 (((sumS ([l0, l1, l2, l3] ++ ((xs.drop k).take nn1))) % 256 : Nat) : Int))], blk b4 28 [(.int .i64 cc1.op), (.int .u64 cc1.u), (.int .u64 cc1.v), (.int .i64 cc1.wt), (.int .i64 cc1.t), dv1, bv1], tsRes F1 [(cc1, dv1, bv1)], row lv 28 7 ts.length (ts.flatMap CT.cells), tsRes F ts, blk b2 53 [(.int .u8 l0), (.int .u8 l1), (.int .u8 l2), (.int .u8 l3)], blk b1 53 [(.int .u8 0), (.int .u8 0), (.int .u8 0), (.int .u8 0)]] w16 := hs17
       refine apd (m := ts.length) (cnt := 1) (xs := ts.flatMap CT.cells) (news := [(.int .i64 cc1.op), (.int .u64 cc1.u), (.int .u64 cc1.v), (.int .i64 cc1.wt), (.int .i64 cc1.t), dv1, bv1]) 4 rfl rfl rfl Try.underlying30 ti28 rfl (by decide) hs17 rfl (St.rowSrc hs17 (i := 0) rfl) (fun x hx => List.all_eq_true.1 (all1 rfl (all1 rfl (all1 rfl (all1 rfl (all1 rfl (all1 (Sl.one1 (St.tsD1 hs17 (i := 3) rfl)) (all1 (Sl.one1 (St.tsB1 hs17 (i := 3) rfl)) all0))))))) x hx) (by omega) (by simp only [maxLen]; omega) ?_
       intro v2 w17 hs18 hc6
       have hs18 : St _ [row (.slice (some ⟨b6, 0, none⟩) 1 1) 28 7 1 ([(.int .i64 cc1.op), (.int .u64 cc1.u), (.int .u64 cc1.v), (.int .i64 cc1.wt), (.int .i64 cc1.t), dv1, bv1]), blk b5 53 [(.int .u8 (((sumS ([l0, l1, l2, l3] ++ ((xs.drop k).take nn1))) / 16777216 % 256 : Nat) : Int)), (.int .u8 (((sumS ([l0, l1, l2, l3] ++ ((xs.drop k).take nn1))) / 65536 % 256 : Nat) : Int)), (.int .u8 (((sumS ([l0, l1, l2, l3] ++ ((xs.drop k).take nn1))) / 256 % 256 : Nat) : Int)), (.int .u8 (((sumS ([l0, l1, l2, l3] ++ ((xs.drop k).take nn1))) % 256 : Nat) : Int))], blk b4 28 [(.int .i64 cc1.op), (.int .u64 cc1.u), (.int .u64 cc1.v), (.int .i64 cc1.wt), (.int .i64 cc1.t), dv1, bv1], tsRes F1 [(cc1, dv1, bv1)], row v2 28 7 (ts.length + 1) ((ts.flatMap CT.cells) ++ ([(.int .i64 cc1.op), (.int .u64 cc1.u), (.int .u64 cc1.v), (.int .i64 cc1.wt), (.int .i64 cc1.t), dv1, bv1])), tsRes F ts, blk b2 53 [(.int .u8 l0), (.int .u8 l1), (.int .u8 l2), (.int .u8 l3)], blk b1 53 [(.int .u8 0), (.int .u8 0), (.int .u8 0), (.int .u8 0)]] w17 := hs18
       have hs19 := St.sub (L' := [blk b5 53 [(.int .u8 (((sumS ([l0, l1, l2, l3] ++ ((xs.drop k).take nn1))) / 16777216 % 256 : Nat) : Int)), (.int .u8 (((sumS ([l0, l1, l2, l3] ++ ((xs.drop k).take nn1))) / 65536 % 256 : Nat) : Int)), (.int .u8 (((sumS ([l0, l1, l2, l3] ++ ((xs.drop k).take nn1))) / 256 % 256 : Nat) : Int)), (.int .u8 (((sumS ([l0, l1, l2, l3] ++ ((xs.drop k).take nn1))) % 256 : Nat) : Int))], blk b4 28 [(.int .i64 cc1.op), (.int .u64 cc1.u), (.int .u64 cc1.v), (.int .i64 cc1.wt), (.int .i64 cc1.t), dv1, bv1], tsRes F1 [(cc1, dv1, bv1)], row v2 28 7 (ts.length + 1) ((ts.flatMap CT.cells) ++ ([(.int .i64 cc1.op), (.int .u64 cc1.u), (.int .u64 cc1.v), (.int .i64 cc1.wt), (.int .i64 cc1.t), dv1, bv1])), tsRes F ts, blk b2 53 [(.int .u8 l0), (.int .u8 l1), (.int .u8 l2), (.int .u8 l3)], blk b1 53 [(.int .u8 0), (.int .u8 0), (.int .u8 0), (.int .u8 0)]]) hs18 (List.Sublist.cons _ (List.Sublist.refl _))
       refine asg (v := v2) rfl rfl (wl_nil (tN ((hK17 _ _ ?_))))
       refine sq fun K18 hK18 => (rg (mv (v := (.int .i64 ((k : Int) + (nn1 : Int)))) rfl rfl (ar (a := (k : Int) + (nn1 : Int)) (b := 4) (c := ((k : Int) + (nn1 : Int)) + 4) rfl rfl rfl rfl (w64 (by omega)) (asg (v := (.int .i64 (((k : Int) + (nn1 : Int)) + 4))) rfl rfl (wl_nil (tN ((hK18 _ _ ?_))))))))
       refine rg (ldA (cs := [(.int .u8 (((sumS ([l0, l1, l2, l3] ++ ((xs.drop k).take nn1))) / 16777216 % 256 : Nat) : Int)), (.int .u8 (((sumS ([l0, l1, l2, l3] ++ ((xs.drop k).take nn1))) / 65536 % 256 : Nat) : Int)), (.int .u8 (((sumS ([l0, l1, l2, l3] ++ ((xs.drop k).take nn1))) / 256 % 256 : Nat) : Int)), (.int .u8 (((sumS ([l0, l1, l2, l3] ++ ((xs.drop k).take nn1))) % 256 : Nat) : Int))]) rfl rfl Try.underlying53 rfl ti53 rfl (St.blkCells hs19 (i := 0) (o := 0) (vs := [(.int .u8 (((sumS ([l0, l1, l2, l3] ++ ((xs.drop k).take nn1))) / 16777216 % 256 : Nat) : Int)), (.int .u8 (((sumS ([l0, l1, l2, l3] ++ ((xs.drop k).take nn1))) / 65536 % 256 : Nat) : Int)), (.int .u8 (((sumS ([l0, l1, l2, l3] ++ ((xs.drop k).take nn1))) / 256 % 256 : Nat) : Int)), (.int .u8 (((sumS ([l0, l1, l2, l3] ++ ((xs.drop k).take nn1))) % 256 : Nat) : Int))]) rfl rfl) (sto (v := (.agg #[(.int .u8 (((sumS ([l0, l1, l2, l3] ++ ((xs.drop k).take nn1))) / 16777216 % 256 : Nat) : Int)), (.int .u8 (((sumS ([l0, l1, l2, l3] ++ ((xs.drop k).take nn1))) / 65536 % 256 : Nat) : Int)), (.int .u8 (((sumS ([l0, l1, l2, l3] ++ ((xs.drop k).take nn1))) / 256 % 256 : Nat) : Int)), (.int .u8 (((sumS ([l0, l1, l2, l3] ++ ((xs.drop k).take nn1))) % 256 : Nat) : Int))])) (vs := [(.int .u8 (((sumS ([l0, l1, l2, l3] ++ ((xs.drop k).take nn1))) / 16777216 % 256 : Nat) : Int)), (.int .u8 (((sumS ([l0, l1, l2, l3] ++ ((xs.drop k).take nn1))) / 65536 % 256 : Nat) : Int)), (.int .u8 (((sumS ([l0, l1, l2, l3] ++ ((xs.drop k).take nn1))) / 256 % 256 : Nat) : Int)), (.int .u8 (((sumS ([l0, l1, l2, l3] ++ ((xs.drop k).take nn1))) % 256 : Nat) : Int))]) (cs' := [(.int .u8 (((sumS ([l0, l1, l2, l3] ++ ((xs.drop k).take nn1))) / 16777216 % 256 : Nat) : Int)), (.int .u8 (((sumS ([l0, l1, l2, l3] ++ ((xs.drop k).take nn1))) / 65536 % 256 : Nat) : Int)), (.int .u8 (((sumS ([l0, l1, l2, l3] ++ ((xs.drop k).take nn1))) / 256 % 256 : Nat) : Int)), (.int .u8 (((sumS ([l0, l1, l2, l3] ++ ((xs.drop k).take nn1))) % 256 : Nat) : Int))]) (L' := [blk b5 53 [(.int .u8 (((sumS ([l0, l1, l2, l3] ++ ((xs.drop k).take nn1))) / 16777216 % 256 : Nat) : Int)), (.int .u8 (((sumS ([l0, l1, l2, l3] ++ ((xs.drop k).take nn1))) / 65536 % 256 : Nat) : Int)), (.int .u8 (((sumS ([l0, l1, l2, l3] ++ ((xs.drop k).take nn1))) / 256 % 256 : Nat) : Int)), (.int .u8 (((sumS ([l0, l1, l2, l3] ++ ((xs.drop k).take nn1))) % 256 : Nat) : Int))], blk b4 28 [(.int .i64 cc1.op), (.int .u64 cc1.u), (.int .u64 cc1.v), (.int .i64 cc1.wt), (.int .i64 cc1.t), dv1, bv1], tsRes F1 [(cc1, dv1, bv1)], row v2 28 7 (ts.length + 1) ((ts.flatMap CT.cells) ++ ([(.int .i64 cc1.op), (.int .u64 cc1.u), (.int .u64 cc1.v), (.int .i64 cc1.wt), (.int .i64 cc1.t), dv1, bv1])), tsRes F ts, blk b2 53 [(.int .u8 (((sumS ([l0, l1, l2, l3] ++ ((xs.drop k).take nn1))) / 16777216 % 256 : Nat) : Int)), (.int .u8 (((sumS ([l0, l1, l2, l3] ++ ((xs.drop k).take nn1))) / 65536 % 256 : Nat) : Int)), (.int .u8 (((sumS ([l0, l1, l2, l3] ++ ((xs.drop k).take nn1))) / 256 % 256 : Nat) : Int)), (.int .u8 (((sumS ([l0, l1, l2, l3] ++ ((xs.drop k).take nn1))) % 256 : Nat) : Int))], blk b1 53 [(.int .u8 0), (.int .u8 0), (.int .u8 0), (.int .u8 0)]]) 5 rfl rfl rfl rfl ti53 rfl rfl hs19 rfl rfl rfl rfl (fun w18 hs20 => wl_nil (bN (tN (?_))))))
       have hs21 := St.sub (L' := [blk b5 53 [(.int .u8 (((sumS ([l0, l1, l2, l3] ++ ((xs.drop k).take nn1))) / 16777216 % 256 : Nat) : Int)), (.int .u8 (((sumS ([l0, l1, l2, l3] ++ ((xs.drop k).take nn1))) / 65536 % 256 : Nat) : Int)), (.int .u8 (((sumS ([l0, l1, l2, l3] ++ ((xs.drop k).take nn1))) / 256 % 256 : Nat) : Int)), (.int .u8 (((sumS ([l0, l1, l2, l3] ++ ((xs.drop k).take nn1))) % 256 : Nat) : Int))], tsRes F1 [(cc1, dv1, bv1)], row v2 28 7 (ts.length + 1) ((ts.flatMap CT.cells) ++ ([(.int .i64 cc1.op), (.int .u64 cc1.u), (.int .u64 cc1.v), (.int .i64 cc1.wt), (.int .i64 cc1.t), dv1, bv1])), tsRes F ts, blk b2 53 [(.int .u8 (((sumS ([l0, l1, l2, l3] ++ ((xs.drop k).take nn1))) / 16777216 % 256 : Nat) : Int)), (.int .u8 (((sumS ([l0, l1, l2, l3] ++ ((xs.drop k).take nn1))) / 65536 % 256 : Nat) : Int)), (.int .u8 (((sumS ([l0, l1, l2, l3] ++ ((xs.drop k).take nn1))) / 256 % 256 : Nat) : Int)), (.int .u8 (((sumS ([l0, l1, l2, l3] ++ ((xs.drop k).take nn1))) % 256 : Nat) : Int))], blk b1 53 [(.int .u8 0), (.int .u8 0), (.int .u8 0), (.int .u8 0)]]) hs20 (List.Sublist.cons_cons _ (List.Sublist.cons _ (List.Sublist.refl _)))
       have hs22 := St.sub (L' := [tsRes F1 [(cc1, dv1, bv1)], row v2 28 7 (ts.length + 1) ((ts.flatMap CT.cells) ++ ([(.int .i64 cc1.op), (.int .u64 cc1.u), (.int .u64 cc1.v), (.int .i64 cc1.wt), (.int .i64 cc1.t), dv1, bv1])), tsRes F ts, blk b2 53 [(.int .u8 (((sumS ([l0, l1, l2, l3] ++ ((xs.drop k).take nn1))) / 16777216 % 256 : Nat) : Int)), (.int .u8 (((sumS ([l0, l1, l2, l3] ++ ((xs.drop k).take nn1))) / 65536 % 256 : Nat) : Int)), (.int .u8 (((sumS ([l0, l1, l2, l3] ++ ((xs.drop k).take nn1))) / 256 % 256 : Nat) : Int)), (.int .u8 (((sumS ([l0, l1, l2, l3] ++ ((xs.drop k).take nn1))) % 256 : Nat) : Int))], blk b1 53 [(.int .u8 0), (.int .u8 0), (.int .u8 0), (.int .u8 0)]]) hs21 (List.Sublist.cons _ (List.Sublist.refl _))
       have hs23 : St _ [tsRes F1 [(cc1, dv1, bv1)], tsRes F ts, row v2 28 7 (ts.length + 1) ((ts.flatMap CT.cells) ++ ([(.int .i64 cc1.op), (.int .u64 cc1.u), (.int .u64 cc1.v), (.int .i64 cc1.wt), (.int .i64 cc1.t), dv1, bv1])), blk b2 53 [(.int .u8 (((sumS ([l0, l1, l2, l3] ++ ((xs.drop k).take nn1))) / 16777216 % 256 : Nat) : Int)), (.int .u8 (((sumS ([l0, l1, l2, l3] ++ ((xs.drop k).take nn1))) / 65536 % 256 : Nat) : Int)), (.int .u8 (((sumS ([l0, l1, l2, l3] ++ ((xs.drop k).take nn1))) / 256 % 256 : Nat) : Int)), (.int .u8 (((sumS ([l0, l1, l2, l3] ++ ((xs.drop k).take nn1))) % 256 : Nat) : Int))], blk b1 53 [(.int .u8 0), (.int .u8 0), (.int .u8 0), (.int .u8 0)]] w18 := St.perm hs22 (List.Perm.cons _ (List.Perm.swap _ _ _))
       have hs24 : St _ [tsRes F ts, tsRes F1 [(cc1, dv1, bv1)], row v2 28 7 (ts.length + 1) ((ts.flatMap CT.cells) ++ ([(.int .i64 cc1.op), (.int .u64 cc1.u), (.int .u64 cc1.v), (.int .i64 cc1.wt), (.int .i64 cc1.t), dv1, bv1])), blk b2 53 [(.int .u8 (((sumS ([l0, l1, l2, l3] ++ ((xs.drop k).take nn1))) / 16777216 % 256 : Nat) : Int)), (.int .u8 (((sumS ([l0, l1, l2, l3] ++ ((xs.drop k).take nn1))) / 65536 % 256 : Nat) : Int)), (.int .u8 (((sumS ([l0, l1, l2, l3] ++ ((xs.drop k).take nn1))) / 256 % 256 : Nat) : Int)), (.int .u8 (((sumS ([l0, l1, l2, l3] ++ ((xs.drop k).take nn1))) % 256 : Nat) : Int))], blk b1 53 [(.int .u8 0), (.int .u8 0), (.int .u8 0), (.int .u8 0)]] w18 := St.perm hs23 (List.Perm.swap _ _ _)
       have hs25 : St _ [tsRes (F ++ F1) (ts ++ [(cc1, dv1, bv1)]), row v2 28 7 (ts.length + 1) ((ts.flatMap CT.cells) ++ ([(.int .i64 cc1.op), (.int .u64 cc1.u), (.int .u64 cc1.v), (.int .i64 cc1.wt), (.int .i64 cc1.t), dv1, bv1])), blk b2 53 [(.int .u8 (((sumS ([l0, l1, l2, l3] ++ ((xs.drop k).take nn1))) / 16777216 % 256 : Nat) : Int)), (.int .u8 (((sumS ([l0, l1, l2, l3] ++ ((xs.drop k).take nn1))) / 65536 % 256 : Nat) : Int)), (.int .u8 (((sumS ([l0, l1, l2, l3] ++ ((xs.drop k).take nn1))) / 256 % 256 : Nat) : Int)), (.int .u8 (((sumS ([l0, l1, l2, l3] ++ ((xs.drop k).take nn1))) % 256 : Nat) : Int))], blk b1 53 [(.int .u8 0), (.int .u8 0), (.int .u8 0), (.int .u8 0)]] w18 := St.joinTs hs24
       have hs26 : St _ [row v2 28 7 (ts.length + 1) ((ts.flatMap CT.cells) ++ ([(.int .i64 cc1.op), (.int .u64 cc1.u), (.int .u64 cc1.v), (.int .i64 cc1.wt), (.int .i64 cc1.t), dv1, bv1])), tsRes (F ++ F1) (ts ++ [(cc1, dv1, bv1)]), blk b2 53 [(.int .u8 (((sumS ([l0, l1, l2, l3] ++ ((xs.drop k).take nn1))) / 16777216 % 256 : Nat) : Int)), (.int .u8 (((sumS ([l0, l1, l2, l3] ++ ((xs.drop k).take nn1))) / 65536 % 256 : Nat) : Int)), (.int .u8 (((sumS ([l0, l1, l2, l3] ++ ((xs.drop k).take nn1))) / 256 % 256 : Nat) : Int)), (.int .u8 (((sumS ([l0, l1, l2, l3] ++ ((xs.drop k).take nn1))) % 256 : Nat) : Int))], blk b1 53 [(.int .u8 0), (.int .u8 0), (.int .u8 0), (.int .u8 0)]] w18 := St.swap hs25
       have hE1 : (ts ++ ([(cc1, dv1, bv1)] : List CT)).length = ts.length + 1 := by simp
       have hE2 : (ts ++ ([(cc1, dv1, bv1)] : List CT)).flatMap CT.cells = ts.flatMap CT.cells ++ cmdCells cc1 dv1 bv1 := by rw [List.flatMap_append]; rfl
       have hs7 := hs26
       have hs7 : St _ (row v2 28 7 (ts.length + 1) (ts.flatMap CT.cells ++ cmdCells cc1 dv1 bv1) :: _) _ := hs7
       rw [← hE2, ← hE1] at hs7
       have hsum := of_decide_eq_true hz1
       obtain ⟨ff, rfl⟩ : ∃ q, f = q + 1 := ⟨f - 1, by omega⟩
       have hgo2 := hrd.go hg1 (by omega) (by rw [List.drop_drop, hy4]; exact hsum)
       exact again (ff, (k + (nn1 + 4)), (((sumS ([l0, l1, l2, l3] ++ ((xs.drop k).take nn1))) / 16777216 % 256 : Nat) : Int), (((sumS ([l0, l1, l2, l3] ++ ((xs.drop k).take nn1))) / 65536 % 256 : Nat) : Int), (((sumS ([l0, l1, l2, l3] ++ ((xs.drop k).take nn1))) / 256 % 256 : Nat) : Int), (((sumS ([l0, l1, l2, l3] ++ ((xs.drop k).take nn1))) % 256 : Nat) : Int), v2, (F ++ F1), (ts ++ [(cc1, dv1, bv1)])) ⟨rfl, rfl, rfl, eqI (by first | rfl | omega), rfl, trivial⟩ (⟨hs7, by omega, by simp only [List.length_drop] at hfl ⊢; omega, by rw [List.map_append]; exact hgo2, bytes4_in _, by rw [hE1]; omega⟩) (Nat.lt_succ_self _)
theorem rRead_ok (v : Value) (xs : List Int) (w : World) (hv : Ints .u8 (fun _ => True) w v xs) (hl0 : xs.length ≤ 100000000000) :
 CR Try.prog 19 #[v] w (fun r w' => ∃ lv, r = .tuple #[lv, .int .i64 ((readS xs).2.1 : Int)] ∧ Cmds (fun b => w.heap.size ≤ b) w' lv (readS xs).1 ∧ Chg [] w w') := by
 have hv := (hv.old (by decide)).mono (ok' := fun b => b < w.heap.size) (fun _ h => h.2)
 have hlen := hv.len
 refine enter (vs := [v]) Try.func19 rfl Try.ntmps19 rfl ?_
 have hst0 := St.init w
 refine sq fun K1 hK1 => (rg (asg (v := (.slice none 0 0)) rfl rfl (asg (v := (.int .i64 0)) rfl rfl (wl_nil (tN ((hK1 _ _ ?_)))))))
 refine sq fun K2 hK2 => (rg (mv (v := v) rfl rfl (clF (vl := [v]) rfl rfl ent26 (rread_ok v xs w (Sl.any hv) hl0) ?_)))
 rintro _ w1 ⟨lv, l0, l1, l2, l3, rfl, hlast, hcm, hq⟩
 have hs1 : St _ [] w1 := St.grow hst0 hq
 have hs2 : St _ [] w1 := hs1.rebase
 refine mv (v := (.tuple #[lv, (.int .i64 ((readS xs).2.1 : Int)), (.agg #[(.int .u8 l0), (.int .u8 l1), (.int .u8 l2), (.int .u8 l3)])])) rfl rfl (ex (vs := #[lv, (.int .i64 ((readS xs).2.1 : Int)), (.agg #[(.int .u8 l0), (.int .u8 l1), (.int .u8 l2), (.int .u8 l3)])]) (v := lv) rfl rfl rfl (ex (vs := #[lv, (.int .i64 ((readS xs).2.1 : Int)), (.agg #[(.int .u8 l0), (.int .u8 l1), (.int .u8 l2), (.int .u8 l3)])]) (v := (.int .i64 ((readS xs).2.1 : Int))) rfl rfl rfl (ex (vs := #[lv, (.int .i64 ((readS xs).2.1 : Int)), (.agg #[(.int .u8 l0), (.int .u8 l1), (.int .u8 l2), (.int .u8 l3)])]) (v := (.agg #[(.int .u8 l0), (.int .u8 l1), (.int .u8 l2), (.int .u8 l3)])) rfl rfl rfl (al (cs := [(.int .u8 0), (.int .u8 0), (.int .u8 0), (.int .u8 0)]) rfl ti53 rfl hs2 (fun b1 w2 hn1 hc1 hs3 => asg (v := lv) rfl rfl (asg (v := (.int .i64 ((readS xs).2.1 : Int))) rfl rfl (sto (v := (.agg #[(.int .u8 l0), (.int .u8 l1), (.int .u8 l2), (.int .u8 l3)])) (vs := [(.int .u8 l0), (.int .u8 l1), (.int .u8 l2), (.int .u8 l3)]) (cs' := [(.int .u8 l0), (.int .u8 l1), (.int .u8 l2), (.int .u8 l3)]) (L' := [blk b1 53 [(.int .u8 l0), (.int .u8 l1), (.int .u8 l2), (.int .u8 l3)]]) 0 rfl rfl rfl rfl ti53 rfl rfl hs3 rfl rfl rfl rfl ?_)))))))
 intro w3 hs4
 refine wl_nil (tN ((hK2 _ _ ?_)))
 refine sq fun K3 hK3 => (rg (mv (v := lv) rfl rfl (mv (v := (.int .i64 ((readS xs).2.1 : Int))) rfl rfl (asg (v := lv) rfl rfl (asg (v := (.int .i64 ((readS xs).2.1 : Int))) rfl rfl (wl_nil (tN ((hK3 _ _ ?_)))))))))
 refine rt (ret2 (v := lv) (v' := (.int .i64 ((readS xs).2.1 : Int))) Try.results19 rfl rfl ?_)
 exact ⟨lv, rfl, (St.cmdsB hs4 (X := feet []) (by simp) hcm (fun b hb hf => absurd (St.lt hst0 b hf) (by omega))).monoC (fun b hb => Nat.le_trans (St.size hst0 (w0 := w) (X := []) (by simp)) hb), hs4.chg (by simp)⟩
theorem rRepair_ok (v : Value) (xs : List Int) (w : World) (hv : Ints .u8 (fun _ => True) w v xs) (hl0 : xs.length ≤ 100000000000) :
 CR Try.prog 21 #[v] w (fun r w' => Fresh .u8 w w' r 5 (xs.take (readS xs).2.1) ∧ Chg [] w w') := by
 have hv := (hv.old (by decide)).mono (ok' := fun b => b < w.heap.size) (fun _ h => h.2)
 have hlen := hv.len
 have hrl := read_le xs
 refine enter (vs := [v]) Try.func21 rfl Try.ntmps21 rfl ?_
 have hst0 := St.init w
 refine sq fun K1 hK1 => (rg (asg (v := (.slice none 0 0)) rfl rfl (wl_nil (tN ((hK1 _ _ ?_))))))
 refine sq fun K2 hK2 => (rg (mv (v := v) rfl rfl (clF (vl := [v]) rfl rfl ent26 (rread_ok v xs w (Sl.any hv) hl0) ?_)))
 rintro _ w1 ⟨lv, l0, l1, l2, l3, rfl, hlast, hcm, hq⟩
 have hs1 : St _ [] w1 := St.grow hst0 hq
 refine mv (v := (.tuple #[lv, (.int .i64 ((readS xs).2.1 : Int)), (.agg #[(.int .u8 l0), (.int .u8 l1), (.int .u8 l2), (.int .u8 l3)])])) rfl rfl (ex (vs := #[lv, (.int .i64 ((readS xs).2.1 : Int)), (.agg #[(.int .u8 l0), (.int .u8 l1), (.int .u8 l2), (.int .u8 l3)])]) (v := lv) rfl rfl rfl (ex (vs := #[lv, (.int .i64 ((readS xs).2.1 : Int)), (.agg #[(.int .u8 l0), (.int .u8 l1), (.int .u8 l2), (.int .u8 l3)])]) (v := (.int .i64 ((readS xs).2.1 : Int))) rfl rfl rfl (ex (vs := #[lv, (.int .i64 ((readS xs).2.1 : Int)), (.agg #[(.int .u8 l0), (.int .u8 l1), (.int .u8 l2), (.int .u8 l3)])]) (v := (.agg #[(.int .u8 l0), (.int .u8 l1), (.int .u8 l2), (.int .u8 l3)])) rfl rfl rfl (al (cs := [(.int .u8 0), (.int .u8 0), (.int .u8 0), (.int .u8 0)]) rfl ti53 rfl hs1 (fun b1 w2 hn1 hc1 hs2 => asg (v := lv) rfl rfl (asg (v := (.int .i64 ((readS xs).2.1 : Int))) rfl rfl (sto (v := (.agg #[(.int .u8 l0), (.int .u8 l1), (.int .u8 l2), (.int .u8 l3)])) (vs := [(.int .u8 l0), (.int .u8 l1), (.int .u8 l2), (.int .u8 l3)]) (cs' := [(.int .u8 l0), (.int .u8 l1), (.int .u8 l2), (.int .u8 l3)]) (L' := [blk b1 53 [(.int .u8 l0), (.int .u8 l1), (.int .u8 l2), (.int .u8 l3)]]) 0 rfl rfl rfl rfl ti53 rfl rfl hs2 rfl rfl rfl rfl ?_)))))))
 intro w3 hs3
 refine wl_nil (tN ((hK2 _ _ ?_)))
 refine sq fun K3 hK3 => (rg (bsv (vs := []) (cs := []) rfl rfl Try.underlying22 ti5 rfl (by intro v hv; simp at hv) rfl rfl rfl hs3 ?_))
 intro b2 w4 hn2 hc2 hs4
 have hs4 : St _ [rowI .u8 (.slice (some ⟨b2, 0, none⟩) 0 0) 5 ([]), blk b1 53 [(.int .u8 l0), (.int .u8 l1), (.int .u8 l2), (.int .u8 l3)]] w4 := hs4
 refine mv (v := v) rfl rfl (mv (v := (.int .i64 ((readS xs).2.1 : Int))) rfl rfl (slI (l := 0) (h := (readS xs).2.1) rfl rfl Try.underlying22 ti5 hv rfl ⟨_, eqI (by omega)⟩ (by first | omega | simp) (by first | omega | simp) (fun v1 hv1 => apdI (k := .u8) (ys := []) (zs := ((xs).take ((readS xs).2.1)).drop 0) (LL := fun v2 => [rowI .u8 v2 5 (([]) ++ (((xs).take ((readS xs).2.1)).drop 0)), blk b1 53 [(.int .u8 l0), (.int .u8 l1), (.int .u8 l2), (.int .u8 l3)]]) 0 rfl rfl rfl Try.underlying22 ti5 rfl hs4 rfl (Ints.src (St.ints0 hs4 (by simp) hv1)) (by simp; omega) (by simp; omega) (fun _ => rfl) ?_)))
 intro v2 w5 hs5 hc3
 have hs5 : St _ [rowI .u8 v2 5 (([]) ++ (((xs).take ((readS xs).2.1)).drop 0)), blk b1 53 [(.int .u8 l0), (.int .u8 l1), (.int .u8 l2), (.int .u8 l3)]] w5 := hs5
 refine asg (v := v2) rfl rfl (wl_nil (tN ((hK3 _ _ ?_))))
 refine rt (ret1 (v := v2) Try.results21 rfl ?_)
 exact ⟨St.endFresh hs5 (by simp), hs5.chg (by simp)⟩
theorem rAppend_ok (v : Value) (xs : List Int) (w : World) (hv : Ints .u8 (fun _ => True) w v xs) (hl0 : xs.length ≤ 100000000000) (c : Cmd) (dv bv : Value) (hc : c.ok) (hd : Ints .u64 (fun _ => True) w dv c.dr) (hb : Ints .i64 (fun _ => True) w bv c.bo) :
 CR Try.prog 11 #[v, (.agg #[(.int .i64 c.op), (.int .u64 c.u), (.int .u64 c.v), (.int .i64 c.wt), (.int .i64 c.t), dv, bv])] w (fun r w' => ∃ v', r = .tuple #[v', .int .i64 (appO xs c).2] ∧ Fresh .u8 w w' v' 5 (appO xs c).1 ∧ Chg [] w w') := by
 have hv := (hv.old (by decide)).mono (ok' := fun b => b < w.heap.size) (fun _ h => h.2)
 have hlen := hv.len
 have hd := (hd.old (by decide)).mono (ok' := fun b => b < w.heap.size) (fun _ h => h.2)
 have hb := (hb.old (by decide)).mono (ok' := fun b => b < w.heap.size) (fun _ h => h.2)
 have hrl := read_le xs
 refine enter (vs := [v, (.agg #[(.int .i64 c.op), (.int .u64 c.u), (.int .u64 c.v), (.int .i64 c.wt), (.int .i64 c.t), dv, bv])]) Try.func11 rfl Try.ntmps11 rfl ?_
 have hst0 := St.init w
 refine sq fun K1 hK1 => (rg (bx (v := (.agg #[(.int .i64 c.op), (.int .u64 c.u), (.int .u64 c.v), (.int .i64 c.wt), (.int .i64 c.t), dv, bv])) (cs := [(.int .i64 c.op), (.int .u64 c.u), (.int .u64 c.v), (.int .i64 c.wt), (.int .i64 c.t), dv, bv]) rfl rfl rfl hst0 (fun b1 w1 hn1 hc1 hs1 => asg (v := (.slice none 0 0)) rfl rfl (asg (v := (.int .i64 0)) rfl rfl (wl_nil (tN ((hK1 _ _ ?_))))))))
 refine sq fun K2 hK2 => (rg (ldA (cs := [(.int .i64 c.op), (.int .u64 c.u), (.int .u64 c.v), (.int .i64 c.wt), (.int .i64 c.t), dv, bv]) rfl rfl Try.underlying28 rfl ti28 rfl (St.blkCells hs1 (i := 0) (o := 0) (vs := [(.int .i64 c.op), (.int .u64 c.u), (.int .u64 c.v), (.int .i64 c.wt), (.int .i64 c.t), dv, bv]) rfl rfl) (clF (vl := [(.agg #[(.int .i64 c.op), (.int .u64 c.u), (.int .u64 c.v), (.int .i64 c.wt), (.int .i64 c.t), dv, bv])]) rfl rfl ent25 (rPut_ok c dv bv w1 hc (Sl.any (St.ints0 hs1 (by simp) hd)) (Sl.any (St.ints0 hs1 (by simp) hb))) ?_)))
 rintro _ w2 ⟨vf, rfl, hf, hq⟩
 have hs2 : St _ [rowI .u8 vf 5 (frameO c), blk b1 28 [(.int .i64 c.op), (.int .u64 c.u), (.int .u64 c.v), (.int .i64 c.wt), (.int .i64 c.t), dv, bv]] w2 := St.addFresh hs1 hq hf
 refine mv (v := (.tuple #[vf, (.int .i64 (checkS c))])) rfl rfl (ex (vs := #[vf, (.int .i64 (checkS c))]) (v := vf) rfl rfl rfl (ex (vs := #[vf, (.int .i64 (checkS c))]) (v := (.int .i64 (checkS c))) rfl rfl rfl (asg (v := vf) rfl rfl (asg (v := (.int .i64 (checkS c))) rfl rfl (wl_nil (tN ((hK2 _ _ ?_))))))))
 refine sq fun K3 hK3 => (sq fun K4 hK4 => (rg (mv (v := (.int .i64 (checkS c))) rfl rfl ?_)))
 by_cases h1 : (checkS c : Int) = (0 : Int)
 · refine cmp (a := checkS c) (b := 0) rfl rfl rfl (c_nne h1) ?_
   have hk0 : checkS c = 0 := h1
   have hfl9 := frame_len hc hk0
   have hfp := frame_pos c
   have hfe : (frameO c).length = (frameS c).length := by rw [frameO_ok hk0]
   have hfin : ∀ y ∈ frameO c, InK .u8 y := by rw [frameO_ok hk0]; exact frame_in hc hk0
   refine wl_nil (tN ((hK4 _ _ ?_)))
   refine cdF rfl (sp (tN ((hK3 _ _ ?_))))
   refine sq fun K5 hK5 => (rg (mv (v := v) rfl rfl (clF (vl := [v]) rfl rfl ent26 (rread_ok v xs w2 (Sl.any (St.ints0 hs2 (by simp) hv)) hl0) ?_)))
   rintro _ w3 ⟨lv, l0, l1, l2, l3, rfl, hlast, hcm, hq⟩
   have hs3 : St _ [rowI .u8 vf 5 (frameO c), blk b1 28 [(.int .i64 c.op), (.int .u64 c.u), (.int .u64 c.v), (.int .i64 c.wt), (.int .i64 c.t), dv, bv]] w3 := St.grow hs2 hq
   refine mv (v := (.tuple #[lv, (.int .i64 ((readS xs).2.1 : Int)), (.agg #[(.int .u8 l0), (.int .u8 l1), (.int .u8 l2), (.int .u8 l3)])])) rfl rfl (ex (vs := #[lv, (.int .i64 ((readS xs).2.1 : Int)), (.agg #[(.int .u8 l0), (.int .u8 l1), (.int .u8 l2), (.int .u8 l3)])]) (v := lv) rfl rfl rfl (ex (vs := #[lv, (.int .i64 ((readS xs).2.1 : Int)), (.agg #[(.int .u8 l0), (.int .u8 l1), (.int .u8 l2), (.int .u8 l3)])]) (v := (.int .i64 ((readS xs).2.1 : Int))) rfl rfl rfl (ex (vs := #[lv, (.int .i64 ((readS xs).2.1 : Int)), (.agg #[(.int .u8 l0), (.int .u8 l1), (.int .u8 l2), (.int .u8 l3)])]) (v := (.agg #[(.int .u8 l0), (.int .u8 l1), (.int .u8 l2), (.int .u8 l3)])) rfl rfl rfl (al (cs := [(.int .u8 0), (.int .u8 0), (.int .u8 0), (.int .u8 0)]) rfl ti53 rfl hs3 (fun b2 w4 hn2 hc2 hs4 => asg (v := lv) rfl rfl (asg (v := (.int .i64 ((readS xs).2.1 : Int))) rfl rfl (sto (v := (.agg #[(.int .u8 l0), (.int .u8 l1), (.int .u8 l2), (.int .u8 l3)])) (vs := [(.int .u8 l0), (.int .u8 l1), (.int .u8 l2), (.int .u8 l3)]) (cs' := [(.int .u8 l0), (.int .u8 l1), (.int .u8 l2), (.int .u8 l3)]) (L' := [blk b2 53 [(.int .u8 l0), (.int .u8 l1), (.int .u8 l2), (.int .u8 l3)], rowI .u8 vf 5 (frameO c), blk b1 28 [(.int .i64 c.op), (.int .u64 c.u), (.int .u64 c.v), (.int .i64 c.wt), (.int .i64 c.t), dv, bv]]) 0 rfl rfl rfl rfl ti53 rfl rfl hs4 rfl rfl rfl rfl ?_)))))))
   intro w5 hs5
   refine wl_nil (tN ((hK5 _ _ ?_)))
   refine sq fun K6 hK6 => (sq fun K7 hK7 => (rg (mv (v := (.int .i64 ((readS xs).2.1 : Int))) rfl rfl (mv (v := v) rfl rfl (lenI (v := v) rfl rfl Try.underlying22 hv ?_)))))
   by_cases h2 : (((readS xs).2.1 : Int) : Int) = ((xs.length : Int) : Int)
   · refine cmp (a := ((readS xs).2.1 : Int)) (b := (xs.length : Int)) rfl rfl rfl (c_nne h2) (wl_nil (tN ((hK7 _ _ ?_))))
     refine cdF rfl (sp (tN ((hK6 _ _ ?_))))
     refine sq fun K8 hK8 => (rg ?_)
     have hin4 : ∀ y ∈ [l0, l1, l2, l3], InK .u8 y := by rw [← hlast]; exact read_last_in xs (fun y hy => Ints.in hv hy)
     refine ldA (cs := [(.int .u8 l0), (.int .u8 l1), (.int .u8 l2), (.int .u8 l3)]) rfl rfl Try.underlying53 rfl ti53 rfl (St.blkCells hs5 (i := 0) (o := 0) (vs := [(.int .u8 l0), (.int .u8 l1), (.int .u8 l2), (.int .u8 l3)]) rfl rfl) (mv (v := vf) rfl rfl (clF (vl := [(.agg #[(.int .u8 l0), (.int .u8 l1), (.int .u8 l2), (.int .u8 l3)]), vf]) rfl rfl ent27 (rsum_ok l0 l1 l2 l3 hin4 vf (frameO c) w5 (St.rowInts hs5 (i := 1) rfl hfin).any (by omega)) ?_))
     rintro _ w6 ⟨rfl, hq⟩
     have hs6 : St _ [blk b2 53 [(.int .u8 l0), (.int .u8 l1), (.int .u8 l2), (.int .u8 l3)], rowI .u8 vf 5 (frameO c), blk b1 28 [(.int .i64 c.op), (.int .u64 c.u), (.int .u64 c.v), (.int .i64 c.wt), (.int .i64 c.t), dv, bv]] w6 := St.grow hs5 hq
     refine al (cs := [(.int .u8 0), (.int .u8 0), (.int .u8 0), (.int .u8 0)]) rfl ti53 rfl hs6 (fun b3 w7 hn3 hc3 hs7 => sto (v := (.agg #[(.int .u8 (((sumS ([l0, l1, l2, l3] ++ frameO c)) / 16777216 % 256 : Nat) : Int)), (.int .u8 (((sumS ([l0, l1, l2, l3] ++ frameO c)) / 65536 % 256 : Nat) : Int)), (.int .u8 (((sumS ([l0, l1, l2, l3] ++ frameO c)) / 256 % 256 : Nat) : Int)), (.int .u8 (((sumS ([l0, l1, l2, l3] ++ frameO c)) % 256 : Nat) : Int))])) (vs := [(.int .u8 (((sumS ([l0, l1, l2, l3] ++ frameO c)) / 16777216 % 256 : Nat) : Int)), (.int .u8 (((sumS ([l0, l1, l2, l3] ++ frameO c)) / 65536 % 256 : Nat) : Int)), (.int .u8 (((sumS ([l0, l1, l2, l3] ++ frameO c)) / 256 % 256 : Nat) : Int)), (.int .u8 (((sumS ([l0, l1, l2, l3] ++ frameO c)) % 256 : Nat) : Int))]) (cs' := [(.int .u8 (((sumS ([l0, l1, l2, l3] ++ frameO c)) / 16777216 % 256 : Nat) : Int)), (.int .u8 (((sumS ([l0, l1, l2, l3] ++ frameO c)) / 65536 % 256 : Nat) : Int)), (.int .u8 (((sumS ([l0, l1, l2, l3] ++ frameO c)) / 256 % 256 : Nat) : Int)), (.int .u8 (((sumS ([l0, l1, l2, l3] ++ frameO c)) % 256 : Nat) : Int))]) (L' := [blk b3 53 [(.int .u8 (((sumS ([l0, l1, l2, l3] ++ frameO c)) / 16777216 % 256 : Nat) : Int)), (.int .u8 (((sumS ([l0, l1, l2, l3] ++ frameO c)) / 65536 % 256 : Nat) : Int)), (.int .u8 (((sumS ([l0, l1, l2, l3] ++ frameO c)) / 256 % 256 : Nat) : Int)), (.int .u8 (((sumS ([l0, l1, l2, l3] ++ frameO c)) % 256 : Nat) : Int))], blk b2 53 [(.int .u8 l0), (.int .u8 l1), (.int .u8 l2), (.int .u8 l3)], rowI .u8 vf 5 (frameO c), blk b1 28 [(.int .i64 c.op), (.int .u64 c.u), (.int .u64 c.v), (.int .i64 c.wt), (.int .i64 c.t), dv, bv]]) 0 rfl rfl rfl rfl ti53 rfl rfl hs7 rfl rfl rfl rfl (fun w8 hs8 => wl_nil (tN ((hK8 _ _ ?_)))))
     refine sq fun K9 hK9 => (rg (bsv (vs := []) (cs := []) rfl rfl Try.underlying22 ti5 rfl (by intro v hv; simp at hv) rfl rfl rfl hs8 ?_))
     intro b4 w9 hn4 hc4 hs9
     have hs9 : St _ [rowI .u8 (.slice (some ⟨b4, 0, none⟩) 0 0) 5 ([]), blk b3 53 [(.int .u8 (((sumS ([l0, l1, l2, l3] ++ frameO c)) / 16777216 % 256 : Nat) : Int)), (.int .u8 (((sumS ([l0, l1, l2, l3] ++ frameO c)) / 65536 % 256 : Nat) : Int)), (.int .u8 (((sumS ([l0, l1, l2, l3] ++ frameO c)) / 256 % 256 : Nat) : Int)), (.int .u8 (((sumS ([l0, l1, l2, l3] ++ frameO c)) % 256 : Nat) : Int))], blk b2 53 [(.int .u8 l0), (.int .u8 l1), (.int .u8 l2), (.int .u8 l3)], rowI .u8 vf 5 (frameO c), blk b1 28 [(.int .i64 c.op), (.int .u64 c.u), (.int .u64 c.v), (.int .i64 c.wt), (.int .i64 c.t), dv, bv]] w9 := hs9
     refine mv (v := v) rfl rfl (apdI (k := .u8) (ys := []) (zs := xs) (LL := fun v1 => [rowI .u8 v1 5 (([]) ++ xs), blk b3 53 [(.int .u8 (((sumS ([l0, l1, l2, l3] ++ frameO c)) / 16777216 % 256 : Nat) : Int)), (.int .u8 (((sumS ([l0, l1, l2, l3] ++ frameO c)) / 65536 % 256 : Nat) : Int)), (.int .u8 (((sumS ([l0, l1, l2, l3] ++ frameO c)) / 256 % 256 : Nat) : Int)), (.int .u8 (((sumS ([l0, l1, l2, l3] ++ frameO c)) % 256 : Nat) : Int))], blk b2 53 [(.int .u8 l0), (.int .u8 l1), (.int .u8 l2), (.int .u8 l3)], rowI .u8 vf 5 (frameO c), blk b1 28 [(.int .i64 c.op), (.int .u64 c.u), (.int .u64 c.v), (.int .i64 c.wt), (.int .i64 c.t), dv, bv]]) 0 rfl rfl rfl Try.underlying22 ti5 rfl hs9 rfl (Ints.src (St.ints0 hs9 (by simp) hv)) (by simp only [List.length_append, List.length_cons, List.length_nil] at *; omega) (by simp only [List.length_append, List.length_cons, List.length_nil] at *; omega) (fun _ => rfl) ?_)
     intro v1 w10 hs10 hc5
     have hs10 : St _ [rowI .u8 v1 5 (([]) ++ xs), blk b3 53 [(.int .u8 (((sumS ([l0, l1, l2, l3] ++ frameO c)) / 16777216 % 256 : Nat) : Int)), (.int .u8 (((sumS ([l0, l1, l2, l3] ++ frameO c)) / 65536 % 256 : Nat) : Int)), (.int .u8 (((sumS ([l0, l1, l2, l3] ++ frameO c)) / 256 % 256 : Nat) : Int)), (.int .u8 (((sumS ([l0, l1, l2, l3] ++ frameO c)) % 256 : Nat) : Int))], blk b2 53 [(.int .u8 l0), (.int .u8 l1), (.int .u8 l2), (.int .u8 l3)], rowI .u8 vf 5 (frameO c), blk b1 28 [(.int .i64 c.op), (.int .u64 c.u), (.int .u64 c.v), (.int .i64 c.wt), (.int .i64 c.t), dv, bv]] w10 := hs10
     refine mv (v := vf) rfl rfl (apdI (k := .u8) (ys := ([]) ++ xs) (zs := frameO c) (LL := fun v2 => [rowI .u8 v2 5 ((([]) ++ xs) ++ (frameO c)), blk b3 53 [(.int .u8 (((sumS ([l0, l1, l2, l3] ++ frameO c)) / 16777216 % 256 : Nat) : Int)), (.int .u8 (((sumS ([l0, l1, l2, l3] ++ frameO c)) / 65536 % 256 : Nat) : Int)), (.int .u8 (((sumS ([l0, l1, l2, l3] ++ frameO c)) / 256 % 256 : Nat) : Int)), (.int .u8 (((sumS ([l0, l1, l2, l3] ++ frameO c)) % 256 : Nat) : Int))], blk b2 53 [(.int .u8 l0), (.int .u8 l1), (.int .u8 l2), (.int .u8 l3)], rowI .u8 vf 5 (frameO c), blk b1 28 [(.int .i64 c.op), (.int .u64 c.u), (.int .u64 c.v), (.int .i64 c.wt), (.int .i64 c.t), dv, bv]]) 0 rfl rfl rfl Try.underlying22 ti5 rfl hs10 rfl (St.rowSrc hs10 (i := 3) rfl) (by simp only [List.length_append, List.length_cons, List.length_nil] at *; omega) (by simp only [List.length_append, List.length_cons, List.length_nil] at *; omega) (fun _ => rfl) ?_)
     intro v2 w11 hs11 hc6
     have hs11 : St _ [rowI .u8 v2 5 ((([]) ++ xs) ++ (frameO c)), blk b3 53 [(.int .u8 (((sumS ([l0, l1, l2, l3] ++ frameO c)) / 16777216 % 256 : Nat) : Int)), (.int .u8 (((sumS ([l0, l1, l2, l3] ++ frameO c)) / 65536 % 256 : Nat) : Int)), (.int .u8 (((sumS ([l0, l1, l2, l3] ++ frameO c)) / 256 % 256 : Nat) : Int)), (.int .u8 (((sumS ([l0, l1, l2, l3] ++ frameO c)) % 256 : Nat) : Int))], blk b2 53 [(.int .u8 l0), (.int .u8 l1), (.int .u8 l2), (.int .u8 l3)], rowI .u8 vf 5 (frameO c), blk b1 28 [(.int .i64 c.op), (.int .u64 c.u), (.int .u64 c.v), (.int .i64 c.wt), (.int .i64 c.t), dv, bv]] w11 := hs11
     refine asg (v := v2) rfl rfl (wl_nil (tN ((hK9 _ _ ?_))))
     refine sq fun K10 hK10 => (rg (mv (v := v2) rfl rfl (ixArr (o := 0) (o' := 0) (i := 0) rfl rfl rfl Try.underlying53 ti5 (by decide) rfl (ld (a := ⟨b3, 0, none⟩) (v := (.int .u8 (((sumS ([l0, l1, l2, l3] ++ frameO c)) / 16777216 % 256 : Nat) : Int))) rfl rfl Try.underlying5 rfl (St.blkCell hs11 (i := 1) rfl rfl) (ixArr (o := 0) (o' := 1) (i := 1) rfl rfl rfl Try.underlying53 ti5 (by decide) rfl (ld (a := ⟨b3, 1, none⟩) (v := (.int .u8 (((sumS ([l0, l1, l2, l3] ++ frameO c)) / 65536 % 256 : Nat) : Int))) rfl rfl Try.underlying5 rfl (St.blkCell hs11 (i := 1) rfl rfl) (ixArr (o := 0) (o' := 2) (i := 2) rfl rfl rfl Try.underlying53 ti5 (by decide) rfl ?_)))))))
     refine ld (a := ⟨b3, 2, none⟩) (v := (.int .u8 (((sumS ([l0, l1, l2, l3] ++ frameO c)) / 256 % 256 : Nat) : Int))) rfl rfl Try.underlying5 rfl (St.blkCell hs11 (i := 1) rfl rfl) (ixArr (o := 0) (o' := 3) (i := 3) rfl rfl rfl Try.underlying53 ti5 (by decide) rfl (ld (a := ⟨b3, 3, none⟩) (v := (.int .u8 (((sumS ([l0, l1, l2, l3] ++ frameO c)) % 256 : Nat) : Int))) rfl rfl Try.underlying5 rfl (St.blkCell hs11 (i := 1) rfl rfl) (bsv (vs := [(.int .u8 (((sumS ([l0, l1, l2, l3] ++ frameO c)) / 16777216 % 256 : Nat) : Int)), (.int .u8 (((sumS ([l0, l1, l2, l3] ++ frameO c)) / 65536 % 256 : Nat) : Int)), (.int .u8 (((sumS ([l0, l1, l2, l3] ++ frameO c)) / 256 % 256 : Nat) : Int)), (.int .u8 (((sumS ([l0, l1, l2, l3] ++ frameO c)) % 256 : Nat) : Int))]) (cs := [(.int .u8 (((sumS ([l0, l1, l2, l3] ++ frameO c)) / 16777216 % 256 : Nat) : Int)), (.int .u8 (((sumS ([l0, l1, l2, l3] ++ frameO c)) / 65536 % 256 : Nat) : Int)), (.int .u8 (((sumS ([l0, l1, l2, l3] ++ frameO c)) / 256 % 256 : Nat) : Int)), (.int .u8 (((sumS ([l0, l1, l2, l3] ++ frameO c)) % 256 : Nat) : Int))]) rfl rfl Try.underlying22 ti5 rfl (by simp [Value.cells]) rfl rfl rfl hs11 ?_)))
     intro b5 w12 hn5 hc7 hs12
     have hs12 : St _ [rowI .u8 (.slice (some ⟨b5, 0, none⟩) 4 4) 5 ([(((sumS ([l0, l1, l2, l3] ++ frameO c)) / 16777216 % 256 : Nat) : Int), (((sumS ([l0, l1, l2, l3] ++ frameO c)) / 65536 % 256 : Nat) : Int), (((sumS ([l0, l1, l2, l3] ++ frameO c)) / 256 % 256 : Nat) : Int), (((sumS ([l0, l1, l2, l3] ++ frameO c)) % 256 : Nat) : Int)]), rowI .u8 v2 5 ((([]) ++ xs) ++ (frameO c)), blk b3 53 [(.int .u8 (((sumS ([l0, l1, l2, l3] ++ frameO c)) / 16777216 % 256 : Nat) : Int)), (.int .u8 (((sumS ([l0, l1, l2, l3] ++ frameO c)) / 65536 % 256 : Nat) : Int)), (.int .u8 (((sumS ([l0, l1, l2, l3] ++ frameO c)) / 256 % 256 : Nat) : Int)), (.int .u8 (((sumS ([l0, l1, l2, l3] ++ frameO c)) % 256 : Nat) : Int))], blk b2 53 [(.int .u8 l0), (.int .u8 l1), (.int .u8 l2), (.int .u8 l3)], rowI .u8 vf 5 (frameO c), blk b1 28 [(.int .i64 c.op), (.int .u64 c.u), (.int .u64 c.v), (.int .i64 c.wt), (.int .i64 c.t), dv, bv]] w12 := hs12
     refine apdI (k := .u8) (ys := (([]) ++ xs) ++ (frameO c)) (zs := [(((sumS ([l0, l1, l2, l3] ++ frameO c)) / 16777216 % 256 : Nat) : Int), (((sumS ([l0, l1, l2, l3] ++ frameO c)) / 65536 % 256 : Nat) : Int), (((sumS ([l0, l1, l2, l3] ++ frameO c)) / 256 % 256 : Nat) : Int), (((sumS ([l0, l1, l2, l3] ++ frameO c)) % 256 : Nat) : Int)]) (LL := fun v3 => [rowI .u8 (.slice (some ⟨b5, 0, none⟩) 4 4) 5 ([(((sumS ([l0, l1, l2, l3] ++ frameO c)) / 16777216 % 256 : Nat) : Int), (((sumS ([l0, l1, l2, l3] ++ frameO c)) / 65536 % 256 : Nat) : Int), (((sumS ([l0, l1, l2, l3] ++ frameO c)) / 256 % 256 : Nat) : Int), (((sumS ([l0, l1, l2, l3] ++ frameO c)) % 256 : Nat) : Int)]), rowI .u8 v3 5 (((([]) ++ xs) ++ (frameO c)) ++ ([(((sumS ([l0, l1, l2, l3] ++ frameO c)) / 16777216 % 256 : Nat) : Int), (((sumS ([l0, l1, l2, l3] ++ frameO c)) / 65536 % 256 : Nat) : Int), (((sumS ([l0, l1, l2, l3] ++ frameO c)) / 256 % 256 : Nat) : Int), (((sumS ([l0, l1, l2, l3] ++ frameO c)) % 256 : Nat) : Int)])), blk b3 53 [(.int .u8 (((sumS ([l0, l1, l2, l3] ++ frameO c)) / 16777216 % 256 : Nat) : Int)), (.int .u8 (((sumS ([l0, l1, l2, l3] ++ frameO c)) / 65536 % 256 : Nat) : Int)), (.int .u8 (((sumS ([l0, l1, l2, l3] ++ frameO c)) / 256 % 256 : Nat) : Int)), (.int .u8 (((sumS ([l0, l1, l2, l3] ++ frameO c)) % 256 : Nat) : Int))], blk b2 53 [(.int .u8 l0), (.int .u8 l1), (.int .u8 l2), (.int .u8 l3)], rowI .u8 vf 5 (frameO c), blk b1 28 [(.int .i64 c.op), (.int .u64 c.u), (.int .u64 c.v), (.int .i64 c.wt), (.int .i64 c.t), dv, bv]]) 1 rfl rfl rfl Try.underlying22 ti5 rfl hs12 rfl (St.rowSrc hs12 (i := 0) rfl) (by simp only [List.length_append, List.length_cons, List.length_nil] at *; omega) (by simp only [List.length_append, List.length_cons, List.length_nil] at *; omega) (fun _ => rfl) ?_
     intro v3 w13 hs13 hc8
     have hs13 : St _ [rowI .u8 (.slice (some ⟨b5, 0, none⟩) 4 4) 5 ([(((sumS ([l0, l1, l2, l3] ++ frameO c)) / 16777216 % 256 : Nat) : Int), (((sumS ([l0, l1, l2, l3] ++ frameO c)) / 65536 % 256 : Nat) : Int), (((sumS ([l0, l1, l2, l3] ++ frameO c)) / 256 % 256 : Nat) : Int), (((sumS ([l0, l1, l2, l3] ++ frameO c)) % 256 : Nat) : Int)]), rowI .u8 v3 5 (((([]) ++ xs) ++ (frameO c)) ++ ([(((sumS ([l0, l1, l2, l3] ++ frameO c)) / 16777216 % 256 : Nat) : Int), (((sumS ([l0, l1, l2, l3] ++ frameO c)) / 65536 % 256 : Nat) : Int), (((sumS ([l0, l1, l2, l3] ++ frameO c)) / 256 % 256 : Nat) : Int), (((sumS ([l0, l1, l2, l3] ++ frameO c)) % 256 : Nat) : Int)])), blk b3 53 [(.int .u8 (((sumS ([l0, l1, l2, l3] ++ frameO c)) / 16777216 % 256 : Nat) : Int)), (.int .u8 (((sumS ([l0, l1, l2, l3] ++ frameO c)) / 65536 % 256 : Nat) : Int)), (.int .u8 (((sumS ([l0, l1, l2, l3] ++ frameO c)) / 256 % 256 : Nat) : Int)), (.int .u8 (((sumS ([l0, l1, l2, l3] ++ frameO c)) % 256 : Nat) : Int))], blk b2 53 [(.int .u8 l0), (.int .u8 l1), (.int .u8 l2), (.int .u8 l3)], rowI .u8 vf 5 (frameO c), blk b1 28 [(.int .i64 c.op), (.int .u64 c.u), (.int .u64 c.v), (.int .i64 c.wt), (.int .i64 c.t), dv, bv]] w13 := hs13
     have hs14 := St.sub (L' := [rowI .u8 v3 5 (((([]) ++ xs) ++ (frameO c)) ++ ([(((sumS ([l0, l1, l2, l3] ++ frameO c)) / 16777216 % 256 : Nat) : Int), (((sumS ([l0, l1, l2, l3] ++ frameO c)) / 65536 % 256 : Nat) : Int), (((sumS ([l0, l1, l2, l3] ++ frameO c)) / 256 % 256 : Nat) : Int), (((sumS ([l0, l1, l2, l3] ++ frameO c)) % 256 : Nat) : Int)])), blk b3 53 [(.int .u8 (((sumS ([l0, l1, l2, l3] ++ frameO c)) / 16777216 % 256 : Nat) : Int)), (.int .u8 (((sumS ([l0, l1, l2, l3] ++ frameO c)) / 65536 % 256 : Nat) : Int)), (.int .u8 (((sumS ([l0, l1, l2, l3] ++ frameO c)) / 256 % 256 : Nat) : Int)), (.int .u8 (((sumS ([l0, l1, l2, l3] ++ frameO c)) % 256 : Nat) : Int))], blk b2 53 [(.int .u8 l0), (.int .u8 l1), (.int .u8 l2), (.int .u8 l3)], rowI .u8 vf 5 (frameO c), blk b1 28 [(.int .i64 c.op), (.int .u64 c.u), (.int .u64 c.v), (.int .i64 c.wt), (.int .i64 c.t), dv, bv]]) hs13 (List.Sublist.cons _ (List.Sublist.refl _))
     refine asg (v := v3) rfl rfl (asg (v := (.int .i64 0)) rfl rfl (wl_nil (tN ((hK10 _ _ ?_)))))
     refine rt (ret2 (v := v3) (v' := (.int .i64 0)) Try.results11 rfl rfl ?_)
     have hap := app_ok (b := xs) hk0 (by omega)
     have hfo := frameO_ok hk0
     refine ⟨_, by rw [hap], ?_, hs14.chg (by simp)⟩
     have hfr := St.endFresh hs14 (w0 := w) (by simp)
     rw [hap, hlast, ← hfo]
     exact hfr
   · refine cmp (a := ((readS xs).2.1 : Int)) (b := (xs.length : Int)) rfl rfl rfl (c_ne h2) (wl_nil (tN ((hK7 _ _ ?_))))
     refine cdT rfl (sq fun K11 hK11 => (rg (asg (v := (.slice none 0 0)) rfl rfl (asg (v := (.int .i64 15)) rfl rfl (wl_nil (tN ((hK11 _ _ ?_))))))))
     refine rt (tR (?_))
     refine ret2 (v := (.slice none 0 0)) (v' := (.int .i64 15)) Try.results11 rfl rfl ?_
     exact ⟨.slice none 0 0, by rw [app_form hk0 (by omega)], by rw [app_form hk0 (by omega)]; exact Fresh.nil _ _ _ _, hs5.chg (by simp)⟩
 · refine cmp (a := checkS c) (b := 0) rfl rfl rfl (c_ne h1) (wl_nil (tN ((hK4 _ _ ?_))))
   refine cdT rfl (sq fun K12 hK12 => (rg (mv (v := (.int .i64 (checkS c))) rfl rfl (asg (v := (.slice none 0 0)) rfl rfl (asg (v := (.int .i64 (checkS c))) rfl rfl (wl_nil (tN ((hK12 _ _ ?_)))))))))
   refine rt (tR (?_))
   refine ret2 (v := (.slice none 0 0)) (v' := (.int .i64 (checkS c))) Try.results11 rfl rfl ?_
   exact ⟨.slice none 0 0, by rw [app_bad (by omega)], by rw [app_bad (by omega)]; exact Fresh.nil _ _ _ _, hs2.chg (by simp)⟩
theorem Changes_ok (c : Cmd) (dv bv : Value) (w : World) (hc : c.ok) (hd : Ints .u64 (fun _ => True) w dv c.dr) (hb : Ints .i64 (fun _ => True) w bv c.bo) :
 CR Try.prog 13 #[(.agg #[(.int .i64 c.op), (.int .u64 c.u), (.int .u64 c.v), (.int .i64 c.wt), (.int .i64 c.t), dv, bv])] w (fun r w' => r = .bool (changesS c) ∧ Chg [] w w') := by
 have hd := (hd.old (by decide)).mono (ok' := fun b => b < w.heap.size) (fun _ h => h.2)
 have hb := (hb.old (by decide)).mono (ok' := fun b => b < w.heap.size) (fun _ h => h.2)
 refine enter (vs := [(.agg #[(.int .i64 c.op), (.int .u64 c.u), (.int .u64 c.v), (.int .i64 c.wt), (.int .i64 c.t), dv, bv])]) Try.func13 rfl Try.ntmps13 rfl ?_
 have hst0 := St.init w
 refine sq fun K1 hK1 => (rg (bx (v := (.agg #[(.int .i64 c.op), (.int .u64 c.u), (.int .u64 c.v), (.int .i64 c.wt), (.int .i64 c.t), dv, bv])) (cs := [(.int .i64 c.op), (.int .u64 c.u), (.int .u64 c.v), (.int .i64 c.wt), (.int .i64 c.t), dv, bv]) rfl rfl rfl hst0 (fun b1 w1 hn1 hc1 hs1 => asg (v := (.bool false)) rfl rfl (wl_nil (tN ((hK1 _ _ ?_)))))))
 refine sq fun K2 hK2 => (rg (ldA (cs := [(.int .i64 c.op), (.int .u64 c.u), (.int .u64 c.v), (.int .i64 c.wt), (.int .i64 c.t), dv, bv]) rfl rfl Try.underlying28 rfl ti28 rfl (St.blkCells hs1 (i := 0) (o := 0) (vs := [(.int .i64 c.op), (.int .u64 c.u), (.int .u64 c.v), (.int .i64 c.wt), (.int .i64 c.t), dv, bv]) rfl rfl) (clF (vl := [(.agg #[(.int .i64 c.op), (.int .u64 c.u), (.int .u64 c.v), (.int .i64 c.wt), (.int .i64 c.t), dv, bv])]) rfl rfl ent28 (Check_ok c dv bv w1 hc (Sl.any (St.ints0 hs1 (by simp) hd)) (Sl.any (St.ints0 hs1 (by simp) hb))) ?_)))
 rintro _ w2 ⟨rfl, hq⟩
 have hs2 : St _ [blk b1 28 [(.int .i64 c.op), (.int .u64 c.u), (.int .u64 c.v), (.int .i64 c.wt), (.int .i64 c.t), dv, bv]] w2 := St.grow hs1 hq
 by_cases h1 : (checkS c : Int) = (0 : Int)
 · refine cmp (a := checkS c) (b := 0) rfl rfl rfl (c_eq h1) (mv (v := (.bool true)) rfl rfl (fa (o := 0) (o' := 0) rfl rfl Try.underlying28 rfl ti23 rfl (ld (a := ⟨b1, 0, none⟩) (v := (.int .i64 c.op)) rfl rfl Try.underlying23 rfl (St.blkCell hs2 (i := 0) rfl rfl) ?_)))
   by_cases h2 : (c.op : Int) = (1 : Int)
   · refine cmp (a := c.op) (b := 1) rfl rfl rfl (c_eq h2) (mv (v := (.bool true)) rfl rfl (sk rfl (sk rfl (sk rfl (pkT (v := (.bool true)) rfl rfl rfl (pkT (v := (.bool true)) rfl rfl rfl (asg (v := (.bool true)) rfl rfl ?_)))))))
     refine wl_nil (tN ((hK2 _ _ ?_)))
     refine rt (ret1 (v := (.bool true)) Try.results13 rfl ?_)
     exact ⟨eqB (by simp [changesS, h1, h2]), hs2.chg (by simp)⟩
   · refine cmp (a := c.op) (b := 1) rfl rfl rfl (c_neq h2) (mv (v := (.bool false)) rfl rfl (fa (o := 0) (o' := 0) rfl rfl Try.underlying28 rfl ti23 rfl (ld (a := ⟨b1, 0, none⟩) (v := (.int .i64 c.op)) rfl rfl Try.underlying23 rfl (St.blkCell hs2 (i := 0) rfl rfl) ?_)))
     by_cases h3 : (c.op : Int) = (2 : Int)
     · refine cmp (a := c.op) (b := 2) rfl rfl rfl (c_eq h3) (pkF (v := (.bool true)) rfl rfl rfl (pkT (v := (.bool true)) rfl rfl rfl (asg (v := (.bool true)) rfl rfl (wl_nil (tN ((hK2 _ _ ?_)))))))
       refine rt (ret1 (v := (.bool true)) Try.results13 rfl ?_)
       exact ⟨eqB (by simp [changesS, h1, h2, h3]), hs2.chg (by simp)⟩
     · refine cmp (a := c.op) (b := 2) rfl rfl rfl (c_neq h3) (pkF (v := (.bool false)) rfl rfl rfl (pkT (v := (.bool false)) rfl rfl rfl (asg (v := (.bool false)) rfl rfl (wl_nil (tN ((hK2 _ _ ?_)))))))
       refine rt (ret1 (v := (.bool false)) Try.results13 rfl ?_)
       exact ⟨eqB (by simp [changesS, h1, h2, h3]), hs2.chg (by simp)⟩
 · refine cmp (a := checkS c) (b := 0) rfl rfl rfl (c_neq h1) (mv (v := (.bool false)) rfl rfl (sk rfl (sk rfl (sk rfl (sk rfl (sk rfl (sk rfl ?_)))))))
   refine sk rfl (sk rfl (pkF (v := (.bool false)) rfl rfl rfl (asg (v := (.bool false)) rfl rfl (wl_nil (tN ((hK2 _ _ ?_)))))))
   refine rt (ret1 (v := (.bool false)) Try.results13 rfl ?_)
   exact ⟨eqB (by simp [changesS, h1]), hs2.chg (by simp)⟩
theorem rChanges_ok (c : Cmd) (dv bv : Value) (w : World) (hc : c.ok) (hd : Ints .u64 (fun _ => True) w dv c.dr) (hb : Ints .i64 (fun _ => True) w bv c.bo) :
 CR Try.prog 14 #[(.agg #[(.int .i64 c.op), (.int .u64 c.u), (.int .u64 c.v), (.int .i64 c.wt), (.int .i64 c.t), dv, bv])] w (fun r w' => r = .bool (changesS c) ∧ Chg [] w w') := by
 have hd := (hd.old (by decide)).mono (ok' := fun b => b < w.heap.size) (fun _ h => h.2)
 have hb := (hb.old (by decide)).mono (ok' := fun b => b < w.heap.size) (fun _ h => h.2)
 refine enter (vs := [(.agg #[(.int .i64 c.op), (.int .u64 c.u), (.int .u64 c.v), (.int .i64 c.wt), (.int .i64 c.t), dv, bv])]) Try.func14 rfl Try.ntmps14 rfl ?_
 have hst0 := St.init w
 refine sq fun K1 hK1 => (rg (bx (v := (.agg #[(.int .i64 c.op), (.int .u64 c.u), (.int .u64 c.v), (.int .i64 c.wt), (.int .i64 c.t), dv, bv])) (cs := [(.int .i64 c.op), (.int .u64 c.u), (.int .u64 c.v), (.int .i64 c.wt), (.int .i64 c.t), dv, bv]) rfl rfl rfl hst0 (fun b1 w1 hn1 hc1 hs1 => asg (v := (.bool false)) rfl rfl (wl_nil (tN ((hK1 _ _ ?_)))))))
 refine sq fun K2 hK2 => (rg (ldA (cs := [(.int .i64 c.op), (.int .u64 c.u), (.int .u64 c.v), (.int .i64 c.wt), (.int .i64 c.t), dv, bv]) rfl rfl Try.underlying28 rfl ti28 rfl (St.blkCells hs1 (i := 0) (o := 0) (vs := [(.int .i64 c.op), (.int .u64 c.u), (.int .u64 c.v), (.int .i64 c.wt), (.int .i64 c.t), dv, bv]) rfl rfl) (clF (vl := [(.agg #[(.int .i64 c.op), (.int .u64 c.u), (.int .u64 c.v), (.int .i64 c.wt), (.int .i64 c.t), dv, bv])]) rfl rfl ent29 (rCheck_ok c dv bv w1 hc (Sl.any (St.ints0 hs1 (by simp) hd)) (Sl.any (St.ints0 hs1 (by simp) hb))) ?_)))
 rintro _ w2 ⟨rfl, hq⟩
 have hs2 : St _ [blk b1 28 [(.int .i64 c.op), (.int .u64 c.u), (.int .u64 c.v), (.int .i64 c.wt), (.int .i64 c.t), dv, bv]] w2 := St.grow hs1 hq
 by_cases h1 : (checkS c : Int) = (0 : Int)
 · refine cmp (a := checkS c) (b := 0) rfl rfl rfl (c_eq h1) (mv (v := (.bool true)) rfl rfl (fa (o := 0) (o' := 0) rfl rfl Try.underlying28 rfl ti23 rfl (ld (a := ⟨b1, 0, none⟩) (v := (.int .i64 c.op)) rfl rfl Try.underlying23 rfl (St.blkCell hs2 (i := 0) rfl rfl) ?_)))
   by_cases h2 : (c.op : Int) = (1 : Int)
   · refine cmp (a := c.op) (b := 1) rfl rfl rfl (c_eq h2) (mv (v := (.bool true)) rfl rfl (sk rfl (sk rfl (sk rfl (pkT (v := (.bool true)) rfl rfl rfl (pkT (v := (.bool true)) rfl rfl rfl (asg (v := (.bool true)) rfl rfl ?_)))))))
     refine wl_nil (tN ((hK2 _ _ ?_)))
     refine rt (ret1 (v := (.bool true)) Try.results14 rfl ?_)
     exact ⟨eqB (by simp [changesS, h1, h2]), hs2.chg (by simp)⟩
   · refine cmp (a := c.op) (b := 1) rfl rfl rfl (c_neq h2) (mv (v := (.bool false)) rfl rfl (fa (o := 0) (o' := 0) rfl rfl Try.underlying28 rfl ti23 rfl (ld (a := ⟨b1, 0, none⟩) (v := (.int .i64 c.op)) rfl rfl Try.underlying23 rfl (St.blkCell hs2 (i := 0) rfl rfl) ?_)))
     by_cases h3 : (c.op : Int) = (2 : Int)
     · refine cmp (a := c.op) (b := 2) rfl rfl rfl (c_eq h3) (pkF (v := (.bool true)) rfl rfl rfl (pkT (v := (.bool true)) rfl rfl rfl (asg (v := (.bool true)) rfl rfl (wl_nil (tN ((hK2 _ _ ?_)))))))
       refine rt (ret1 (v := (.bool true)) Try.results14 rfl ?_)
       exact ⟨eqB (by simp [changesS, h1, h2, h3]), hs2.chg (by simp)⟩
     · refine cmp (a := c.op) (b := 2) rfl rfl rfl (c_neq h3) (pkF (v := (.bool false)) rfl rfl rfl (pkT (v := (.bool false)) rfl rfl rfl (asg (v := (.bool false)) rfl rfl (wl_nil (tN ((hK2 _ _ ?_)))))))
       refine rt (ret1 (v := (.bool false)) Try.results14 rfl ?_)
       exact ⟨eqB (by simp [changesS, h1, h2, h3]), hs2.chg (by simp)⟩
 · refine cmp (a := checkS c) (b := 0) rfl rfl rfl (c_neq h1) (mv (v := (.bool false)) rfl rfl (sk rfl (sk rfl (sk rfl (sk rfl (sk rfl (sk rfl ?_)))))))
   refine sk rfl (sk rfl (pkF (v := (.bool false)) rfl rfl rfl (asg (v := (.bool false)) rfl rfl (wl_nil (tN ((hK2 _ _ ?_)))))))
   refine rt (ret1 (v := (.bool false)) Try.results14 rfl ?_)
   exact ⟨eqB (by simp [changesS, h1]), hs2.chg (by simp)⟩
theorem bytes_eq (v u : Value) (xs : List Int) (w : World) (hv : Ints .u8 (fun _ => True) w v xs) (hu : Ints .u8 (fun _ => True) w u xs) :
 CR Try.prog 12 #[v, u] w (fun r w' => r = .bool true ∧ Chg [] w w') := by
 have hlen := hv.len
 have hst0 := St.init w
 refine enter (vs := [v, u]) Try.func12 rfl Try.ntmps12 rfl (sq fun K1 hK1 => (rg (asg (v := (.bool false)) rfl rfl (wl_nil (tN ((hK1 _ _ ?_)))))))
 refine sq fun K2 hK2 => (sq fun K3 hK3 => (rg (mv (v := v) rfl rfl (lenI (v := v) rfl rfl Try.underlying22 hv (mv (v := u) rfl rfl (lenI (v := u) rfl rfl Try.underlying22 hu (cmp (a := (xs.length : Int)) (b := (xs.length : Int)) rfl rfl rfl (c_nne rfl) ?_)))))))
 refine wl_nil (tN ((hK3 _ _ ?_)))
 refine cdF rfl (sp (tN ((hK2 _ _ ?_))))
 refine sq fun K4 hK4 => (sq fun K5 hK5 => (rg (asg (v := (.int .i64 0)) rfl rfl (wl_nil (tN ((hK5 _ _ ?_)))))))
 refine bk (lp (α := Nat) (fun k => [(0, v), (1, u), (5, (.int .i64 k))]) (fun k w1 => St [(w, [])] [] w1 ∧ k ≤ xs.length) (fun k => xs.length - k) 0 ⟨rfl, rfl, eqI (by first | rfl | omega), trivial⟩ (⟨hst0, by omega⟩) ?_)
 rintro k s1 w1 ⟨hst, hk1⟩
 refine sq fun K6 hK6 => (sq fun K7 hK7 => (rg (mv (v := (.int .i64 k)) rfl rfl (mv (v := v) rfl rfl (lenI (v := v) rfl rfl Try.underlying22 hv ?_)))))
 by_cases h1 : ((k : Int) : Int) < ((xs.length : Int) : Int)
 · refine cmp (a := (k : Int)) (b := (xs.length : Int)) rfl rfl rfl (c_lt h1) ?_
   have hk : k < xs.length := by omega
   obtain ⟨y, hy⟩ := get_some hk
   refine wl_nil (tN ((hK7 _ _ ?_)))
   refine cdT rfl (sp (tN ((hK6 _ _ ?_))))
   refine sq fun K8 hK8 => (bk (sq fun K9 hK9 => (rgs (Γ := Unit) mixed [[], [], [0, 1], [0, 1, 2], [], [], [4, 5], [4, 5, 6], [0, 1, 2, 3, 4, 5, 6, 7]] [] (by decide) [fun _ => v, fun _ => (.int .i64 k), fun _ => (adr 1 v (((k : Int) : Int).toNat)), fun _ => (.int .u8 y), fun _ => u, fun _ => (.int .i64 k), fun _ => (adr 1 u (((k : Int) : Int).toNat)), fun _ => (.int .u8 y), fun _ => (.bool false)] [(fun _ => [], fun _ _ => True)] () (fun _ => (25, (.bool false)) :: (24, (.int .u8 y)) :: (23, (adr 1 u (((k : Int) : Int).toNat))) :: (22, (.int .i64 k)) :: (21, u) :: (20, (.int .u8 y)) :: (19, (adr 1 v (((k : Int) : Int).toNat))) :: (18, (.int .i64 k)) :: (17, v) :: _) rfl hst (fun _ _ => trivial) ?_ (fun _ => rfl) rfl ?_)))
   · skip
     refine ob_p rfl (fun _ _ _ => qv rfl rfl (mv_r (v := v) rfl)) (ob_p rfl (fun _ _ _ => qv rfl rfl (mv_r (v := (.int .i64 k)) rfl)) (ob_p rfl (fun _ _ _ => qv rfl rfl (ixI_r (i := (k : Int)) (el := y) rfl rfl Try.underlying22 ti5 hv (by omega) hy)) (ob_q1 rfl rfl rfl rfl (fun _ wq hM hF => qv rfl rfl (ldI_r rfl Try.underlying5 rfl (St.ints0 hM (by simp) hv) hy)) (ob_p rfl (fun _ _ _ => qv rfl rfl (mv_r (v := u) rfl)) (ob_p rfl (fun _ _ _ => qv rfl rfl (mv_r (v := (.int .i64 k)) rfl)) (ob_p rfl (fun _ _ _ => qv rfl rfl (ixI_r (i := (k : Int)) (el := y) rfl rfl Try.underlying22 ti5 hu (by omega) hy)) (ob_q1 rfl rfl rfl rfl (fun _ wq hM hF => qv rfl rfl (ldI_r rfl Try.underlying5 rfl (St.ints0 hM (by simp) hu) hy)) ?_)))))))
     refine ob_p rfl (fun _ _ _ => qv rfl rfl (cmp_r (a := y) (b := y) rfl rfl (c_nne rfl))) ?_
     exact ob_n
   rintro - w2 hs1 -
   refine tN ((hK9 _ _ ?_))
   refine cdF rfl (sp (bN (tN ((hK8 _ _ ?_)))))
   refine rg (mv (v := (.int .i64 k)) rfl rfl (ar (a := (k : Int)) (b := 1) (c := (k : Int) + 1) rfl rfl rfl rfl (w64 (by omega)) (asg (v := (.int .i64 ((k : Int) + 1))) rfl rfl (wl_nil (tN (?_))))))
   exact again (k + 1) ⟨rfl, rfl, eqI (by first | rfl | omega), trivial⟩ (⟨hs1, by omega⟩) (by show (xs.length - (k + 1) : Nat) < xs.length - k; omega)
 · refine cmp (a := (k : Int)) (b := (xs.length : Int)) rfl rfl rfl (c_nlt h1) (wl_nil (tN ((hK7 _ _ ?_))))
   refine cdF rfl (xt (tX (tX (bX (tN ((hK4 _ _ ?_)))))))
   refine sq fun K10 hK10 => (rg (asg (v := (.bool true)) rfl rfl (wl_nil (tN ((hK10 _ _ ?_))))))
   refine rt (ret1 (v := (.bool true)) Try.results12 rfl ?_)
   exact ⟨rfl, hst.chg (by simp)⟩
theorem cmd_eq (c : Cmd) (dv bv du bu : Value) (w : World) (hd : Ints .u64 (fun _ => True) w dv c.dr) (hb : Ints .i64 (fun _ => True) w bv c.bo) (hd2 : Ints .u64 (fun _ => True) w du c.dr) (hb2 : Ints .i64 (fun _ => True) w bu c.bo) :
 CR Try.prog 31 #[(.agg #[(.int .i64 c.op), (.int .u64 c.u), (.int .u64 c.v), (.int .i64 c.wt), (.int .i64 c.t), dv, bv]), (.agg #[(.int .i64 c.op), (.int .u64 c.u), (.int .u64 c.v), (.int .i64 c.wt), (.int .i64 c.t), du, bu])] w (fun r w' => r = .bool true ∧ Chg [] w w') := by
 have hl1 := hd.len
 have hl2 := hb.len
 refine enter (vs := [(.agg #[(.int .i64 c.op), (.int .u64 c.u), (.int .u64 c.v), (.int .i64 c.wt), (.int .i64 c.t), dv, bv]), (.agg #[(.int .i64 c.op), (.int .u64 c.u), (.int .u64 c.v), (.int .i64 c.wt), (.int .i64 c.t), du, bu])]) Try.func31 rfl Try.ntmps31 rfl ?_
 have hst0 := St.init w
 refine sq fun K1 hK1 => (rg (bx (v := (.agg #[(.int .i64 c.op), (.int .u64 c.u), (.int .u64 c.v), (.int .i64 c.wt), (.int .i64 c.t), dv, bv])) (cs := [(.int .i64 c.op), (.int .u64 c.u), (.int .u64 c.v), (.int .i64 c.wt), (.int .i64 c.t), dv, bv]) rfl rfl rfl hst0 (fun b1 w1 hn1 hc1 hs1 => bx (v := (.agg #[(.int .i64 c.op), (.int .u64 c.u), (.int .u64 c.v), (.int .i64 c.wt), (.int .i64 c.t), du, bu])) (cs := [(.int .i64 c.op), (.int .u64 c.u), (.int .u64 c.v), (.int .i64 c.wt), (.int .i64 c.t), du, bu]) rfl rfl rfl hs1 (fun b2 w2 hn2 hc2 hs2 => asg (v := (.bool false)) rfl rfl (wl_nil (tN ((hK1 _ _ ?_))))))))
 refine sq fun K2 hK2 => (sq fun K3 hK3 => (rg (fa (o := 0) (o' := 0) rfl rfl Try.underlying28 rfl ti23 rfl (ld (a := ⟨b1, 0, none⟩) (v := (.int .i64 c.op)) rfl rfl Try.underlying23 rfl (St.blkCell hs2 (i := 1) rfl rfl) (fa (o := 0) (o' := 0) rfl rfl Try.underlying28 rfl ti23 rfl (ld (a := ⟨b2, 0, none⟩) (v := (.int .i64 c.op)) rfl rfl Try.underlying23 rfl (St.blkCell hs2 (i := 0) rfl rfl) (cmp (a := c.op) (b := c.op) rfl rfl rfl (c_nne rfl) ?_)))))))
 refine mv (v := (.bool false)) rfl rfl (fa (o := 0) (o' := 1) rfl rfl Try.underlying28 rfl ti24 rfl (ld (a := ⟨b1, 1, none⟩) (v := (.int .u64 c.u)) rfl rfl Try.underlying24 rfl (St.blkCell hs2 (i := 1) rfl rfl) (fa (o := 0) (o' := 1) rfl rfl Try.underlying28 rfl ti24 rfl (ld (a := ⟨b2, 1, none⟩) (v := (.int .u64 c.u)) rfl rfl Try.underlying24 rfl (St.blkCell hs2 (i := 0) rfl rfl) (cmp (a := c.u) (b := c.u) rfl rfl rfl (c_nne rfl) (pkF (v := (.bool false)) rfl rfl rfl (mv (v := (.bool false)) rfl rfl ?_)))))))
 refine fa (o := 0) (o' := 2) rfl rfl Try.underlying28 rfl ti24 rfl (ld (a := ⟨b1, 2, none⟩) (v := (.int .u64 c.v)) rfl rfl Try.underlying24 rfl (St.blkCell hs2 (i := 1) rfl rfl) (fa (o := 0) (o' := 2) rfl rfl Try.underlying28 rfl ti24 rfl (ld (a := ⟨b2, 2, none⟩) (v := (.int .u64 c.v)) rfl rfl Try.underlying24 rfl (St.blkCell hs2 (i := 0) rfl rfl) (cmp (a := c.v) (b := c.v) rfl rfl rfl (c_nne rfl) (pkF (v := (.bool false)) rfl rfl rfl (mv (v := (.bool false)) rfl rfl (fa (o := 0) (o' := 3) rfl rfl Try.underlying28 rfl ti2 rfl ?_)))))))
 refine ld (a := ⟨b1, 3, none⟩) (v := (.int .i64 c.wt)) rfl rfl Try.underlying2 rfl (St.blkCell hs2 (i := 1) rfl rfl) (fa (o := 0) (o' := 3) rfl rfl Try.underlying28 rfl ti2 rfl (ld (a := ⟨b2, 3, none⟩) (v := (.int .i64 c.wt)) rfl rfl Try.underlying2 rfl (St.blkCell hs2 (i := 0) rfl rfl) (cmp (a := c.wt) (b := c.wt) rfl rfl rfl (c_nne rfl) (pkF (v := (.bool false)) rfl rfl rfl (mv (v := (.bool false)) rfl rfl (fa (o := 0) (o' := 4) rfl rfl Try.underlying28 rfl ti2 rfl (ld (a := ⟨b1, 4, none⟩) (v := (.int .i64 c.t)) rfl rfl Try.underlying2 rfl (St.blkCell hs2 (i := 1) rfl rfl) ?_)))))))
 refine fa (o := 0) (o' := 4) rfl rfl Try.underlying28 rfl ti2 rfl (ld (a := ⟨b2, 4, none⟩) (v := (.int .i64 c.t)) rfl rfl Try.underlying2 rfl (St.blkCell hs2 (i := 0) rfl rfl) (cmp (a := c.t) (b := c.t) rfl rfl rfl (c_nne rfl) (pkF (v := (.bool false)) rfl rfl rfl (mv (v := (.bool false)) rfl rfl (fa (o := 0) (o' := 5) rfl rfl Try.underlying28 rfl ti25 rfl (ld (a := ⟨b1, 5, none⟩) (v := dv) rfl rfl Try.underlying25 rfl (St.blkCell hs2 (i := 1) rfl rfl) (lenI (v := dv) rfl rfl Try.underlying25 hd ?_)))))))
 refine fa (o := 0) (o' := 5) rfl rfl Try.underlying28 rfl ti25 rfl (ld (a := ⟨b2, 5, none⟩) (v := du) rfl rfl Try.underlying25 rfl (St.blkCell hs2 (i := 0) rfl rfl) (lenI (v := du) rfl rfl Try.underlying25 hd2 (cmp (a := (c.dr.length : Int)) (b := (c.dr.length : Int)) rfl rfl rfl (c_nne rfl) (pkF (v := (.bool false)) rfl rfl rfl (mv (v := (.bool false)) rfl rfl (fa (o := 0) (o' := 6) rfl rfl Try.underlying28 rfl ti26 rfl (ld (a := ⟨b1, 6, none⟩) (v := bv) rfl rfl Try.underlying26 rfl (St.blkCell hs2 (i := 1) rfl rfl) ?_)))))))
 refine lenI (v := bv) rfl rfl Try.underlying26 hb (fa (o := 0) (o' := 6) rfl rfl Try.underlying28 rfl ti26 rfl (ld (a := ⟨b2, 6, none⟩) (v := bu) rfl rfl Try.underlying26 rfl (St.blkCell hs2 (i := 0) rfl rfl) (lenI (v := bu) rfl rfl Try.underlying26 hb2 (cmp (a := (c.bo.length : Int)) (b := (c.bo.length : Int)) rfl rfl rfl (c_nne rfl) (pkF (v := (.bool false)) rfl rfl rfl (wl_nil (tN ((hK3 _ _ ?_)))))))))
 refine cdF rfl (sp (tN ((hK2 _ _ ?_))))
 refine sq fun K4 hK4 => (sq fun K5 hK5 => (rg (asg (v := (.int .i64 0)) rfl rfl (wl_nil (tN ((hK5 _ _ ?_)))))))
 refine bk (lp (α := Nat) (fun k => [(2, (.pointer (some ⟨b1, 0, none⟩))), (3, (.pointer (some ⟨b2, 0, none⟩))), (5, (.int .i64 k))]) (fun k w1 => St [(w, [])] [blk b2 28 [(.int .i64 c.op), (.int .u64 c.u), (.int .u64 c.v), (.int .i64 c.wt), (.int .i64 c.t), du, bu], blk b1 28 [(.int .i64 c.op), (.int .u64 c.u), (.int .u64 c.v), (.int .i64 c.wt), (.int .i64 c.t), dv, bv]] w1 ∧ k ≤ c.dr.length) (fun k => c.dr.length - k) 0 ⟨rfl, rfl, eqI (by first | rfl | omega), trivial⟩ (⟨hs2, by omega⟩) ?_)
 rintro k s1 w3 ⟨hst, hk1⟩
 refine sq fun K6 hK6 => (sq fun K7 hK7 => (rg (mv (v := (.int .i64 k)) rfl rfl (fa (o := 0) (o' := 5) rfl rfl Try.underlying28 rfl ti25 rfl (ld (a := ⟨b1, 5, none⟩) (v := dv) rfl rfl Try.underlying25 rfl (St.blkCell hst (i := 1) rfl rfl) (lenI (v := dv) rfl rfl Try.underlying25 hd ?_))))))
 by_cases h1 : ((k : Int) : Int) < ((c.dr.length : Int) : Int)
 · refine cmp (a := (k : Int)) (b := (c.dr.length : Int)) rfl rfl rfl (c_lt h1) ?_
   obtain ⟨y, hy⟩ := get_some (show k < c.dr.length by omega)
   refine wl_nil (tN ((hK7 _ _ ?_)))
   refine cdT rfl (sp (tN ((hK6 _ _ ?_))))
   refine sq fun K8 hK8 => (bk (sq fun K9 hK9 => (rgs (Γ := Unit) mixed [[], [0], [], [0, 1, 2], [0, 1, 2, 3], [], [5], [], [5, 6, 7], [5, 6, 7, 8], [0, 1, 2, 3, 4, 5, 6, 7, 8, 9]] [] (by decide) [fun _ => (.pointer (some ⟨b1, 5, none⟩)), fun _ => dv, fun _ => (.int .i64 k), fun _ => (adr 1 dv (((k : Int) : Int).toNat)), fun _ => (.int .u64 y), fun _ => (.pointer (some ⟨b2, 5, none⟩)), fun _ => du, fun _ => (.int .i64 k), fun _ => (adr 1 du (((k : Int) : Int).toNat)), fun _ => (.int .u64 y), fun _ => (.bool false)] [(fun _ => [blk b2 28 [(.int .i64 c.op), (.int .u64 c.u), (.int .u64 c.v), (.int .i64 c.wt), (.int .i64 c.t), du, bu], blk b1 28 [(.int .i64 c.op), (.int .u64 c.u), (.int .u64 c.v), (.int .i64 c.wt), (.int .i64 c.t), dv, bv]], fun _ _ => True)] () (fun _ => (75, (.bool false)) :: (74, (.int .u64 y)) :: (73, (adr 1 du (((k : Int) : Int).toNat))) :: (72, (.int .i64 k)) :: (71, du) :: (70, (.pointer (some ⟨b2, 5, none⟩))) :: (69, (.int .u64 y)) :: (68, (adr 1 dv (((k : Int) : Int).toNat))) :: (67, (.int .i64 k)) :: (66, dv) :: (65, (.pointer (some ⟨b1, 5, none⟩))) :: _) rfl hst (fun _ _ => trivial) ?_ (fun _ => rfl) rfl ?_)))
   · skip
     refine ob_p rfl (fun _ _ _ => qv rfl rfl (fa_r (o := 0) (o' := 5) rfl Try.underlying28 rfl ti25 rfl)) (ob_q1 rfl rfl rfl rfl (fun _ wq hM hF => qv rfl rfl (ld_r (a := ⟨b1, 5, none⟩) (v := dv) rfl Try.underlying25 rfl (St.blkCell hM (i := 1) rfl rfl))) (ob_p rfl (fun _ _ _ => qv rfl rfl (mv_r (v := (.int .i64 k)) rfl)) (ob_p rfl (fun _ _ _ => qv rfl rfl (ixI_r (i := (k : Int)) (el := y) rfl rfl Try.underlying25 ti24 hd (by omega) hy)) (ob_q1 rfl rfl rfl rfl (fun _ wq hM hF => qv rfl rfl (ldI_r rfl Try.underlying24 rfl (St.ints0 hM (by simp) hd) hy)) (ob_p rfl (fun _ _ _ => qv rfl rfl (fa_r (o := 0) (o' := 5) rfl Try.underlying28 rfl ti25 rfl)) (ob_q1 rfl rfl rfl rfl (fun _ wq hM hF => qv rfl rfl (ld_r (a := ⟨b2, 5, none⟩) (v := du) rfl Try.underlying25 rfl (St.blkCell hM (i := 0) rfl rfl))) (ob_p rfl (fun _ _ _ => qv rfl rfl (mv_r (v := (.int .i64 k)) rfl)) ?_)))))))
     refine ob_p rfl (fun _ _ _ => qv rfl rfl (ixI_r (i := (k : Int)) (el := y) rfl rfl Try.underlying25 ti24 hd2 (by omega) hy)) (ob_q1 rfl rfl rfl rfl (fun _ wq hM hF => qv rfl rfl (ldI_r rfl Try.underlying24 rfl (St.ints0 hM (by simp) hd2) hy)) (ob_p rfl (fun _ _ _ => qv rfl rfl (cmp_r (a := y) (b := y) rfl rfl (c_nne rfl))) ?_))
     exact ob_n
   rintro - w4 hs3 -
   refine tN ((hK9 _ _ ?_))
   refine cdF rfl (sp (bN (tN ((hK8 _ _ ?_)))))
   refine rg (mv (v := (.int .i64 k)) rfl rfl (ar (a := (k : Int)) (b := 1) (c := (k : Int) + 1) rfl rfl rfl rfl (w64 (by omega)) (asg (v := (.int .i64 ((k : Int) + 1))) rfl rfl (wl_nil (tN (?_))))))
   exact again (k + 1) ⟨rfl, rfl, eqI (by first | rfl | omega), trivial⟩ (⟨hs3, by omega⟩) (by show (c.dr.length - (k + 1) : Nat) < c.dr.length - k; omega)
 · refine cmp (a := (k : Int)) (b := (c.dr.length : Int)) rfl rfl rfl (c_nlt h1) (wl_nil (tN ((hK7 _ _ ?_))))
   refine cdF rfl (xt (tX (tX (bX (tN ((hK4 _ _ ?_)))))))
   refine sq fun K10 hK10 => (sq fun K11 hK11 => (rg (asg (v := (.int .i64 0)) rfl rfl (wl_nil (tN ((hK11 _ _ ?_)))))))
   refine bk (lp (α := Nat) (fun k => [(2, (.pointer (some ⟨b1, 0, none⟩))), (3, (.pointer (some ⟨b2, 0, none⟩))), (6, (.int .i64 k))]) (fun k w1 => St [(w, [])] [blk b2 28 [(.int .i64 c.op), (.int .u64 c.u), (.int .u64 c.v), (.int .i64 c.wt), (.int .i64 c.t), du, bu], blk b1 28 [(.int .i64 c.op), (.int .u64 c.u), (.int .u64 c.v), (.int .i64 c.wt), (.int .i64 c.t), dv, bv]] w1 ∧ k ≤ c.bo.length) (fun k => c.bo.length - k) 0 ⟨rfl, rfl, eqI (by first | rfl | omega), trivial⟩ (⟨hst, by omega⟩) ?_)
   rintro k s2 w5 ⟨hst, hk1⟩
   refine sq fun K12 hK12 => (sq fun K13 hK13 => (rg (mv (v := (.int .i64 k)) rfl rfl (fa (o := 0) (o' := 6) rfl rfl Try.underlying28 rfl ti26 rfl (ld (a := ⟨b1, 6, none⟩) (v := bv) rfl rfl Try.underlying26 rfl (St.blkCell hst (i := 1) rfl rfl) (lenI (v := bv) rfl rfl Try.underlying26 hb ?_))))))
   by_cases h2 : ((k : Int) : Int) < ((c.bo.length : Int) : Int)
   · refine cmp (a := (k : Int)) (b := (c.bo.length : Int)) rfl rfl rfl (c_lt h2) ?_
     obtain ⟨y, hy⟩ := get_some (show k < c.bo.length by omega)
     refine wl_nil (tN ((hK13 _ _ ?_)))
     refine cdT rfl (sp (tN ((hK12 _ _ ?_))))
     refine sq fun K14 hK14 => (bk (sq fun K15 hK15 => (rgs (Γ := Unit) mixed [[], [0], [], [0, 1, 2], [0, 1, 2, 3], [], [5], [], [5, 6, 7], [5, 6, 7, 8], [0, 1, 2, 3, 4, 5, 6, 7, 8, 9]] [] (by decide) [fun _ => (.pointer (some ⟨b1, 6, none⟩)), fun _ => bv, fun _ => (.int .i64 k), fun _ => (adr 1 bv (((k : Int) : Int).toNat)), fun _ => (.int .i64 y), fun _ => (.pointer (some ⟨b2, 6, none⟩)), fun _ => bu, fun _ => (.int .i64 k), fun _ => (adr 1 bu (((k : Int) : Int).toNat)), fun _ => (.int .i64 y), fun _ => (.bool false)] [(fun _ => [blk b2 28 [(.int .i64 c.op), (.int .u64 c.u), (.int .u64 c.v), (.int .i64 c.wt), (.int .i64 c.t), du, bu], blk b1 28 [(.int .i64 c.op), (.int .u64 c.u), (.int .u64 c.v), (.int .i64 c.wt), (.int .i64 c.t), dv, bv]], fun _ _ => True)] () (fun _ => (93, (.bool false)) :: (92, (.int .i64 y)) :: (91, (adr 1 bu (((k : Int) : Int).toNat))) :: (90, (.int .i64 k)) :: (89, bu) :: (88, (.pointer (some ⟨b2, 6, none⟩))) :: (87, (.int .i64 y)) :: (86, (adr 1 bv (((k : Int) : Int).toNat))) :: (85, (.int .i64 k)) :: (84, bv) :: (83, (.pointer (some ⟨b1, 6, none⟩))) :: _) rfl hst (fun _ _ => trivial) ?_ (fun _ => rfl) rfl ?_)))
     · skip
       refine ob_p rfl (fun _ _ _ => qv rfl rfl (fa_r (o := 0) (o' := 6) rfl Try.underlying28 rfl ti26 rfl)) (ob_q1 rfl rfl rfl rfl (fun _ wq hM hF => qv rfl rfl (ld_r (a := ⟨b1, 6, none⟩) (v := bv) rfl Try.underlying26 rfl (St.blkCell hM (i := 1) rfl rfl))) (ob_p rfl (fun _ _ _ => qv rfl rfl (mv_r (v := (.int .i64 k)) rfl)) (ob_p rfl (fun _ _ _ => qv rfl rfl (ixI_r (i := (k : Int)) (el := y) rfl rfl Try.underlying26 ti2 hb (by omega) hy)) (ob_q1 rfl rfl rfl rfl (fun _ wq hM hF => qv rfl rfl (ldI_r rfl Try.underlying2 rfl (St.ints0 hM (by simp) hb) hy)) (ob_p rfl (fun _ _ _ => qv rfl rfl (fa_r (o := 0) (o' := 6) rfl Try.underlying28 rfl ti26 rfl)) (ob_q1 rfl rfl rfl rfl (fun _ wq hM hF => qv rfl rfl (ld_r (a := ⟨b2, 6, none⟩) (v := bu) rfl Try.underlying26 rfl (St.blkCell hM (i := 0) rfl rfl))) (ob_p rfl (fun _ _ _ => qv rfl rfl (mv_r (v := (.int .i64 k)) rfl)) ?_)))))))
       refine ob_p rfl (fun _ _ _ => qv rfl rfl (ixI_r (i := (k : Int)) (el := y) rfl rfl Try.underlying26 ti2 hb2 (by omega) hy)) (ob_q1 rfl rfl rfl rfl (fun _ wq hM hF => qv rfl rfl (ldI_r rfl Try.underlying2 rfl (St.ints0 hM (by simp) hb2) hy)) (ob_p rfl (fun _ _ _ => qv rfl rfl (cmp_r (a := y) (b := y) rfl rfl (c_nne rfl))) ?_))
       exact ob_n
     rintro - w6 hs4 -
     refine tN ((hK15 _ _ ?_))
     refine cdF rfl (sp (bN (tN ((hK14 _ _ ?_)))))
     refine rg (mv (v := (.int .i64 k)) rfl rfl (ar (a := (k : Int)) (b := 1) (c := (k : Int) + 1) rfl rfl rfl rfl (w64 (by omega)) (asg (v := (.int .i64 ((k : Int) + 1))) rfl rfl (wl_nil (tN (?_))))))
     exact again (k + 1) ⟨rfl, rfl, eqI (by first | rfl | omega), trivial⟩ (⟨hs4, by omega⟩) (by show (c.bo.length - (k + 1) : Nat) < c.bo.length - k; omega)
   · refine cmp (a := (k : Int)) (b := (c.bo.length : Int)) rfl rfl rfl (c_nlt h2) (wl_nil (tN ((hK13 _ _ ?_))))
     refine cdF rfl (xt (tX (tX (bX (tN ((hK10 _ _ ?_)))))))
     refine sq fun K16 hK16 => (rg (asg (v := (.bool true)) rfl rfl (wl_nil (tN ((hK16 _ _ ?_))))))
     refine rt (ret1 (v := (.bool true)) Try.results31 rfl ?_)
     exact ⟨rfl, hst.chg (by simp)⟩
theorem cmds_eq (v u : Value) (cs : List Cmd) (w : World) (hv : Cmds (fun _ => True) w v cs) (hu : Cmds (fun _ => True) w u cs) :
 CR Try.prog 17 #[v, u] w (fun r w' => r = .bool true ∧ Chg [] w w') := by
 have hlen := hv.len
 refine enter (vs := [v, u]) Try.func17 rfl Try.ntmps17 rfl ?_
 have hst0 := St.init w
 refine sq fun K1 hK1 => (rg (asg (v := (.bool false)) rfl rfl (wl_nil (tN ((hK1 _ _ ?_))))))
 refine sq fun K2 hK2 => (sq fun K3 hK3 => (rg (mv (v := v) rfl rfl (lenI (v := v) rfl rfl Try.underlying30 hv (mv (v := u) rfl rfl (lenI (v := u) rfl rfl Try.underlying30 hu (cmp (a := (cs.length : Int)) (b := (cs.length : Int)) rfl rfl rfl (c_nne rfl) ?_)))))))
 refine wl_nil (tN ((hK3 _ _ ?_)))
 refine cdF rfl (sp (tN ((hK2 _ _ ?_))))
 refine sq fun K4 hK4 => (sq fun K5 hK5 => (rg (asg (v := (.int .i64 0)) rfl rfl (wl_nil (tN ((hK5 _ _ ?_)))))))
 refine bk (lp (α := Nat) (fun k => [(0, v), (1, u), (5, (.int .i64 k))]) (fun k w1 => St [(w, [])] [] w1 ∧ k ≤ cs.length) (fun k => cs.length - k) 0 ⟨rfl, rfl, eqI (by first | rfl | omega), trivial⟩ (⟨hst0, by omega⟩) ?_)
 rintro k s1 w1 ⟨hst, hk1⟩
 refine sq fun K6 hK6 => (sq fun K7 hK7 => (rg (mv (v := (.int .i64 k)) rfl rfl (mv (v := v) rfl rfl (lenI (v := v) rfl rfl Try.underlying30 hv ?_)))))
 by_cases h1 : ((k : Int) : Int) < ((cs.length : Int) : Int)
 · refine cmp (a := (k : Int)) (b := (cs.length : Int)) rfl rfl rfl (c_lt h1) ?_
   obtain ⟨c, hc⟩ := get_some (show k < cs.length by omega)
   obtain ⟨d1, b1, hat1, -, hd1, hb1⟩ := hv.at hc
   obtain ⟨d2, b2, hat2, -, hd2, hb2⟩ := hu.at hc
   refine wl_nil (tN ((hK7 _ _ ?_)))
   refine cdT rfl (sp (tN ((hK6 _ _ ?_))))
   refine sq fun K8 hK8 => (bk (sq fun K9 hK9 => (rgs (Γ := Unit) mixed [[], [], [0, 1], [0, 1, 2], [], [], [4, 5], [4, 5, 6], [0, 1, 2, 3, 4, 5, 6, 7], [0, 1, 2, 3, 4, 5, 6, 7, 8]] [] (by decide) [fun _ => v, fun _ => (.int .i64 k), fun _ => (adr 7 v k), fun _ => (.agg #[(.int .i64 c.op), (.int .u64 c.u), (.int .u64 c.v), (.int .i64 c.wt), (.int .i64 c.t), d1, b1]), fun _ => u, fun _ => (.int .i64 k), fun _ => (adr 7 u k), fun _ => (.agg #[(.int .i64 c.op), (.int .u64 c.u), (.int .u64 c.v), (.int .i64 c.wt), (.int .i64 c.t), d2, b2]), fun _ => (.bool true), fun _ => (.bool false)] [(fun _ => [], fun _ _ => True)] () (fun _ => (26, (.bool false)) :: (25, (.bool true)) :: (24, (.agg #[(.int .i64 c.op), (.int .u64 c.u), (.int .u64 c.v), (.int .i64 c.wt), (.int .i64 c.t), d2, b2])) :: (23, (adr 7 u k)) :: (22, (.int .i64 k)) :: (21, u) :: (20, (.agg #[(.int .i64 c.op), (.int .u64 c.u), (.int .u64 c.v), (.int .i64 c.wt), (.int .i64 c.t), d1, b1])) :: (19, (adr 7 v k)) :: (18, (.int .i64 k)) :: (17, v) :: _) rfl hst (fun _ _ => trivial) ?_ (fun _ => rfl) rfl ?_)))
   · skip
     refine ob_p rfl (fun _ _ _ => qv rfl rfl (mv_r (v := v) rfl)) (ob_p rfl (fun _ _ _ => qv rfl rfl (mv_r (v := (.int .i64 k)) rfl)) (ob_p rfl (fun _ _ _ => qv rfl rfl (ixC_r (k := k) (i := (k : Int)) rfl rfl Try.underlying30 ti28 hv (by omega) hc (by omega))) (ob_q1 rfl rfl rfl rfl (fun _ wq hM hF => qv rfl rfl (ldC_r (cs' := #[(.int .i64 c.op), (.int .u64 c.u), (.int .u64 c.v), (.int .i64 c.wt), (.int .i64 c.t), d1, b1]) rfl Try.underlying28 rfl ti28 (St.cmdAt0 hM (by simp) hat1) rfl)) (ob_p rfl (fun _ _ _ => qv rfl rfl (mv_r (v := u) rfl)) (ob_p rfl (fun _ _ _ => qv rfl rfl (mv_r (v := (.int .i64 k)) rfl)) (ob_p rfl (fun _ _ _ => qv rfl rfl (ixC_r (k := k) (i := (k : Int)) rfl rfl Try.underlying30 ti28 hu (by omega) hc (by omega))) (ob_q1 rfl rfl rfl rfl (fun _ wq hM hF => qv rfl rfl (ldC_r (cs' := #[(.int .i64 c.op), (.int .u64 c.u), (.int .u64 c.v), (.int .i64 c.wt), (.int .i64 c.t), d2, b2]) rfl Try.underlying28 rfl ti28 (St.cmdAt0 hM (by simp) hat2) rfl)) ?_)))))))
     refine ob_q1 rfl rfl rfl rfl (fun _ wq hM hF => qc rfl rfl (clF_r (vl := [(.agg #[(.int .i64 c.op), (.int .u64 c.u), (.int .u64 c.v), (.int .i64 c.wt), (.int .i64 c.t), d1, b1]), (.agg #[(.int .i64 c.op), (.int .u64 c.u), (.int .u64 c.v), (.int .i64 c.wt), (.int .i64 c.t), d2, b2])]) rfl ent31) (CR.mono (cmd_eq c d1 b1 d2 b2 wq (St.ints0 hM (by simp) hd1) (St.ints0 hM (by simp) hb1) (St.ints0 hM (by simp) hd2) (St.ints0 hM (by simp) hb2)) fun _ _ h => ⟨h.1, ⟨hM.grow h.2, trivial⟩⟩)) (ob_p rfl (fun _ _ _ => qv rfl rfl (not_r (b := true) (c := false) rfl rfl)) ?_)
     exact ob_n
   rintro - w2 hs1 -
   refine tN ((hK9 _ _ ?_))
   refine cdF rfl (sp (bN (tN ((hK8 _ _ ?_)))))
   refine rg (mv (v := (.int .i64 k)) rfl rfl (ar (a := (k : Int)) (b := 1) (c := (k : Int) + 1) rfl rfl rfl rfl (w64 (by omega)) (asg (v := (.int .i64 ((k : Int) + 1))) rfl rfl (wl_nil (tN (?_))))))
   exact again (k + 1) ⟨rfl, rfl, eqI (by first | rfl | omega), trivial⟩ (⟨hs1, by omega⟩) (by show (cs.length - (k + 1) : Nat) < cs.length - k; omega)
 · refine cmp (a := (k : Int)) (b := (cs.length : Int)) rfl rfl rfl (c_nlt h1) (wl_nil (tN ((hK7 _ _ ?_))))
   refine cdF rfl (xt (tX (tX (bX (tN ((hK4 _ _ ?_)))))))
   refine sq fun K10 hK10 => (rg (asg (v := (.bool true)) rfl rfl (wl_nil (tN ((hK10 _ _ ?_))))))
   refine rt (ret1 (v := (.bool true)) Try.results17 rfl ?_)
   exact ⟨rfl, hst.chg (by simp)⟩
theorem few_ok (v : Value) (cs : List Cmd) (most : Nat) (w : World) (hv : Cmds (fun _ => True) w v cs) (hm : most ≤ 1000) :
 CR Try.prog 8 #[v, (.int .i64 most)] w (fun r w' => r = .bool (fewS cs most) ∧ w = w') := by
 have hlen := hv.len
 refine enter (vs := [v, (.int .i64 most)]) Try.func8 rfl Try.ntmps8 rfl (sq fun K1 hK1 => (rg (asg (v := (.bool false)) rfl rfl (wl_nil (tN ((hK1 _ _ ?_)))))))
 refine sq fun K2 hK2 => (sq fun K3 hK3 => (rg (mv (v := v) rfl rfl (lenI (v := v) rfl rfl Try.underlying30 hv (mv (v := (.int .i64 most)) rfl rfl ?_)))))
 by_cases h1 : ((cs.length : Int) : Int) > ((most : Int) : Int)
 · refine cmp (a := (cs.length : Int)) (b := (most : Int)) rfl rfl rfl (c_gt h1) (wl_nil (tN ((hK3 _ _ ?_))))
   refine cdT rfl (sq fun K4 hK4 => (rg (asg (v := (.bool false)) rfl rfl (wl_nil (tN ((hK4 _ _ ?_)))))))
   refine rt (tR (?_))
   refine ret1 (v := (.bool false)) Try.results8 rfl ?_
   exact ⟨eqB (by simp [fewS]; omega), rfl⟩
 · refine cmp (a := (cs.length : Int)) (b := (most : Int)) rfl rfl rfl (c_ngt h1) (wl_nil (tN ((hK3 _ _ ?_))))
   refine cdF rfl (sp (tN ((hK2 _ _ ?_))))
   refine sq fun K5 hK5 => (sq fun K6 hK6 => (rg (asg (v := (.int .i64 0)) rfl rfl (wl_nil (tN ((hK6 _ _ ?_)))))))
   refine bk (lp (α := Nat) (fun k => [(0, v), (5, (.int .i64 k))]) (fun k w1 => w = w1 ∧ k ≤ cs.length ∧ (cs.take k).all fewC = true) (fun k => cs.length - k) 0 ⟨rfl, eqI (by first | rfl | omega), trivial⟩ (⟨rfl, by omega, rfl⟩) ?_)
   rintro k s1 w1 ⟨rfl, hk1, hal⟩
   refine sq fun K7 hK7 => (sq fun K8 hK8 => (rg (mv (v := (.int .i64 k)) rfl rfl (mv (v := v) rfl rfl (lenI (v := v) rfl rfl Try.underlying30 hv ?_)))))
   by_cases h2 : ((k : Int) : Int) < ((cs.length : Int) : Int)
   · refine cmp (a := (k : Int)) (b := (cs.length : Int)) rfl rfl rfl (c_lt h2) ?_
     obtain ⟨c, hc⟩ := get_some (show k < cs.length by omega)
     obtain ⟨d1, b1, hat1, -, hd1, hb1⟩ := hv.at hc
     have hl1 := hd1.len
     have hl2 := hb1.len
     refine wl_nil (tN ((hK8 _ _ ?_)))
     refine cdT rfl (sp (tN ((hK7 _ _ ?_))))
     refine sq fun K9 hK9 => (bk (sq fun K10 hK10 => (rg (mv (v := v) rfl rfl (mv (v := (.int .i64 k)) rfl rfl (ixC (k := k) (i := (k : Int)) rfl rfl rfl Try.underlying30 ti28 hv (by omega) hc (by omega) (faC (off := 5) rfl rfl Try.underlying28 rfl ti25 rfl hat1 ?_)))))))
     refine ldF (u := d1) rfl rfl Try.underlying25 rfl hat1 rfl (lenI (v := d1) rfl rfl Try.underlying25 hd1 ?_)
     by_cases h3 : ((c.dr.length : Int) : Int) > (50 : Int)
     · refine cmp (a := (c.dr.length : Int)) (b := 50) rfl rfl rfl (c_gt h3) (mv (v := (.bool true)) rfl rfl (sk rfl (sk rfl (sk rfl (sk rfl (sk rfl (sk rfl ?_)))))))
       refine sk rfl (pkT (v := (.bool true)) rfl rfl rfl (wl_nil (tN ((hK10 _ _ ?_)))))
       refine cdT rfl (sq fun K11 hK11 => (rg (asg (v := (.bool false)) rfl rfl (wl_nil (tN ((hK11 _ _ ?_)))))))
       refine rt (bR (tR (tR (bR (tR (?_))))))
       refine ret1 (v := (.bool false)) Try.results8 rfl ?_
       exact ⟨eqB (few_no hc (by simp [fewC]; omega)).symm, rfl⟩
     · refine cmp (a := (c.dr.length : Int)) (b := 50) rfl rfl rfl (c_ngt h3) (mv (v := (.bool false)) rfl rfl (mv (v := v) rfl rfl (mv (v := (.int .i64 k)) rfl rfl (ixC (k := k) (i := (k : Int)) rfl rfl rfl Try.underlying30 ti28 hv (by omega) hc (by omega) (faC (off := 6) rfl rfl Try.underlying28 rfl ti26 rfl hat1 (ldF (u := b1) rfl rfl Try.underlying26 rfl hat1 rfl (lenI (v := b1) rfl rfl Try.underlying26 hb1 ?_)))))))
       by_cases h4 : ((c.bo.length : Int) : Int) > (50 : Int)
       · refine cmp (a := (c.bo.length : Int)) (b := 50) rfl rfl rfl (c_gt h4) (pkF (v := (.bool true)) rfl rfl rfl (wl_nil (tN ((hK10 _ _ ?_)))))
         refine cdT rfl (sq fun K12 hK12 => (rg (asg (v := (.bool false)) rfl rfl (wl_nil (tN ((hK12 _ _ ?_)))))))
         refine rt (bR (tR (tR (bR (tR (?_))))))
         refine ret1 (v := (.bool false)) Try.results8 rfl ?_
         exact ⟨eqB (few_no hc (by simp [fewC]; omega)).symm, rfl⟩
       · refine cmp (a := (c.bo.length : Int)) (b := 50) rfl rfl rfl (c_ngt h4) (pkF (v := (.bool false)) rfl rfl rfl (wl_nil (tN ((hK10 _ _ ?_)))))
         refine cdF rfl (sp (bN (tN ((hK9 _ _ ?_)))))
         refine rg (mv (v := (.int .i64 k)) rfl rfl (ar (a := (k : Int)) (b := 1) (c := (k : Int) + 1) rfl rfl rfl rfl (w64 (by omega)) (asg (v := (.int .i64 ((k : Int) + 1))) rfl rfl (wl_nil (tN (?_))))))
         exact again (k + 1) ⟨rfl, eqI (by first | rfl | omega), trivial⟩ (⟨rfl, by omega, by rw [take_get hc, List.all_append, hal]; simp [fewC]; omega⟩) (by show (cs.length - (k + 1) : Nat) < cs.length - k; omega)
   · refine cmp (a := (k : Int)) (b := (cs.length : Int)) rfl rfl rfl (c_nlt h2) (wl_nil (tN ((hK8 _ _ ?_))))
     refine cdF rfl (xt (tX (tX (bX (tN ((hK5 _ _ ?_)))))))
     refine sq fun K13 hK13 => (rg (asg (v := (.bool true)) rfl rfl (wl_nil (tN ((hK13 _ _ ?_))))))
     refine rt (ret1 (v := (.bool true)) Try.results8 rfl ?_)
     exact ⟨eqB (by rw [List.take_of_length_le (by omega)] at hal; simp only [fewS, hal]; simp; omega), rfl⟩
theorem works_ok (w : World) :
 CR Try.prog 9 #[] w (fun r w' => r = .bool true ∧ Chg [] w w') := by
 refine enter (vs := []) Try.func9 rfl Try.ntmps9 rfl ?_
 have hst0 := St.init w
 refine sq fun K1 hK1 => (rg (asg (v := (.bool false)) rfl rfl (wl_nil (tN ((hK1 _ _ ?_))))))
 refine sq fun K2 hK2 => (rg (bld (pvs := [(0, (.int .i64 15))]) (v := .agg #[(.int .i64 15), (.int .u64 0), (.int .u64 0), (.int .i64 0), (.int .i64 0), (.slice none 0 0), (.slice none 0 0)]) rfl rfl (buildS [(0, [(.int .i64 15)])] ti28 pl28 rfl ⟨rfl, rfl, trivial⟩ rfl) (clF (vl := [(.slice none 0 0), (.agg #[(.int .i64 15), (.int .u64 0), (.int .u64 0), (.int .i64 0), (.int .i64 0), (.slice none 0 0), (.slice none 0 0)])]) rfl rfl ent10 (Append_ok (.slice none 0 0) [] w (Sl.nil _ _ _ _) (by simp) c15 (.slice none 0 0) (.slice none 0 0) (ok_small (by omega) (by omega)) (Sl.nil _ _ _ _) (Sl.nil _ _ _ _)) ?_)))
 rintro _ w1 ⟨v1, rfl, hf1, hq1⟩
 rw [b6_app] at hf1 ⊢
 have hs1 : St ((w1, []) :: _) [] w1 := (St.grow hst0 hq1).rebase
 have hI1 : Ints .u8 (fun _ => True) w1 v1 [1, 15, 56, 102, 141, 115] := (hf1.ints b6_in).any
 refine mv (v := (.tuple #[v1, (.int .i64 0)])) rfl rfl (ex (vs := #[v1, (.int .i64 0)]) (v := v1) rfl rfl rfl (ex (vs := #[v1, (.int .i64 0)]) (v := (.int .i64 0)) rfl rfl rfl (asg (v := v1) rfl rfl (asg (v := (.int .i64 0)) rfl rfl (wl_nil (tN ((hK2 _ _ ?_))))))))
 refine sq fun K3 hK3 => (sq fun K4 hK4 => (rg (mv (v := (.int .i64 0)) rfl rfl (cmp (a := 0) (b := 0) rfl rfl rfl (c_nne (by decide)) (mv (v := (.bool false)) rfl rfl (mv (v := v1) rfl rfl (lenI (v := v1) rfl rfl Try.underlying22 hI1 ?_)))))))
 refine cmp (a := (([1, 15, 56, 102, 141, 115]).length : Int)) (b := 6) rfl rfl rfl (c_nne (by simp)) (pkF (v := (.bool false)) rfl rfl rfl (mv (v := (.bool false)) rfl rfl (mv (v := v1) rfl rfl (ixI (i := 0) (el := 1) rfl rfl rfl Try.underlying22 ti5 hI1 (by omega) rfl ?_))))
 intro b1 o1 hx1 hi1 ho1
 have hi1' := hi1.u8
 refine ld (a := ⟨b1, o1, none⟩) (v := (.int .u8 1)) rfl rfl Try.underlying5 rfl hx1 (cmp (a := 1) (b := 1) rfl rfl rfl (c_nne (by decide)) (pkF (v := (.bool false)) rfl rfl rfl (mv (v := (.bool false)) rfl rfl (mv (v := v1) rfl rfl (ixI (i := 1) (el := 15) rfl rfl rfl Try.underlying22 ti5 hI1 (by omega) rfl ?_)))))
 intro b2 o2 hx2 hi2 ho2
 have hi2' := hi2.u8
 refine ld (a := ⟨b2, o2, none⟩) (v := (.int .u8 15)) rfl rfl Try.underlying5 rfl hx2 (cmp (a := 15) (b := 15) rfl rfl rfl (c_nne (by decide)) (pkF (v := (.bool false)) rfl rfl rfl (wl_nil (tN ((hK4 _ _ ?_))))))
 refine cdF rfl (sp (tN ((hK3 _ _ ?_))))
 refine sq fun K5 hK5 => (rg (mv (v := v1) rfl rfl (clF (vl := [v1]) rfl rfl ent16 (Read_ok v1 [1, 15, 56, 102, 141, 115] w1 (Sl.any hI1) (by simp)) ?_)))
 rintro _ w2 ⟨lv1, rfl, hcm1, hq2⟩
 rw [b6_read] at hcm1 ⊢
 have hs2 : St ((w2, []) :: _) [] w2 := (St.grow hs1 hq2).rebase
 obtain ⟨d1, b1, hat, -⟩ := hcm1.at (k := 0) rfl
 refine mv (v := (.tuple #[lv1, (.int .i64 6)])) rfl rfl (ex (vs := #[lv1, (.int .i64 6)]) (v := lv1) rfl rfl rfl (ex (vs := #[lv1, (.int .i64 6)]) (v := (.int .i64 6)) rfl rfl rfl (asg (v := lv1) rfl rfl (asg (v := (.int .i64 6)) rfl rfl (wl_nil (tN ((hK5 _ _ ?_))))))))
 refine sq fun K6 hK6 => (rg (mv (v := v1) rfl rfl (slI (l := 0) (h := 5) rfl rfl Try.underlying22 ti5 hI1 rfl ⟨_, eqI (by omega)⟩ (by first | omega | simp) (by first | omega | simp) (fun v2 hv1 => clF (vl := [v2]) rfl rfl ent16 (Read_ok v2 [1, 15, 56, 102, 141] w2 (Sl.any (by have h9 := (St.ints0 hs2 (by simp) hv1); exact h9)) (by simp)) ?_))))
 rintro _ w3 ⟨lv2, rfl, hcm2, hq3⟩
 rw [b5_read] at hcm2 ⊢
 have hs3 : St ((w3, []) :: _) [] w3 := (St.grow hs2 hq3).rebase
 refine mv (v := (.tuple #[lv2, (.int .i64 0)])) rfl rfl (ex (vs := #[lv2, (.int .i64 0)]) (v := lv2) rfl rfl rfl (ex (vs := #[lv2, (.int .i64 0)]) (v := (.int .i64 0)) rfl rfl rfl (asg (v := lv2) rfl rfl (asg (v := (.int .i64 0)) rfl rfl (wl_nil (tN ((hK6 _ _ ?_))))))))
 refine sq fun K7 hK7 => (rg (mv (v := v1) rfl rfl (slI (l := 0) (h := 5) rfl rfl Try.underlying22 ti5 hI1 rfl ⟨_, eqI (by omega)⟩ (by first | omega | simp) (by first | omega | simp) (fun v3 hv2 => bld (pvs := [(0, (.int .i64 15))]) (v := .agg #[(.int .i64 15), (.int .u64 0), (.int .u64 0), (.int .i64 0), (.int .i64 0), (.slice none 0 0), (.slice none 0 0)]) rfl rfl (buildS [(0, [(.int .i64 15)])] ti28 pl28 rfl ⟨rfl, rfl, trivial⟩ rfl) (clF (vl := [v3, (.agg #[(.int .i64 15), (.int .u64 0), (.int .u64 0), (.int .i64 0), (.int .i64 0), (.slice none 0 0), (.slice none 0 0)])]) rfl rfl ent10 (Append_ok v3 [1, 15, 56, 102, 141] w3 (Sl.any (by have h9 := (St.ints0 hs3 (by simp) hv2); exact h9)) (by simp) c15 (.slice none 0 0) (.slice none 0 0) (ok_small (by omega) (by omega)) (Sl.nil _ _ _ _) (Sl.nil _ _ _ _)) ?_)))))
 rintro _ w4 ⟨v4, rfl, hf2, hq4⟩
 rw [b5_app] at hf2 ⊢
 have hs4 : St ((w4, []) :: _) [] w4 := (St.grow hs3 hq4).rebase
 refine mv (v := (.tuple #[v4, (.int .i64 15)])) rfl rfl (ex (vs := #[v4, (.int .i64 15)]) (v := v4) rfl rfl rfl (ex (vs := #[v4, (.int .i64 15)]) (v := (.int .i64 15)) rfl rfl rfl (asg (v := v4) rfl rfl (asg (v := (.int .i64 15)) rfl rfl (wl_nil (tN ((hK7 _ _ ?_))))))))
 refine sq fun K8 hK8 => (rg (mv (v := lv1) rfl rfl (lenI (v := lv1) rfl rfl Try.underlying30 hcm1 (cmp (a := (([c15]).length : Int)) (b := 1) rfl rfl rfl (c_eq (by simp)) (mv (v := (.bool true)) rfl rfl (mv (v := lv1) rfl rfl (ixC (k := 0) (i := 0) rfl rfl rfl Try.underlying30 ti28 hcm1 (by omega) rfl (by omega) ?_)))))))
 refine faC (off := 0) rfl rfl Try.underlying28 rfl ti23 rfl hat (ldF (u := (.int .i64 c15.op)) rfl rfl Try.underlying23 rfl (St.cmdAt0 hs4 (by simp) hat) rfl (cmp (a := c15.op) (b := 15) rfl rfl rfl (c_eq rfl) (pkT (v := (.bool true)) rfl rfl rfl (mv (v := (.bool true)) rfl rfl (mv (v := (.int .i64 6)) rfl rfl (cmp (a := 6) (b := 6) rfl rfl rfl (c_eq (by decide)) (pkT (v := (.bool true)) rfl rfl rfl ?_)))))))
 refine mv (v := (.bool true)) rfl rfl (mv (v := lv2) rfl rfl (lenI (v := lv2) rfl rfl Try.underlying30 hcm2 (cmp (a := (([] : List Cmd).length : Int)) (b := 0) rfl rfl rfl (c_eq (by simp)) (pkT (v := (.bool true)) rfl rfl rfl (mv (v := (.bool true)) rfl rfl (mv (v := (.int .i64 0)) rfl rfl (cmp (a := 0) (b := 0) rfl rfl rfl (c_eq (by decide)) ?_)))))))
 refine pkT (v := (.bool true)) rfl rfl rfl (mv (v := (.bool true)) rfl rfl (mv (v := (.int .i64 15)) rfl rfl (cmp (a := 15) (b := 15) rfl rfl rfl (c_eq (by decide)) (pkT (v := (.bool true)) rfl rfl rfl (mv (v := (.bool true)) rfl rfl (bld (pvs := [(0, (.int .i64 2)), (4, (.int .i64 5))]) (v := .agg #[(.int .i64 2), (.int .u64 0), (.int .u64 0), (.int .i64 0), (.int .i64 5), (.slice none 0 0), (.slice none 0 0)]) rfl rfl (buildS [(0, [(.int .i64 2)]), (4, [(.int .i64 5)])] ti28 pl28 rfl ⟨rfl, rfl, rfl, rfl, trivial⟩ rfl) (clF (vl := [(.agg #[(.int .i64 2), (.int .u64 0), (.int .u64 0), (.int .i64 0), (.int .i64 5), (.slice none 0 0), (.slice none 0 0)])]) rfl rfl ent13 (Changes_ok ⟨2, 0, 0, 0, 5, [], []⟩ (.slice none 0 0) (.slice none 0 0) w4 (ok_small (by omega) (by omega)) (Sl.nil _ _ _ _) (Sl.nil _ _ _ _)) ?_)))))))
 rintro _ w5 ⟨rfl, hq5⟩
 rw [ch_tick]
 have hs5 : St ((w5, []) :: _) [] w5 := (St.grow hs4 hq5).rebase
 refine pkT (v := (.bool true)) rfl rfl rfl (mv (v := (.bool true)) rfl rfl (bld (pvs := [(0, (.int .i64 5))]) (v := .agg #[(.int .i64 5), (.int .u64 0), (.int .u64 0), (.int .i64 0), (.int .i64 0), (.slice none 0 0), (.slice none 0 0)]) rfl rfl (buildS [(0, [(.int .i64 5)])] ti28 pl28 rfl ⟨rfl, rfl, trivial⟩ rfl) (clF (vl := [(.agg #[(.int .i64 5), (.int .u64 0), (.int .u64 0), (.int .i64 0), (.int .i64 0), (.slice none 0 0), (.slice none 0 0)])]) rfl rfl ent13 (Changes_ok ⟨5, 0, 0, 0, 0, [], []⟩ (.slice none 0 0) (.slice none 0 0) w5 (ok_small (by omega) (by omega)) (Sl.nil _ _ _ _) (Sl.nil _ _ _ _)) ?_)))
 rintro _ w6 ⟨rfl, hq6⟩
 rw [ch_count]
 have hs6 : St ((w6, []) :: _) [] w6 := (St.grow hs5 hq6).rebase
 refine not (b := false) (c := true) rfl rfl rfl (pkT (v := (.bool true)) rfl rfl rfl (asg (v := (.bool true)) rfl rfl (wl_nil (tN ((hK8 _ _ ?_))))))
 refine rt (ret1 (v := (.bool true)) Try.results9 rfl ?_)
 exact ⟨rfl, hs6.chg (by simp)⟩
theorem journaled_ok (v : Value) (cs : List Cmd) (w : World) (hv : Cmds (fun _ => True) w v cs) (hn : cs.length ≤ 1000) :
 CR Try.prog 15 #[v] w (fun r w' => ∃ vb vk ve, r = .tuple #[vb, vk, ve] ∧ Ints .u8 (fun _ => True) w' vb (jS (cs.filter okC)) ∧ Cmds (fun _ => True) w' vk (cs.filter okC) ∧ Ints .i64 (fun _ => True) w' ve (endsS (cs.filter okC)) ∧ (∀ c ∈ cs.filter okC, GoodC c) ∧ Chg [] w w') := by
 refine enter (vs := [v]) Try.func15 rfl Try.ntmps15 rfl ?_
 have hst0 := St.init w
 refine sq fun K1 hK1 => (rg (asg (v := (.slice none 0 0)) rfl rfl (asg (v := (.slice none 0 0)) rfl rfl (asg (v := (.slice none 0 0)) rfl rfl (wl_nil (tN ((hK1 _ _ ?_))))))))
 refine sq fun K2 hK2 => (rg (asg (v := (.slice none 0 0)) rfl rfl (wl_nil (tN ((hK2 _ _ ?_))))))
 refine sq fun K3 hK3 => (rg (asg (v := (.slice none 0 0)) rfl rfl (wl_nil (tN ((hK3 _ _ ?_))))))
 refine sq fun K4 hK4 => (rg (asg (v := (.slice none 0 0)) rfl rfl (wl_nil (tN ((hK4 _ _ ?_))))))
 refine sq fun K5 hK5 => (sq fun K6 hK6 => (rg (asg (v := (.int .i64 0)) rfl rfl (wl_nil (tN ((hK6 _ _ ?_)))))))
 refine bk ?_
 have hs1 : St _ [rowI .i64 (.slice none 0 0) 3 ([])] w := St.addNil hst0 3 1
 have hs2 : St _ [row (.slice none 0 0) 28 7 0 ([]), rowI .i64 (.slice none 0 0) 3 ([])] w := St.addNil hs1 28 7
 have hs3 : St _ [rowI .u8 (.slice none 0 0) 5 ([]), row (.slice none 0 0) 28 7 0 ([]), rowI .i64 (.slice none 0 0) 3 ([])] w := St.addNil hs2 5 1
 refine lp (α := Nat × Value × Value × List CT × Value) (fun (k, vb, vk, ts, ve) => [(0, v), (5, vb), (6, vk), (7, ve), (8, (.int .i64 k))]) (fun (k, vb, vk, ts, ve) w1 => St [(w, [])] [rowI .u8 vb 5 (jS (ts.map Prod.fst)), row vk 28 7 ts.length (ts.flatMap CT.cells), rowI .i64 ve 3 (endsS (ts.map Prod.fst))] w1 ∧ k ≤ cs.length ∧ ts.map Prod.fst = (cs.take k).filter okC ∧ TsIn w ts ∧ ts.length ≤ k ∧ ∀ c ∈ ts.map Prod.fst, GoodC c) (fun (k, vb, vk, ts, ve) => cs.length - k) (0, (.slice none 0 0), (.slice none 0 0), [], (.slice none 0 0)) ⟨rfl, rfl, rfl, rfl, eqI (by first | rfl | omega), trivial⟩ (⟨hs3, by omega, rfl, TsIn.nil _, by simp, by simp⟩) ?_
 rintro ⟨k, vb, vk, ts, ve⟩ s1 w1 ⟨hst, hk9, htk, hti, htl, hgood⟩
 refine sq fun K7 hK7 => (sq fun K8 hK8 => (rg (mv (v := (.int .i64 k)) rfl rfl (mv (v := v) rfl rfl (lenI (v := v) rfl rfl Try.underlying30 hv ?_)))))
 by_cases h1 : ((k : Int) : Int) < ((cs.length : Int) : Int)
 · refine cmp (a := (k : Int)) (b := (cs.length : Int)) rfl rfl rfl (c_lt h1) ?_
   obtain ⟨c, hc⟩ := get_some (show k < cs.length by omega)
   obtain ⟨dv, bv, hat, hcok, hd, hb⟩ := hv.at hc
   have hjl := jS_len hgood
   rw [List.length_map] at hjl
   refine wl_nil (tN ((hK8 _ _ ?_)))
   refine cdT rfl (sp (tN ((hK7 _ _ ?_))))
   refine sq fun K9 hK9 => (bk (sq fun K10 hK10 => (rg (mv (v := vb) rfl rfl (mv (v := v) rfl rfl (mv (v := (.int .i64 k)) rfl rfl (ixC (k := k) (i := (k : Int)) rfl rfl rfl Try.underlying30 ti28 hv (by omega) hc (by omega) ?_)))))))
   refine ldC (cs' := #[(.int .i64 c.op), (.int .u64 c.u), (.int .u64 c.v), (.int .i64 c.wt), (.int .i64 c.t), dv, bv]) rfl rfl Try.underlying28 rfl ti28 (St.cmdAt0 hst (by simp) hat) rfl ?_
   obtain ⟨cq1, hg1⟩ : ∃ q, decide (checkS c = 0) = q := ⟨_, rfl⟩
   rcases cq1 with _ | _
   · skip
     refine clF (vl := [vb, (.agg #[(.int .i64 c.op), (.int .u64 c.u), (.int .u64 c.v), (.int .i64 c.wt), (.int .i64 c.t), dv, bv])]) rfl rfl ent10 (Append_ok vb (jS (ts.map Prod.fst)) w1 (St.rowInts hst (i := 0) rfl (jS_in hgood)).any (by omega) c dv bv hcok (St.ints0 hst (by simp) hd) (St.ints0 hst (by simp) hb)) ?_
     rintro _ w2 ⟨v1, rfl, hf1, hq1⟩
     have hk1 : ¬ checkS c = 0 := of_decide_eq_false hg1
     rw [app_bad hk1]
     have hs4 : St _ [rowI .u8 vb 5 (jS (ts.map Prod.fst)), row vk 28 7 ts.length (ts.flatMap CT.cells), rowI .i64 ve 3 (endsS (ts.map Prod.fst))] w2 := St.grow hst hq1
     refine mv (v := (.tuple #[v1, (.int .i64 (checkS c))])) rfl rfl (ex (vs := #[v1, (.int .i64 (checkS c))]) (v := v1) rfl rfl rfl (ex (vs := #[v1, (.int .i64 (checkS c))]) (v := (.int .i64 (checkS c))) rfl rfl rfl (asg (v := v1) rfl rfl (asg (v := (.int .i64 (checkS c))) rfl rfl (wl_nil (tN ((hK10 _ _ ?_))))))))
     refine sq fun K11 hK11 => (sq fun K12 hK12 => (rg (mv (v := (.int .i64 (checkS c))) rfl rfl (cmp (a := checkS c) (b := 0) rfl rfl rfl (c_neq hk1) (mv (v := v) rfl rfl (mv (v := (.int .i64 k)) rfl rfl (ixC (k := k) (i := (k : Int)) rfl rfl rfl Try.underlying30 ti28 hv (by omega) hc (by omega) ?_)))))))
     refine ldC (cs' := #[(.int .i64 c.op), (.int .u64 c.u), (.int .u64 c.v), (.int .i64 c.wt), (.int .i64 c.t), dv, bv]) rfl rfl Try.underlying28 rfl ti28 (St.cmdAt0 hs4 (by simp) hat) rfl (clF (vl := [(.agg #[(.int .i64 c.op), (.int .u64 c.u), (.int .u64 c.v), (.int .i64 c.wt), (.int .i64 c.t), dv, bv])]) rfl rfl ent28 (Check_ok c dv bv w2 hcok (St.ints0 hs4 (by simp) hd) (St.ints0 hs4 (by simp) hb)) ?_)
     rintro _ w3 ⟨rfl, hq9⟩
     have hs5 : St _ [rowI .u8 vb 5 (jS (ts.map Prod.fst)), row vk 28 7 ts.length (ts.flatMap CT.cells), rowI .i64 ve 3 (endsS (ts.map Prod.fst))] w3 := St.grow hs4 hq9
     refine cmp (a := checkS c) (b := 0) rfl rfl rfl (c_neq hk1) (neBool (c := false) rfl rfl rfl Try.underlying4 rfl (wl_nil (tN ((hK12 _ _ ?_)))))
     refine cdF rfl (sp (tN ((hK11 _ _ ?_))))
     refine sq fun K13 hK13 => (rg (mv (v := (.int .i64 (checkS c))) rfl rfl (cmp (a := checkS c) (b := 0) rfl rfl rfl (c_neq hk1) (wl_nil (tN ((hK13 _ _ ?_)))))))
     refine cdF rfl (sp (bN (tN ((hK9 _ _ ?_)))))
     refine rg (mv (v := (.int .i64 k)) rfl rfl (ar (a := (k : Int)) (b := 1) (c := (k : Int) + 1) rfl rfl rfl rfl (w64 (by omega)) (asg (v := (.int .i64 ((k : Int) + 1))) rfl rfl (wl_nil (tN (?_))))))
     exact again ((k + 1), vb, vk, ts, ve) ⟨rfl, rfl, rfl, rfl, eqI (by first | rfl | omega), trivial⟩ (⟨hs5, by omega, by rw [take_get hc, List.filter_append, htk]; simp [okC, hk1], hti, by omega, hgood⟩) (by show (cs.length - (k + 1) : Nat) < cs.length - k; omega)
   · skip
     refine clF (vl := [vb, (.agg #[(.int .i64 c.op), (.int .u64 c.u), (.int .u64 c.v), (.int .i64 c.wt), (.int .i64 c.t), dv, bv])]) rfl rfl ent10 (Append_ok vb (jS (ts.map Prod.fst)) w1 (St.rowInts hst (i := 0) rfl (jS_in hgood)).any (by omega) c dv bv hcok (St.ints0 hst (by simp) hd) (St.ints0 hst (by simp) hb)) ?_
     rintro _ w4 ⟨v2, rfl, hf2, hq2⟩
     have hk0 : checkS c = 0 := of_decide_eq_true hg1
     rw [app_jS hgood hk0, show ts.map Prod.fst ++ [c] = ((ts ++ [(c, dv, bv)]).map Prod.fst) by rw [List.map_append]; rfl] at hf2
     rw [app_jS hgood hk0]
     have hs6 : St _ [rowI .u8 v2 5 (jS ((ts ++ [(c, dv, bv)]).map Prod.fst)), rowI .u8 vb 5 (jS (ts.map Prod.fst)), row vk 28 7 ts.length (ts.flatMap CT.cells), rowI .i64 ve 3 (endsS (ts.map Prod.fst))] w4 := St.addFresh hst hq2 hf2
     refine mv (v := (.tuple #[v2, (.int .i64 0)])) rfl rfl (ex (vs := #[v2, (.int .i64 0)]) (v := v2) rfl rfl rfl (ex (vs := #[v2, (.int .i64 0)]) (v := (.int .i64 0)) rfl rfl rfl (asg (v := v2) rfl rfl (asg (v := (.int .i64 0)) rfl rfl (wl_nil (tN ((hK10 _ _ ?_))))))))
     refine sq fun K14 hK14 => (sq fun K15 hK15 => (rg (mv (v := (.int .i64 0)) rfl rfl (cmp (a := 0) (b := 0) rfl rfl rfl (c_eq (by decide)) (mv (v := v) rfl rfl (mv (v := (.int .i64 k)) rfl rfl (ixC (k := k) (i := (k : Int)) rfl rfl rfl Try.underlying30 ti28 hv (by omega) hc (by omega) ?_)))))))
     refine ldC (cs' := #[(.int .i64 c.op), (.int .u64 c.u), (.int .u64 c.v), (.int .i64 c.wt), (.int .i64 c.t), dv, bv]) rfl rfl Try.underlying28 rfl ti28 (St.cmdAt0 hs6 (by simp) hat) rfl (clF (vl := [(.agg #[(.int .i64 c.op), (.int .u64 c.u), (.int .u64 c.v), (.int .i64 c.wt), (.int .i64 c.t), dv, bv])]) rfl rfl ent28 (Check_ok c dv bv w4 hcok (St.ints0 hs6 (by simp) hd) (St.ints0 hs6 (by simp) hb)) ?_)
     rintro _ w5 ⟨rfl, hq9⟩
     have hs7 : St _ [rowI .u8 v2 5 (jS ((ts ++ [(c, dv, bv)]).map Prod.fst)), rowI .u8 vb 5 (jS (ts.map Prod.fst)), row vk 28 7 ts.length (ts.flatMap CT.cells), rowI .i64 ve 3 (endsS (ts.map Prod.fst))] w5 := St.grow hs6 hq9
     refine cmp (a := checkS c) (b := 0) rfl rfl rfl (c_eq hk0) (neBool (c := false) rfl rfl rfl Try.underlying4 rfl (wl_nil (tN ((hK15 _ _ ?_)))))
     refine cdF rfl (sp (tN ((hK14 _ _ ?_))))
     refine sq fun K16 hK16 => (rg (mv (v := (.int .i64 0)) rfl rfl (cmp (a := 0) (b := 0) rfl rfl rfl (c_eq (by decide)) (wl_nil (tN ((hK16 _ _ ?_)))))))
     refine cdT rfl (sq fun K17 hK17 => (rg (mv (v := v2) rfl rfl (asg (v := v2) rfl rfl (wl_nil (tN ((hK17 _ _ ?_))))))))
     refine sq fun K18 hK18 => (rg (mv (v := vk) rfl rfl (mv (v := v) rfl rfl (mv (v := (.int .i64 k)) rfl rfl (ixC (k := k) (i := (k : Int)) rfl rfl rfl Try.underlying30 ti28 hv (by omega) hc (by omega) (ldC (cs' := #[(.int .i64 c.op), (.int .u64 c.u), (.int .u64 c.v), (.int .i64 c.wt), (.int .i64 c.t), dv, bv]) rfl rfl Try.underlying28 rfl ti28 (St.cmdAt0 hs7 (by simp) hat) rfl (bsv (vs := [(.agg #[(.int .i64 c.op), (.int .u64 c.u), (.int .u64 c.v), (.int .i64 c.wt), (.int .i64 c.t), dv, bv])]) (cs := [(.int .i64 c.op), (.int .u64 c.u), (.int .u64 c.v), (.int .i64 c.wt), (.int .i64 c.t), dv, bv]) rfl rfl Try.underlying30 ti28 rfl (by simp [Value.cells]) rfl rfl rfl hs7 ?_)))))))
     intro b1 w6 hn1 hc1 hs8
     have hs8 : St _ [row (.slice (some ⟨b1, 0, none⟩) 1 1) 28 7 1 ([(.int .i64 c.op), (.int .u64 c.u), (.int .u64 c.v), (.int .i64 c.wt), (.int .i64 c.t), dv, bv]), rowI .u8 v2 5 (jS ((ts ++ [(c, dv, bv)]).map Prod.fst)), rowI .u8 vb 5 (jS (ts.map Prod.fst)), row vk 28 7 ts.length (ts.flatMap CT.cells), rowI .i64 ve 3 (endsS (ts.map Prod.fst))] w6 := hs8
     refine apd (m := ts.length) (cnt := 1) (xs := ts.flatMap CT.cells) (news := [(.int .i64 c.op), (.int .u64 c.u), (.int .u64 c.v), (.int .i64 c.wt), (.int .i64 c.t), dv, bv]) 3 rfl rfl rfl Try.underlying30 ti28 rfl (by decide) hs8 rfl (St.rowSrc hs8 (i := 0) rfl) (fun x hx => List.all_eq_true.1 (all1 rfl (all1 rfl (all1 rfl (all1 rfl (all1 rfl (all1 (Sl.one1 hd) (all1 (Sl.one1 hb) all0))))))) x hx) (by omega) (by simp only [maxLen]; omega) ?_
     intro v3 w7 hs9 hc2
     have hs9 : St _ [row (.slice (some ⟨b1, 0, none⟩) 1 1) 28 7 1 ([(.int .i64 c.op), (.int .u64 c.u), (.int .u64 c.v), (.int .i64 c.wt), (.int .i64 c.t), dv, bv]), rowI .u8 v2 5 (jS ((ts ++ [(c, dv, bv)]).map Prod.fst)), rowI .u8 vb 5 (jS (ts.map Prod.fst)), row v3 28 7 (ts.length + 1) ((ts.flatMap CT.cells) ++ ([(.int .i64 c.op), (.int .u64 c.u), (.int .u64 c.v), (.int .i64 c.wt), (.int .i64 c.t), dv, bv])), rowI .i64 ve 3 (endsS (ts.map Prod.fst))] w7 := hs9
     have hs10 := St.sub (L' := [rowI .u8 v2 5 (jS ((ts ++ [(c, dv, bv)]).map Prod.fst)), rowI .u8 vb 5 (jS (ts.map Prod.fst)), row v3 28 7 (ts.length + 1) ((ts.flatMap CT.cells) ++ ([(.int .i64 c.op), (.int .u64 c.u), (.int .u64 c.v), (.int .i64 c.wt), (.int .i64 c.t), dv, bv])), rowI .i64 ve 3 (endsS (ts.map Prod.fst))]) hs9 (List.Sublist.cons _ (List.Sublist.refl _))
     refine asg (v := v3) rfl rfl (wl_nil (tN ((hK18 _ _ ?_))))
     refine rg (mv (v := ve) rfl rfl (mv (v := v2) rfl rfl (lenR (m := (jS ((ts ++ [(c, dv, bv)]).map Prod.fst)).length) 0 rfl rfl Try.underlying22 hs10 rfl (bsv (vs := [(.int .i64 (((jS ((ts ++ [(c, dv, bv)]).map Prod.fst)).length : Nat) : Int))]) (cs := [(.int .i64 (((jS ((ts ++ [(c, dv, bv)]).map Prod.fst)).length : Nat) : Int))]) rfl rfl Try.underlying38 ti3 rfl (by simp [Value.cells]) rfl rfl rfl hs10 ?_))))
     intro b2 w8 hn2 hc3 hs11
     have hs11 : St _ [rowI .i64 (.slice (some ⟨b2, 0, none⟩) 1 1) 3 ([(((jS ((ts ++ [(c, dv, bv)]).map Prod.fst)).length : Nat) : Int)]), rowI .u8 v2 5 (jS ((ts ++ [(c, dv, bv)]).map Prod.fst)), rowI .u8 vb 5 (jS (ts.map Prod.fst)), row v3 28 7 (ts.length + 1) ((ts.flatMap CT.cells) ++ ([(.int .i64 c.op), (.int .u64 c.u), (.int .u64 c.v), (.int .i64 c.wt), (.int .i64 c.t), dv, bv])), rowI .i64 ve 3 (endsS (ts.map Prod.fst))] w8 := hs11
     refine apdI (k := .i64) (ys := endsS (ts.map Prod.fst)) (zs := [(((jS ((ts ++ [(c, dv, bv)]).map Prod.fst)).length : Nat) : Int)]) (LL := fun v4 => [rowI .i64 (.slice (some ⟨b2, 0, none⟩) 1 1) 3 ([(((jS ((ts ++ [(c, dv, bv)]).map Prod.fst)).length : Nat) : Int)]), rowI .u8 v2 5 (jS ((ts ++ [(c, dv, bv)]).map Prod.fst)), rowI .u8 vb 5 (jS (ts.map Prod.fst)), row v3 28 7 (ts.length + 1) ((ts.flatMap CT.cells) ++ ([(.int .i64 c.op), (.int .u64 c.u), (.int .u64 c.v), (.int .i64 c.wt), (.int .i64 c.t), dv, bv])), rowI .i64 v4 3 ((endsS (ts.map Prod.fst)) ++ ([(((jS ((ts ++ [(c, dv, bv)]).map Prod.fst)).length : Nat) : Int)]))]) 4 rfl rfl rfl Try.underlying38 ti3 rfl hs11 rfl (St.rowSrc hs11 (i := 0) rfl) (by simp; rw [show (endsS (ts.map Prod.fst)).length = (ts.map Prod.fst).length from ends_len _ _, List.length_map]; omega) (by simp; rw [show (endsS (ts.map Prod.fst)).length = (ts.map Prod.fst).length from ends_len _ _, List.length_map]; omega) (fun _ => rfl) ?_
     intro v4 w9 hs12 hc4
     have hs12 : St _ [rowI .i64 (.slice (some ⟨b2, 0, none⟩) 1 1) 3 ([(((jS ((ts ++ [(c, dv, bv)]).map Prod.fst)).length : Nat) : Int)]), rowI .u8 v2 5 (jS ((ts ++ [(c, dv, bv)]).map Prod.fst)), rowI .u8 vb 5 (jS (ts.map Prod.fst)), row v3 28 7 (ts.length + 1) ((ts.flatMap CT.cells) ++ ([(.int .i64 c.op), (.int .u64 c.u), (.int .u64 c.v), (.int .i64 c.wt), (.int .i64 c.t), dv, bv])), rowI .i64 v4 3 ((endsS (ts.map Prod.fst)) ++ ([(((jS ((ts ++ [(c, dv, bv)]).map Prod.fst)).length : Nat) : Int)]))] w9 := hs12
     have hs13 := St.sub (L' := [rowI .u8 v2 5 (jS ((ts ++ [(c, dv, bv)]).map Prod.fst)), rowI .u8 vb 5 (jS (ts.map Prod.fst)), row v3 28 7 (ts.length + 1) ((ts.flatMap CT.cells) ++ ([(.int .i64 c.op), (.int .u64 c.u), (.int .u64 c.v), (.int .i64 c.wt), (.int .i64 c.t), dv, bv])), rowI .i64 v4 3 ((endsS (ts.map Prod.fst)) ++ ([(((jS ((ts ++ [(c, dv, bv)]).map Prod.fst)).length : Nat) : Int)]))]) hs12 (List.Sublist.cons _ (List.Sublist.refl _))
     refine asg (v := v4) rfl rfl (wl_nil (bN (tN ((hK9 _ _ ?_)))))
     refine rg (mv (v := (.int .i64 k)) rfl rfl (ar (a := (k : Int)) (b := 1) (c := (k : Int) + 1) rfl rfl rfl rfl (w64 (by omega)) (asg (v := (.int .i64 ((k : Int) + 1))) rfl rfl (wl_nil (tN (?_))))))
     have hs14 := St.sub (L' := [rowI .u8 v2 5 (jS ((ts ++ [(c, dv, bv)]).map Prod.fst)), row v3 28 7 (ts.length + 1) ((ts.flatMap CT.cells) ++ ([(.int .i64 c.op), (.int .u64 c.u), (.int .u64 c.v), (.int .i64 c.wt), (.int .i64 c.t), dv, bv])), rowI .i64 v4 3 ((endsS (ts.map Prod.fst)) ++ ([(((jS ((ts ++ [(c, dv, bv)]).map Prod.fst)).length : Nat) : Int)]))]) hs13 (List.Sublist.cons_cons _ (List.Sublist.cons _ (List.Sublist.refl _)))
     have hE1 : (ts ++ [((c, dv, bv) : CT)]).length = ts.length + 1 := by simp
     have hE2 : (ts ++ [((c, dv, bv) : CT)]).flatMap CT.cells = ts.flatMap CT.cells ++ [(.int .i64 c.op), (.int .u64 c.u), (.int .u64 c.v), (.int .i64 c.wt), (.int .i64 c.t), dv, bv] := by rw [List.flatMap_append]; rfl
     have hE3 : endsS ((ts ++ [(c, dv, bv)]).map Prod.fst) = endsS (ts.map Prod.fst) ++ [((jS ((ts ++ [(c, dv, bv)]).map Prod.fst)).length : Int)] := by rw [List.map_append]; exact endsS_snoc _ _
     have hs7 := hs14
     rw [← hE2, ← hE1, ← hE3] at hs7
     have hgn : ∀ x ∈ ((ts ++ [(c, dv, bv)]).map Prod.fst), GoodC x := by intro x hx; rw [List.map_append] at hx; rcases List.mem_append.1 hx with h9 | h9; exact hgood x h9; simp at h9; subst h9; exact ⟨hcok, hk0⟩
     exact again ((k + 1), v2, v3, (ts ++ [(c, dv, bv)]), v4) ⟨rfl, rfl, rfl, rfl, eqI (by first | rfl | omega), trivial⟩ (⟨hs7, by omega, by rw [take_get hc, List.filter_append, List.map_append, htk]; simp [okC, hk0], hti.snoc hcok hd hb, by rw [hE1]; omega, hgn⟩) (by show (cs.length - (k + 1) : Nat) < cs.length - k; omega)
 · refine cmp (a := (k : Int)) (b := (cs.length : Int)) rfl rfl rfl (c_nlt h1) (wl_nil (tN ((hK8 _ _ ?_))))
   refine cdF rfl (xt (tX (tX (bX (tN ((hK5 _ _ ?_)))))))
   refine sq fun K19 hK19 => (rg (mv (v := vb) rfl rfl (mv (v := vk) rfl rfl (mv (v := ve) rfl rfl (asg (v := vb) rfl rfl (asg (v := vk) rfl rfl (asg (v := ve) rfl rfl ?_)))))))
   refine wl_nil (tN ((hK19 _ _ ?_)))
   refine rt (ret3 (v := vb) (v' := vk) (v'' := ve) Try.results15 rfl rfl rfl ?_)
   have hK : ts.map Prod.fst = cs.filter okC := by rw [htk, List.take_of_length_le (by omega)]
   have hei := ends_in (k := 0) (cs := ts.map Prod.fst) hgood (by simp; omega)
   refine ⟨vb, vk, ve, rfl, ?_, ?_, ?_, by rw [← hK]; exact hgood, hst.chg (by simp)⟩
   · rw [← hK]; exact (St.rowInts hst (i := 0) rfl (jS_in hgood)).any
   · rw [← hK]; exact St.cmdsIn hst (w0 := w) (i := 1) (by simp) rfl hti
   · rw [← hK]; exact (St.rowInts hst (i := 2) rfl hei).any
theorem reads_law (v : Value) (xs : List Int) (w : World) (hv : Ints .u8 (fun _ => True) w v xs) :
 CR Try.prog 6 #[v] w (fun r w' => r = .bool true ∧ Chg [] w w') := by
 have hlen := hv.len
 refine enter (vs := [v]) Try.func6 rfl Try.ntmps6 rfl ?_
 have hst0 := St.init w
 refine sq fun K1 hK1 => (rg (asg (v := (.bool false)) rfl rfl (wl_nil (tN ((hK1 _ _ ?_))))))
 refine sq fun K2 hK2 => (sq fun K3 hK3 => (rg (mv (v := v) rfl rfl (lenI (v := v) rfl rfl Try.underlying22 hv ?_))))
 by_cases h1 : ((xs.length : Int) : Int) > (5000 : Int)
 · refine cmp (a := (xs.length : Int)) (b := 5000) rfl rfl rfl (c_gt h1) (wl_nil (tN ((hK3 _ _ ?_))))
   refine cdT rfl (sq fun K4 hK4 => (rg (clF (vl := []) rfl rfl ent9 (works_ok w) ?_)))
   rintro _ w1 ⟨rfl, hq1⟩
   have hs1 : St ((w1, []) :: _) [] w1 := (St.grow hst0 hq1).rebase
   refine asg (v := (.bool true)) rfl rfl (wl_nil (tN ((hK4 _ _ ?_))))
   refine rt (tR (?_))
   refine ret1 (v := (.bool true)) Try.results6 rfl ?_
   exact ⟨rfl, hs1.chg (by simp)⟩
 · refine cmp (a := (xs.length : Int)) (b := 5000) rfl rfl rfl (c_ngt h1) (wl_nil (tN ((hK3 _ _ ?_))))
   refine cdF rfl (sp (tN ((hK2 _ _ ?_))))
   refine sq fun K5 hK5 => (rg (mv (v := v) rfl rfl (clF (vl := [v]) rfl rfl ent16 (Read_ok v xs w (Sl.any hv) (by omega)) ?_)))
   rintro _ w2 ⟨lv1, rfl, hcm1, hq2⟩
   have hs2 : St ((w2, []) :: _) [] w2 := (St.grow hst0 hq2).rebase
   have hcm1 := hcm1.monoC (ok' := fun _ => True) (fun _ _ => trivial)
   refine mv (v := (.tuple #[lv1, (.int .i64 ((readS xs).2.1 : Int))])) rfl rfl (ex (vs := #[lv1, (.int .i64 ((readS xs).2.1 : Int))]) (v := lv1) rfl rfl rfl (ex (vs := #[lv1, (.int .i64 ((readS xs).2.1 : Int))]) (v := (.int .i64 ((readS xs).2.1 : Int))) rfl rfl rfl (asg (v := lv1) rfl rfl (asg (v := (.int .i64 ((readS xs).2.1 : Int))) rfl rfl (wl_nil (tN ((hK5 _ _ ?_))))))))
   refine sq fun K6 hK6 => (rg (mv (v := v) rfl rfl (clF (vl := [v]) rfl rfl ent19 (rRead_ok v xs w2 (Sl.any (St.ints0 hs2 (by simp) hv)) (by omega)) ?_)))
   rintro _ w3 ⟨lv2, rfl, hcm2, hq3⟩
   have hs3 : St ((w3, []) :: _) [] w3 := (St.grow hs2 hq3).rebase
   have hcm2 := hcm2.monoC (ok' := fun _ => True) (fun _ _ => trivial)
   refine mv (v := (.tuple #[lv2, (.int .i64 ((readS xs).2.1 : Int))])) rfl rfl (ex (vs := #[lv2, (.int .i64 ((readS xs).2.1 : Int))]) (v := lv2) rfl rfl rfl (ex (vs := #[lv2, (.int .i64 ((readS xs).2.1 : Int))]) (v := (.int .i64 ((readS xs).2.1 : Int))) rfl rfl rfl (asg (v := lv2) rfl rfl (asg (v := (.int .i64 ((readS xs).2.1 : Int))) rfl rfl (wl_nil (tN ((hK6 _ _ ?_))))))))
   refine sq fun K7 hK7 => (rg (mv (v := lv1) rfl rfl (mv (v := lv2) rfl rfl (clF (vl := [lv1, lv2]) rfl rfl ent17 (cmds_eq lv1 lv2 ((readS xs).1) w3 (St.cmds0 hs3 (by simp) hcm1) hcm2) ?_))))
   rintro _ w4 ⟨rfl, hq4⟩
   have hs4 : St ((w4, []) :: _) [] w4 := (St.grow hs3 hq4).rebase
   refine mv (v := (.bool true)) rfl rfl (mv (v := (.int .i64 ((readS xs).2.1 : Int))) rfl rfl (mv (v := (.int .i64 ((readS xs).2.1 : Int))) rfl rfl (cmp (a := ((readS xs).2.1 : Int)) (b := ((readS xs).2.1 : Int)) rfl rfl rfl (c_eq rfl) (pkT (v := (.bool true)) rfl rfl rfl (mv (v := (.bool true)) rfl rfl (mv (v := v) rfl rfl (clF (vl := [v]) rfl rfl ent20 (Repair_ok v xs w4 (Sl.any (St.ints0 hs4 (by simp) hv)) (by omega)) ?_)))))))
   rintro v1 w5 ⟨hf1, hq5⟩
   have hs5 : St ((w5, []) :: _) [] w5 := (St.grow hs4 hq5).rebase
   have hI1 : Ints .u8 (fun _ => True) w5 v1 (xs.take (readS xs).2.1) := (hf1.ints (fun y hy => Ints.in hv (List.mem_of_mem_take hy))).any
   refine mv (v := v) rfl rfl (clF (vl := [v]) rfl rfl ent21 (rRepair_ok v xs w5 (Sl.any (St.ints0 hs5 (by simp) hv)) (by omega)) ?_)
   rintro v2 w6 ⟨hf2, hq6⟩
   have hs6 : St ((w6, []) :: _) [] w6 := (St.grow hs5 hq6).rebase
   have hI2 : Ints .u8 (fun _ => True) w6 v2 (xs.take (readS xs).2.1) := (hf2.ints (fun y hy => Ints.in hv (List.mem_of_mem_take hy))).any
   refine clF (vl := [v1, v2]) rfl rfl ent12 (bytes_eq v1 v2 (xs.take (readS xs).2.1) w6 (Sl.any (St.ints0 hs6 (by simp) hI1)) (Sl.any hI2)) ?_
   rintro _ w7 ⟨rfl, hq7⟩
   have hs7 : St ((w7, []) :: _) [] w7 := (St.grow hs6 hq7).rebase
   refine pkT (v := (.bool true)) rfl rfl rfl (mv (v := (.bool true)) rfl rfl (clF (vl := []) rfl rfl ent9 (works_ok w7) ?_))
   rintro _ w8 ⟨rfl, hq8⟩
   have hs8 : St ((w8, []) :: _) [] w8 := (St.grow hs7 hq8).rebase
   refine pkT (v := (.bool true)) rfl rfl rfl (asg (v := (.bool true)) rfl rfl (wl_nil (tN ((hK7 _ _ ?_)))))
   refine rt (ret1 (v := (.bool true)) Try.results6 rfl ?_)
   exact ⟨rfl, hs8.chg (by simp)⟩
theorem appends_law (v : Value) (xs : List Int) (w : World) (hv : Ints .u8 (fun _ => True) w v xs) (c : Cmd) (dv bv : Value) (hc : c.ok) (hd : Ints .u64 (fun _ => True) w dv c.dr) (hb : Ints .i64 (fun _ => True) w bv c.bo) :
 CR Try.prog 3 #[v, (.agg #[(.int .i64 c.op), (.int .u64 c.u), (.int .u64 c.v), (.int .i64 c.wt), (.int .i64 c.t), dv, bv])] w (fun r w' => r = .bool true ∧ Chg [] w w') := by
 have hlen := hv.len
 have hti : TsIn w [(c, dv, bv)] := (TsIn.nil w).snoc hc hd hb
 refine enter (vs := [v, (.agg #[(.int .i64 c.op), (.int .u64 c.u), (.int .u64 c.v), (.int .i64 c.wt), (.int .i64 c.t), dv, bv])]) Try.func3 rfl Try.ntmps3 rfl ?_
 have hst0 := St.init w
 refine sq fun K1 hK1 => (rg (bx (v := (.agg #[(.int .i64 c.op), (.int .u64 c.u), (.int .u64 c.v), (.int .i64 c.wt), (.int .i64 c.t), dv, bv])) (cs := [(.int .i64 c.op), (.int .u64 c.u), (.int .u64 c.v), (.int .i64 c.wt), (.int .i64 c.t), dv, bv]) rfl rfl rfl hst0 (fun b1 w1 hn1 hc1 hs1 => asg (v := (.bool false)) rfl rfl (wl_nil (tN ((hK1 _ _ ?_)))))))
 refine sq fun K2 hK2 => (sq fun K3 hK3 => (rg ?_))
 have hfz1 := hs1.at (i := 0) rfl
 have hs2 : St ((w1, []) :: _) [] w1 := (St.sub hs1 (List.nil_sublist _)).rebase
 refine mv (v := v) rfl rfl (lenI (v := v) rfl rfl Try.underlying22 hv ?_)
 by_cases h1 : ((xs.length : Int) : Int) > (2000 : Int)
 · refine cmp (a := (xs.length : Int)) (b := 2000) rfl rfl rfl (c_gt h1) (mv (v := (.bool true)) rfl rfl (sk rfl (sk rfl (sk rfl (sk rfl (pkT (v := (.bool true)) rfl rfl rfl (wl_nil ?_)))))))
   refine tN ((hK3 _ _ ?_))
   refine cdT rfl (sq fun K4 hK4 => (rg (clF (vl := []) rfl rfl ent9 (works_ok w1) ?_)))
   rintro _ w2 ⟨rfl, hq1⟩
   have hs3 : St ((w2, []) :: _) [] w2 := (St.grow hs2 hq1).rebase
   refine asg (v := (.bool true)) rfl rfl (wl_nil (tN ((hK4 _ _ ?_))))
   refine rt (tR (?_))
   refine ret1 (v := (.bool true)) Try.results3 rfl ?_
   exact ⟨rfl, hs3.chg (by simp)⟩
 · refine cmp (a := (xs.length : Int)) (b := 2000) rfl rfl rfl (c_ngt h1) ?_
   have hs4 : St ((w1, []) :: _) [] w1 := (St.sub hs2 (List.nil_sublist _)).rebase
   refine mv (v := (.bool false)) rfl rfl (ldA (cs := [(.int .i64 c.op), (.int .u64 c.u), (.int .u64 c.v), (.int .i64 c.wt), (.int .i64 c.t), dv, bv]) rfl rfl Try.underlying28 rfl ti28 rfl (St.roCells hs4 (by simp) hfz1 (o := 0) (vs := [(.int .i64 c.op), (.int .u64 c.u), (.int .u64 c.v), (.int .i64 c.wt), (.int .i64 c.t), dv, bv]) rfl) (bsv (vs := [(.agg #[(.int .i64 c.op), (.int .u64 c.u), (.int .u64 c.v), (.int .i64 c.wt), (.int .i64 c.t), dv, bv])]) (cs := [(.int .i64 c.op), (.int .u64 c.u), (.int .u64 c.v), (.int .i64 c.wt), (.int .i64 c.t), dv, bv]) rfl rfl Try.underlying30 ti28 rfl (by simp [Value.cells]) rfl rfl rfl hs4 ?_))
   intro b2 w3 hn2 hc2 hs5
   have hs5 : St _ [row (.slice (some ⟨b2, 0, none⟩) 1 1) 28 7 1 ([(.int .i64 c.op), (.int .u64 c.u), (.int .u64 c.v), (.int .i64 c.wt), (.int .i64 c.t), dv, bv])] w3 := hs5
   refine clF (vl := [(.slice (some ⟨b2, 0, none⟩) 1 1), (.int .i64 1)]) rfl rfl ent8 (few_ok (.slice (some ⟨b2, 0, none⟩) 1 1) [c] 1 w3 (St.cmdsIn hs5 (w0 := w) (i := 0) (ts := [(c, dv, bv)]) (by simp) rfl hti) (by omega)) ?_
   rintro _ _ ⟨rfl, rfl⟩
   have hs6 := St.sub (L' := []) hs5 (List.Sublist.cons _ (List.Sublist.refl _))
   refine not (b := (fewS [c] 1)) (c := (!(fewS [c] 1))) rfl rfl rfl (pkF (v := (.bool (!(fewS [c] 1)))) rfl rfl rfl (wl_nil (tN ((hK3 _ _ ?_)))))
   cases hz1 : (fewS [c] 1 : Bool)
   · skip
     refine cdT rfl (sq fun K5 hK5 => (rg (clF (vl := []) rfl rfl ent9 (works_ok w3) ?_)))
     rintro _ w4 ⟨rfl, hq2⟩
     have hs7 : St ((w4, []) :: _) [] w4 := (St.grow hs6 hq2).rebase
     refine asg (v := (.bool true)) rfl rfl (wl_nil (tN ((hK5 _ _ ?_))))
     refine rt (tR (?_))
     refine ret1 (v := (.bool true)) Try.results3 rfl ?_
     exact ⟨rfl, hs7.chg (by simp)⟩
   · skip
     refine cdF rfl (sp (tN ((hK2 _ _ ?_))))
     refine sq fun K6 hK6 => (rg (mv (v := v) rfl rfl (ldA (cs := [(.int .i64 c.op), (.int .u64 c.u), (.int .u64 c.v), (.int .i64 c.wt), (.int .i64 c.t), dv, bv]) rfl rfl Try.underlying28 rfl ti28 rfl (St.roCells hs6 (by simp) hfz1 (o := 0) (vs := [(.int .i64 c.op), (.int .u64 c.u), (.int .u64 c.v), (.int .i64 c.wt), (.int .i64 c.t), dv, bv]) rfl) (clF (vl := [v, (.agg #[(.int .i64 c.op), (.int .u64 c.u), (.int .u64 c.v), (.int .i64 c.wt), (.int .i64 c.t), dv, bv])]) rfl rfl ent10 (Append_ok v xs w3 (St.ints0 hs6 (by simp) hv) (by omega) c dv bv hc (St.ints0 hs6 (by simp) hd) (St.ints0 hs6 (by simp) hb)) ?_))))
     rintro _ w5 ⟨v1, rfl, hf1, hq3⟩
     have hs8 : St ((w5, []) :: _) [] w5 := (St.grow hs6 hq3).rebase
     have hI1 : Ints .u8 (fun _ => True) w5 v1 (appO xs c).1 := (hf1.ints (app_in hc (fun y hy => Ints.in hv hy))).any
     refine mv (v := (.tuple #[v1, (.int .i64 ((appO xs c).2))])) rfl rfl (ex (vs := #[v1, (.int .i64 ((appO xs c).2))]) (v := v1) rfl rfl rfl (ex (vs := #[v1, (.int .i64 ((appO xs c).2))]) (v := (.int .i64 ((appO xs c).2))) rfl rfl rfl (asg (v := v1) rfl rfl (asg (v := (.int .i64 ((appO xs c).2))) rfl rfl (wl_nil (tN ((hK6 _ _ ?_))))))))
     refine sq fun K7 hK7 => (rg (mv (v := v) rfl rfl (ldA (cs := [(.int .i64 c.op), (.int .u64 c.u), (.int .u64 c.v), (.int .i64 c.wt), (.int .i64 c.t), dv, bv]) rfl rfl Try.underlying28 rfl ti28 rfl (St.roCells hs8 (by simp) hfz1 (o := 0) (vs := [(.int .i64 c.op), (.int .u64 c.u), (.int .u64 c.v), (.int .i64 c.wt), (.int .i64 c.t), dv, bv]) rfl) (clF (vl := [v, (.agg #[(.int .i64 c.op), (.int .u64 c.u), (.int .u64 c.v), (.int .i64 c.wt), (.int .i64 c.t), dv, bv])]) rfl rfl ent11 (rAppend_ok v xs w5 (St.ints0 hs8 (by simp) hv) (by omega) c dv bv hc (St.ints0 hs8 (by simp) hd) (St.ints0 hs8 (by simp) hb)) ?_))))
     rintro _ w6 ⟨v2, rfl, hf2, hq4⟩
     have hs9 : St ((w6, []) :: _) [] w6 := (St.grow hs8 hq4).rebase
     have hI2 : Ints .u8 (fun _ => True) w6 v2 (appO xs c).1 := (hf2.ints (app_in hc (fun y hy => Ints.in hv hy))).any
     refine mv (v := (.tuple #[v2, (.int .i64 ((appO xs c).2))])) rfl rfl (ex (vs := #[v2, (.int .i64 ((appO xs c).2))]) (v := v2) rfl rfl rfl (ex (vs := #[v2, (.int .i64 ((appO xs c).2))]) (v := (.int .i64 ((appO xs c).2))) rfl rfl rfl (asg (v := v2) rfl rfl (asg (v := (.int .i64 ((appO xs c).2))) rfl rfl (wl_nil (tN ((hK7 _ _ ?_))))))))
     refine sq fun K8 hK8 => (rgs (Γ := Unit) mixed [[], [], [0, 1], [0, 1, 2], [0, 1, 2, 3], [0, 1, 2, 3], [0, 1, 2, 3, 4, 5], [0, 1, 2, 3, 4, 5, 6], [0, 1, 2, 3, 4, 5, 6, 7], [0, 1, 2, 3, 4, 5, 6, 7, 8], [0, 1, 2, 3, 4, 5, 6, 7, 8, 9], [0, 1, 2, 3, 4, 5, 6, 7, 8], [0, 1, 2, 3, 4, 5, 6, 7, 8, 9, 10, 11], [0, 1, 2, 3, 4, 5, 6, 7, 8, 9, 10, 11, 12], [0, 1, 2, 3, 4, 5, 6, 7, 8, 9, 10, 11, 12, 13], [0, 1, 2, 3, 4, 5, 6, 7, 8, 9, 10, 11, 12, 13, 14], [0, 1, 2, 3, 4, 5, 6, 7, 8, 9, 10, 11, 12, 13, 14, 15], [0, 1, 2, 3, 4, 5, 6, 7, 8, 9, 10, 11, 12, 13, 14, 15, 16], [0, 1, 2, 3, 4, 5, 6, 7, 8, 9, 10, 11, 12, 13, 14, 15, 16, 17]] [] (by decide) [fun _ => v1, fun _ => v2, fun _ => (.bool true), fun _ => (.bool true), fun _ => (.int .i64 ((appO xs c).2)), fun _ => (.int .i64 ((appO xs c).2)), fun _ => (.bool true), fun _ => (.bool true), fun _ => (.bool true), fun _ => (.agg #[(.int .i64 c.op), (.int .u64 c.u), (.int .u64 c.v), (.int .i64 c.wt), (.int .i64 c.t), dv, bv]), fun _ => (.bool (changesS c)), fun _ => (.agg #[(.int .i64 c.op), (.int .u64 c.u), (.int .u64 c.v), (.int .i64 c.wt), (.int .i64 c.t), dv, bv]), fun _ => (.bool (changesS c)), fun _ => (.bool true), fun _ => (.bool true), fun _ => (.bool true), fun _ => (.bool true), fun _ => (.bool true), fun _ => (.bool true)] [(fun _ => [], fun _ _ => True)] () (fun _ => (4, (.bool true)) :: (48, (.bool true)) :: (47, (.bool true)) :: (46, (.bool true)) :: (45, (.bool true)) :: (44, (.bool true)) :: (43, (.bool (changesS c))) :: (42, (.agg #[(.int .i64 c.op), (.int .u64 c.u), (.int .u64 c.v), (.int .i64 c.wt), (.int .i64 c.t), dv, bv])) :: (41, (.bool (changesS c))) :: (40, (.agg #[(.int .i64 c.op), (.int .u64 c.u), (.int .u64 c.v), (.int .i64 c.wt), (.int .i64 c.t), dv, bv])) :: (39, (.bool true)) :: (38, (.bool true)) :: (37, (.bool true)) :: (36, (.int .i64 ((appO xs c).2))) :: (35, (.int .i64 ((appO xs c).2))) :: (34, (.bool true)) :: (33, (.bool true)) :: (32, v2) :: (31, v1) :: _) rfl hs9 (fun _ _ => trivial) ?_ (fun _ => rfl) rfl ?_)
     · skip
       refine ob_p rfl (fun _ _ _ => qv rfl rfl (mv_r (v := v1) rfl)) (ob_p rfl (fun _ _ _ => qv rfl rfl (mv_r (v := v2) rfl)) (ob_q1 rfl rfl rfl rfl (fun _ wq hM hF => qc rfl rfl (clF_r (vl := [v1, v2]) rfl ent12) (CR.mono (bytes_eq v1 v2 ((appO xs c).1) wq (Sl.any (St.ints0 hM (by simp) hI1)) (Sl.any (St.ints0 hM (by simp) hI2))) fun _ _ h => ⟨h.1, ⟨hM.grow h.2, trivial⟩⟩)) (ob_p rfl (fun _ _ _ => qv rfl rfl (mv_r (v := (.bool true)) rfl)) (ob_p rfl (fun _ _ _ => qv rfl rfl (mv_r (v := (.int .i64 ((appO xs c).2))) rfl)) (ob_p rfl (fun _ _ _ => qv rfl rfl (mv_r (v := (.int .i64 ((appO xs c).2))) rfl)) (ob_p rfl (fun _ _ _ => qv rfl rfl (cmp_r (a := (appO xs c).2) (b := (appO xs c).2) rfl rfl (c_eq rfl))) (ob_p rfl (fun _ _ _ => qv rfl rfl (pkT_r (v := (.bool true)) rfl rfl)) ?_)))))))
       refine ob_p rfl (fun _ _ _ => qv rfl rfl (mv_r (v := (.bool true)) rfl)) (ob_q1 rfl rfl rfl rfl (fun _ wq hM hF => qv rfl rfl (ldA_r (cs := [(.int .i64 c.op), (.int .u64 c.u), (.int .u64 c.v), (.int .i64 c.wt), (.int .i64 c.t), dv, bv]) rfl Try.underlying28 rfl ti28 rfl (St.roCells hM (by simp) hfz1 (o := 0) (vs := [(.int .i64 c.op), (.int .u64 c.u), (.int .u64 c.v), (.int .i64 c.wt), (.int .i64 c.t), dv, bv]) rfl))) (ob_q1 rfl rfl rfl rfl (fun _ wq hM hF => qc rfl rfl (clF_r (vl := [(.agg #[(.int .i64 c.op), (.int .u64 c.u), (.int .u64 c.v), (.int .i64 c.wt), (.int .i64 c.t), dv, bv])]) rfl ent13) (CR.mono (Changes_ok c dv bv wq hc (St.ints0 hM (by simp) hd) (St.ints0 hM (by simp) hb)) fun _ _ h => ⟨h.1, ⟨hM.grow h.2, trivial⟩⟩)) (ob_q1 rfl rfl rfl rfl (fun _ wq hM hF => qv rfl rfl (ldA_r (cs := [(.int .i64 c.op), (.int .u64 c.u), (.int .u64 c.v), (.int .i64 c.wt), (.int .i64 c.t), dv, bv]) rfl Try.underlying28 rfl ti28 rfl (St.roCells hM (by simp) hfz1 (o := 0) (vs := [(.int .i64 c.op), (.int .u64 c.u), (.int .u64 c.v), (.int .i64 c.wt), (.int .i64 c.t), dv, bv]) rfl))) (ob_q1 rfl rfl rfl rfl (fun _ wq hM hF => qc rfl rfl (clF_r (vl := [(.agg #[(.int .i64 c.op), (.int .u64 c.u), (.int .u64 c.v), (.int .i64 c.wt), (.int .i64 c.t), dv, bv])]) rfl ent14) (CR.mono (rChanges_ok c dv bv wq hc (St.ints0 hM (by simp) hd) (St.ints0 hM (by simp) hb)) fun _ _ h => ⟨h.1, ⟨hM.grow h.2, trivial⟩⟩)) (ob_p rfl (fun _ _ _ => qv rfl rfl (eqBool_r (c := true) rfl rfl Try.underlying4 (beq_self_eq_true _))) (ob_p rfl (fun _ _ _ => qv rfl rfl (pkT_r (v := (.bool true)) rfl rfl)) (ob_p rfl (fun _ _ _ => qv rfl rfl (mv_r (v := (.bool true)) rfl)) ?_)))))))
       refine ob_q1 rfl rfl rfl rfl (fun _ wq hM hF => qc rfl rfl (clF_r (vl := []) rfl ent9) (CR.mono (works_ok wq) fun _ _ h => ⟨h.1, ⟨hM.grow h.2, trivial⟩⟩)) (ob_p rfl (fun _ _ _ => qv rfl rfl (pkT_r (v := (.bool true)) rfl rfl)) (ob_p rfl (fun _ _ _ => qv rfl rfl (asg_r (v := (.bool true)) rfl)) ?_))
       exact ob_n
     rintro - w11 hs10 -
     refine tN ((hK8 _ _ ?_))
     refine rt (ret1 (v := (.bool true)) Try.results3 rfl ?_)
     exact ⟨rfl, hs10.chg (by simp)⟩
theorem back_law (v : Value) (cs : List Cmd) (w : World) (hv : Cmds (fun _ => True) w v cs) :
 CR Try.prog 7 #[v] w (fun r w' => r = .bool true ∧ Chg [] w w') := by
 have hlen := hv.len
 refine enter (vs := [v]) Try.func7 rfl Try.ntmps7 rfl ?_
 have hst0 := St.init w
 refine sq fun K1 hK1 => (rg (asg (v := (.bool false)) rfl rfl (wl_nil (tN ((hK1 _ _ ?_))))))
 refine sq fun K2 hK2 => (sq fun K3 hK3 => (rg (mv (v := v) rfl rfl (clF (vl := [v, (.int .i64 30)]) rfl rfl ent8 (few_ok v cs 30 w (St.cmds0 hst0 (by simp) hv) (by omega)) ?_))))
 rintro _ _ ⟨rfl, rfl⟩
 refine not (b := (fewS cs 30)) (c := (!(fewS cs 30))) rfl rfl rfl (wl_nil (tN ((hK3 _ _ ?_))))
 cases hz1 : (fewS cs 30 : Bool)
 · skip
   refine cdT rfl (sq fun K4 hK4 => (rg (clF (vl := []) rfl rfl ent9 (works_ok w) ?_)))
   rintro _ w1 ⟨rfl, hq1⟩
   have hs1 : St ((w1, []) :: _) [] w1 := (St.grow hst0 hq1).rebase
   refine asg (v := (.bool true)) rfl rfl (wl_nil (tN ((hK4 _ _ ?_))))
   refine rt (tR (?_))
   refine ret1 (v := (.bool true)) Try.results7 rfl ?_
   exact ⟨rfl, hs1.chg (by simp)⟩
 · skip
   refine cdF rfl (sp (tN ((hK2 _ _ ?_))))
   refine sq fun K5 hK5 => (rg ?_)
   have hn : cs.length ≤ 30 := few_len hz1
   refine mv (v := v) rfl rfl (clF (vl := [v]) rfl rfl ent15 (journaled_ok v cs w (St.cmds0 hst0 (by simp) hv) (by omega)) ?_)
   rintro _ w2 ⟨vb, vk, ve, rfl, hvb, hvk, hve, hgood, hq2⟩
   have hs2 : St ((w2, []) :: _) [] w2 := (St.grow hst0 hq2).rebase
   have hjl := jS_len hgood
   have hkl : (cs.filter okC).length ≤ cs.length := List.length_filter_le _ _
   have hel : (endsS (cs.filter okC)).length = (cs.filter okC).length := ends_len _ _
   refine mv (v := (.tuple #[vb, vk, ve])) rfl rfl (ex (vs := #[vb, vk, ve]) (v := vb) rfl rfl rfl (ex (vs := #[vb, vk, ve]) (v := vk) rfl rfl rfl (ex (vs := #[vb, vk, ve]) (v := ve) rfl rfl rfl (asg (v := vb) rfl rfl (asg (v := vk) rfl rfl (asg (v := ve) rfl rfl (wl_nil ?_)))))))
   refine tN ((hK5 _ _ ?_))
   refine sq fun K6 hK6 => (rg (mv (v := vb) rfl rfl (clF (vl := [vb]) rfl rfl ent16 (Read_ok vb (jS (cs.filter okC)) w2 (Sl.any hvb) (by omega)) ?_)))
   rintro _ w3 ⟨lv1, rfl, hcm1, hq3⟩
   rw [read_jS hgood] at hcm1 ⊢
   have hs3 : St ((w3, []) :: _) [] w3 := (St.grow hs2 hq3).rebase
   have hcm1 := hcm1.monoC (ok' := fun _ => True) (fun _ _ => trivial)
   refine mv (v := (.tuple #[lv1, (.int .i64 ((jS (cs.filter okC)).length : Int))])) rfl rfl (ex (vs := #[lv1, (.int .i64 ((jS (cs.filter okC)).length : Int))]) (v := lv1) rfl rfl rfl (ex (vs := #[lv1, (.int .i64 ((jS (cs.filter okC)).length : Int))]) (v := (.int .i64 ((jS (cs.filter okC)).length : Int))) rfl rfl rfl (asg (v := lv1) rfl rfl (asg (v := (.int .i64 ((jS (cs.filter okC)).length : Int))) rfl rfl (wl_nil (tN ((hK6 _ _ ?_))))))))
   refine sq fun K7 hK7 => (rg (mv (v := lv1) rfl rfl (mv (v := vk) rfl rfl (clF (vl := [lv1, vk]) rfl rfl ent17 (cmds_eq lv1 vk (cs.filter okC) w3 hcm1 (St.cmds0 hs3 (by simp) hvk)) ?_))))
   rintro _ w4 ⟨rfl, hq4⟩
   have hs4 : St ((w4, []) :: _) [] w4 := (St.grow hs3 hq4).rebase
   refine mv (v := (.bool true)) rfl rfl (mv (v := ve) rfl rfl (lenI (v := ve) rfl rfl Try.underlying38 hve (mv (v := vk) rfl rfl (lenI (v := vk) rfl rfl Try.underlying30 hvk (cmp (a := ((endsS (cs.filter okC)).length : Int)) (b := ((cs.filter okC).length : Int)) rfl rfl rfl (c_eq (by omega)) (pkT (v := (.bool true)) rfl rfl rfl (mv (v := (.bool true)) rfl rfl ?_)))))))
   refine mv (v := (.int .i64 ((jS (cs.filter okC)).length : Int))) rfl rfl (mv (v := vb) rfl rfl (lenI (v := vb) rfl rfl Try.underlying22 hvb (cmp (a := ((jS (cs.filter okC)).length : Int)) (b := ((jS (cs.filter okC)).length : Int)) rfl rfl rfl (c_eq (by omega)) (pkT (v := (.bool true)) rfl rfl rfl (mv (v := (.bool true)) rfl rfl (mv (v := vb) rfl rfl (clF (vl := [vb]) rfl rfl ent20 (Repair_ok vb (jS (cs.filter okC)) w4 (Sl.any (St.ints0 hs4 (by simp) hvb)) (by omega)) ?_)))))))
   rintro v1 w5 ⟨hf1, hq5⟩
   rw [read_jS hgood, List.take_length] at hf1
   have hs5 : St ((w5, []) :: _) [] w5 := (St.grow hs4 hq5).rebase
   have hI1 : Ints .u8 (fun _ => True) w5 v1 (jS (cs.filter okC)) := (hf1.ints (jS_in hgood)).any
   refine mv (v := vb) rfl rfl (clF (vl := [v1, vb]) rfl rfl ent12 (bytes_eq v1 vb (jS (cs.filter okC)) w5 (Sl.any hI1) (Sl.any (St.ints0 hs5 (by simp) hvb))) ?_)
   rintro _ w6 ⟨rfl, hq6⟩
   have hs6 : St ((w6, []) :: _) [] w6 := (St.grow hs5 hq6).rebase
   refine pkT (v := (.bool true)) rfl rfl rfl (mv (v := (.bool true)) rfl rfl (clF (vl := []) rfl rfl ent9 (works_ok w6) ?_))
   rintro _ w7 ⟨rfl, hq7⟩
   have hs7 : St ((w7, []) :: _) [] w7 := (St.grow hs6 hq7).rebase
   refine pkT (v := (.bool true)) rfl rfl rfl (asg (v := (.bool true)) rfl rfl (wl_nil (tN ((hK7 _ _ ?_)))))
   refine rt (ret1 (v := (.bool true)) Try.results7 rfl ?_)
   exact ⟨rfl, hs7.chg (by simp)⟩
theorem cuts_law (v : Value) (cs : List Cmd) (w : World) (hv : Cmds (fun _ => True) w v cs) :
 CR Try.prog 4 #[v] w (fun r w' => r = .bool true ∧ Chg [] w w') := by
 have hlen := hv.len
 refine enter (vs := [v]) Try.func4 rfl Try.ntmps4 rfl ?_
 have hst0 := St.init w
 refine sq fun K1 hK1 => (rg (asg (v := (.bool false)) rfl rfl (wl_nil (tN ((hK1 _ _ ?_))))))
 refine sq fun K2 hK2 => (sq fun K3 hK3 => (rg (mv (v := v) rfl rfl (clF (vl := [v, (.int .i64 20)]) rfl rfl ent8 (few_ok v cs 20 w (St.cmds0 hst0 (by simp) hv) (by omega)) ?_))))
 rintro _ _ ⟨rfl, rfl⟩
 refine not (b := (fewS cs 20)) (c := (!(fewS cs 20))) rfl rfl rfl (wl_nil (tN ((hK3 _ _ ?_))))
 cases hz1 : (fewS cs 20 : Bool)
 · skip
   refine cdT rfl (sq fun K4 hK4 => (rg (clF (vl := []) rfl rfl ent9 (works_ok w) ?_)))
   rintro _ w1 ⟨rfl, hq1⟩
   have hs1 : St ((w1, []) :: _) [] w1 := (St.grow hst0 hq1).rebase
   refine asg (v := (.bool true)) rfl rfl (wl_nil (tN ((hK4 _ _ ?_))))
   refine rt (tR (?_))
   refine ret1 (v := (.bool true)) Try.results4 rfl ?_
   exact ⟨rfl, hs1.chg (by simp)⟩
 · skip
   refine cdF rfl (sp (tN ((hK2 _ _ ?_))))
   refine sq fun K5 hK5 => (rg ?_)
   have hn : cs.length ≤ 20 := few_len hz1
   refine mv (v := v) rfl rfl (clF (vl := [v]) rfl rfl ent15 (journaled_ok v cs w (St.cmds0 hst0 (by simp) hv) (by omega)) ?_)
   rintro _ w2 ⟨vb, vk, ve, rfl, hvb, hvk, hve, hgood, hq2⟩
   have hs2 : St ((w2, []) :: _) [] w2 := (St.grow hst0 hq2).rebase
   have hjl := jS_len hgood
   have hkl : (cs.filter okC).length ≤ cs.length := List.length_filter_le _ _
   have hel : (endsS (cs.filter okC)).length = (cs.filter okC).length := ends_len _ _
   refine mv (v := (.tuple #[vb, vk, ve])) rfl rfl (ex (vs := #[vb, vk, ve]) (v := vb) rfl rfl rfl (ex (vs := #[vb, vk, ve]) (v := vk) rfl rfl rfl (ex (vs := #[vb, vk, ve]) (v := ve) rfl rfl rfl (asg (v := vb) rfl rfl (asg (v := vk) rfl rfl (asg (v := ve) rfl rfl (wl_nil ?_)))))))
   refine tN ((hK5 _ _ ?_))
   refine sq fun K6 hK6 => (sq fun K7 hK7 => (rg (mv (v := vb) rfl rfl (lenI (v := vb) rfl rfl Try.underlying22 hvb ?_))))
   by_cases h1 : (((jS (cs.filter okC)).length : Int) : Int) > (1500 : Int)
   · refine cmp (a := ((jS (cs.filter okC)).length : Int)) (b := 1500) rfl rfl rfl (c_gt h1) (wl_nil (tN ((hK7 _ _ ?_))))
     refine cdT rfl (sq fun K8 hK8 => (rg (clF (vl := []) rfl rfl ent9 (works_ok w2) ?_)))
     rintro _ w3 ⟨rfl, hq3⟩
     have hs3 : St ((w3, []) :: _) [] w3 := (St.grow hs2 hq3).rebase
     refine asg (v := (.bool true)) rfl rfl (wl_nil (tN ((hK8 _ _ ?_))))
     refine rt (tR (?_))
     refine ret1 (v := (.bool true)) Try.results4 rfl ?_
     exact ⟨rfl, hs3.chg (by simp)⟩
   · refine cmp (a := ((jS (cs.filter okC)).length : Int)) (b := 1500) rfl rfl rfl (c_ngt h1) (wl_nil (tN ((hK7 _ _ ?_))))
     refine cdF rfl (sp (tN ((hK6 _ _ ?_))))
     refine sq fun K9 hK9 => (rg (asg (v := (.int .i64 0)) rfl rfl (wl_nil (tN ((hK9 _ _ ?_))))))
     refine sq fun K10 hK10 => (sq fun K11 hK11 => (rg (asg (v := (.int .i64 0)) rfl rfl (wl_nil (tN ((hK11 _ _ ?_)))))))
     refine bk ?_
     have hs4 : St [(w2, []), (w, [])] [] w2 := St.fewer hs2 (by simp)
     refine lp (α := Nat × Nat) (fun (n, wh) => [(3, vb), (4, vk), (5, ve), (6, (.int .i64 wh)), (7, (.int .i64 n))]) (fun (n, wh) w1 => St [(w2, []), (w, [])] [] w1 ∧ n ≤ (jS (cs.filter okC)).length + 1 ∧ wh ≤ (cs.filter okC).length ∧ EP (cs.filter okC) wh ≤ n) (fun (n, wh) => (jS (cs.filter okC)).length + 1 - n) (0, 0) ⟨rfl, rfl, rfl, eqI (by first | rfl | omega), eqI (by first | rfl | omega), trivial⟩ (⟨hs4, by omega, by omega, by rw [EP_zero]; omega⟩) ?_
     rintro ⟨n, wh⟩ s1 w4 ⟨hst, hn1, hwk, hwn⟩
     refine sq fun K12 hK12 => (sq fun K13 hK13 => (rg (mv (v := (.int .i64 n)) rfl rfl (mv (v := vb) rfl rfl (lenI (v := vb) rfl rfl Try.underlying22 hvb ?_)))))
     by_cases h2 : ((n : Int) : Int) ≤ (((jS (cs.filter okC)).length : Int) : Int)
     · refine cmp (a := (n : Int)) (b := ((jS (cs.filter okC)).length : Int)) rfl rfl rfl (c_le h2) (wl_nil (tN ((hK13 _ _ ?_))))
       refine cdT rfl (sp (tN ((hK12 _ _ ?_))))
       refine sq fun K14 hK14 => (bk (cut (α := Nat) (fun wh => [(3, vb), (4, vk), (5, ve), (6, (.int .i64 wh)), (7, (.int .i64 n))]) (fun wh w9 => w4 = w9 ∧ wh ≤ (cs.filter okC).length ∧ EP (cs.filter okC) wh ≤ n ∧ ((cs.filter okC).length ≤ wh ∨ n < EP (cs.filter okC) (wh + 1))) ?_ ?_))
       · intro K15 hK15
         refine bk (lp (α := Nat) (fun wh => [(3, vb), (4, vk), (5, ve), (6, (.int .i64 wh)), (7, (.int .i64 n))]) (fun wh w1 => w4 = w1 ∧ wh ≤ (cs.filter okC).length ∧ EP (cs.filter okC) wh ≤ n) (fun wh => (cs.filter okC).length - wh) wh ⟨rfl, rfl, rfl, rfl, rfl, trivial⟩ (⟨rfl, by omega, by omega⟩) ?_)
         rintro wh s2 w5 ⟨rfl, hwk, hwn⟩
         refine sq fun K16 hK16 => (sq fun K17 hK17 => (rg (mv (v := (.int .i64 wh)) rfl rfl (mv (v := ve) rfl rfl (lenI (v := ve) rfl rfl Try.underlying38 hve ?_)))))
         by_cases h3 : ((wh : Int) : Int) < (((endsS (cs.filter okC)).length : Int) : Int)
         · refine cmp (a := (wh : Int)) (b := ((endsS (cs.filter okC)).length : Int)) rfl rfl rfl (c_lt h3) (mv (v := (.bool true)) rfl rfl (mv (v := ve) rfl rfl (mv (v := (.int .i64 wh)) rfl rfl (ixI (i := (wh : Int)) (el := ((EP (cs.filter okC) (wh + 1) : Nat) : Int)) rfl rfl rfl Try.underlying38 ti3 (St.ints0 hst (by simp) hve) (by omega) (getAtI (m := wh) (endsS_get (by omega)) (by omega)) ?_))))
           intro b1 o1 hx1 hi1 ho1
           have hi1' := hi1.i64
           refine ld (a := ⟨b1, o1, none⟩) (v := (.int .i64 ((EP (cs.filter okC) (wh + 1) : Nat) : Int))) rfl rfl Try.underlying3 rfl hx1 (mv (v := (.int .i64 n)) rfl rfl ?_)
           by_cases h4 : (((EP (cs.filter okC) (wh + 1) : Nat) : Int) : Int) ≤ ((n : Int) : Int)
           · refine cmp (a := ((EP (cs.filter okC) (wh + 1) : Nat) : Int)) (b := (n : Int)) rfl rfl rfl (c_le h4) (pkT (v := (.bool true)) rfl rfl rfl (wl_nil (tN ((hK17 _ _ ?_)))))
             refine cdT rfl (sp (tN ((hK16 _ _ ?_))))
             refine bk (rg (mv (v := (.int .i64 wh)) rfl rfl (ar (a := (wh : Int)) (b := 1) (c := (wh : Int) + 1) rfl rfl rfl rfl (w64 (by omega)) (asg (v := (.int .i64 ((wh : Int) + 1))) rfl rfl (wl_nil (bN (tN (?_))))))))
             exact again (wh + 1) ⟨rfl, rfl, rfl, eqI (by first | rfl | omega), rfl, trivial⟩ (⟨rfl, by omega, by omega⟩) (by show ((cs.filter okC).length - (wh + 1) : Nat) < (cs.filter okC).length - wh; omega)
           · refine cmp (a := ((EP (cs.filter okC) (wh + 1) : Nat) : Int)) (b := (n : Int)) rfl rfl rfl (c_nle h4) (pkT (v := (.bool false)) rfl rfl rfl (wl_nil (tN ((hK17 _ _ ?_)))))
             refine cdF rfl (xt (tX (tX (bX (tN (?_))))))
             exact (hK15 wh _ _ ⟨rfl, rfl, rfl, rfl, rfl, trivial⟩ (⟨rfl, by omega, by omega, by omega⟩))
         · refine cmp (a := (wh : Int)) (b := ((endsS (cs.filter okC)).length : Int)) rfl rfl rfl (c_nlt h3) (mv (v := (.bool false)) rfl rfl (sk rfl (sk rfl (sk rfl (sk rfl (sk rfl (sk rfl ?_)))))))
           refine pkF (v := (.bool false)) rfl rfl rfl (wl_nil (tN ((hK17 _ _ ?_))))
           refine cdF rfl (xt (tX (tX (bX (tN (?_))))))
           exact (hK15 wh _ _ ⟨rfl, rfl, rfl, rfl, rfl, trivial⟩ (⟨rfl, by omega, by omega, by omega⟩))
       · rintro wh s3 w6 ⟨rfl, hwk, hwn, hwx⟩
         refine sq fun K18 hK18 => (rg (mv (v := vb) rfl rfl (mv (v := (.int .i64 n)) rfl rfl (slI (l := 0) (h := n) rfl rfl Try.underlying22 ti5 hvb rfl ⟨_, eqI (by omega)⟩ (by first | omega | simp) (by first | omega | simp) ?_))))
         intro v1 hv1
         rw [List.drop_zero] at hv1
         refine clF (vl := [v1]) rfl rfl ent16 (Read_ok v1 ((jS (cs.filter okC)).take n) w4 (Sl.any (St.ints0 hst (by simp) hv1)) (by first | omega | (simp only [List.length_take, List.length_set]; omega))) ?_
         rintro _ w7 ⟨lv1, rfl, hcm1, hq4⟩
         rw [read_cut hgood hwn hwx] at hcm1 ⊢
         have hs5 : St ((w7, []) :: _) [] w7 := (St.grow hst hq4).rebase
         have hcm1 := hcm1.monoC (ok' := fun _ => True) (fun _ _ => trivial)
         refine mv (v := (.tuple #[lv1, (.int .i64 ((EP (cs.filter okC) wh : Nat) : Int))])) rfl rfl (ex (vs := #[lv1, (.int .i64 ((EP (cs.filter okC) wh : Nat) : Int))]) (v := lv1) rfl rfl rfl (ex (vs := #[lv1, (.int .i64 ((EP (cs.filter okC) wh : Nat) : Int))]) (v := (.int .i64 ((EP (cs.filter okC) wh : Nat) : Int))) rfl rfl rfl (asg (v := lv1) rfl rfl (asg (v := (.int .i64 ((EP (cs.filter okC) wh : Nat) : Int))) rfl rfl (wl_nil (tN ((hK18 _ _ ?_))))))))
         refine sq fun K19 hK19 => (rg (asg (v := (.int .i64 0)) rfl rfl (wl_nil (tN ((hK19 _ _ ?_))))))
         refine sq fun K20 hK20 => (sq fun K21 hK21 => (rg (mv (v := (.int .i64 wh)) rfl rfl ?_)))
         by_cases h5 : ((wh : Int) : Int) > (0 : Int)
         · refine cmp (a := (wh : Int)) (b := 0) rfl rfl rfl (c_gt h5) (wl_nil (tN ((hK21 _ _ ?_))))
           refine cdT rfl (rg (mv (v := ve) rfl rfl (mv (v := (.int .i64 wh)) rfl rfl (ar (a := (wh : Int)) (b := 1) (c := (wh : Int) - 1) rfl rfl rfl rfl (w64 (by omega)) (ixI (i := (wh : Int) - 1) (el := ((EP (cs.filter okC) wh : Nat) : Int)) rfl rfl rfl Try.underlying38 ti3 (St.ints0 hs5 (by simp) hve) (by omega) (getAtI (m := wh - 1) (by have h9 := endsS_get (cs := (cs.filter okC)) (j := wh - 1) (by omega); rw [show wh - 1 + 1 = wh by omega] at h9; exact h9) (by omega)) ?_)))))
           intro b2 o2 hx2 hi2 ho2
           have hi2' := hi2.i64
           refine ld (a := ⟨b2, o2, none⟩) (v := (.int .i64 ((EP (cs.filter okC) wh : Nat) : Int))) rfl rfl Try.underlying3 rfl hx2 (asg (v := (.int .i64 ((EP (cs.filter okC) wh : Nat) : Int))) rfl rfl (wl_nil (tN ((hK20 _ _ ?_)))))
           refine sq fun K22 hK22 => (rg (mv (v := (.int .i64 ((EP (cs.filter okC) wh : Nat) : Int))) rfl rfl (mv (v := (.int .i64 ((EP (cs.filter okC) wh : Nat) : Int))) rfl rfl (cmp (a := ((EP (cs.filter okC) wh : Nat) : Int)) (b := ((EP (cs.filter okC) wh : Nat) : Int)) rfl rfl rfl (c_nne rfl) (mv (v := (.bool false)) rfl rfl (mv (v := lv1) rfl rfl (mv (v := vk) rfl rfl ?_)))))))
           refine mv (v := (.int .i64 wh)) rfl rfl (slI (l := 0) (h := wh) rfl rfl Try.underlying30 ti28 hvk rfl ⟨_, eqI (by omega)⟩ (by first | omega | simp) (by first | omega | simp) ?_)
           intro v2 hv2
           rw [List.drop_zero] at hv2
           refine clF (vl := [lv1, v2]) rfl rfl ent17 (cmds_eq lv1 v2 ((cs.filter okC).take wh) w7 hcm1 (St.cmds0 hs5 (by simp) hv2)) ?_
           rintro _ w8 ⟨rfl, hq5⟩
           have hs6 : St ((w8, []) :: _) [] w8 := (St.grow hs5 hq5).rebase
           refine not (b := true) (c := false) rfl rfl rfl (pkF (v := (.bool false)) rfl rfl rfl (wl_nil (tN ((hK22 _ _ ?_)))))
           refine cdF rfl (sp (bN (tN ((hK14 _ _ ?_)))))
           refine rg (mv (v := (.int .i64 n)) rfl rfl (ar (a := (n : Int)) (b := 1) (c := (n : Int) + 1) rfl rfl rfl rfl (w64 (by omega)) (asg (v := (.int .i64 ((n : Int) + 1))) rfl rfl (wl_nil (tN (?_))))))
           have hs7 : St [(w2, []), (w, [])] [] w8 := St.fewer hs6 (by simp)
           exact again ((n + 1), wh) ⟨rfl, rfl, rfl, rfl, eqI (by first | rfl | omega), trivial⟩ (⟨hs7, by omega, by omega, by omega⟩) (by show ((jS (cs.filter okC)).length + 1 - (n + 1) : Nat) < (jS (cs.filter okC)).length + 1 - n; omega)
         · refine cmp (a := (wh : Int)) (b := 0) rfl rfl rfl (c_ngt h5) (wl_nil (tN ((hK21 _ _ ?_))))
           refine cdF rfl (sp (tN ((hK20 _ _ ?_))))
           refine sq fun K23 hK23 => (rg (mv (v := (.int .i64 ((EP (cs.filter okC) wh : Nat) : Int))) rfl rfl (mv (v := (.int .i64 0)) rfl rfl (cmp (a := ((EP (cs.filter okC) wh : Nat) : Int)) (b := 0) rfl rfl rfl (c_nne (by rw [show wh = 0 by omega, EP_zero]; rfl)) (mv (v := (.bool false)) rfl rfl (mv (v := lv1) rfl rfl (mv (v := vk) rfl rfl ?_)))))))
           refine mv (v := (.int .i64 wh)) rfl rfl (slI (l := 0) (h := wh) rfl rfl Try.underlying30 ti28 hvk rfl ⟨_, eqI (by omega)⟩ (by first | omega | simp) (by first | omega | simp) ?_)
           intro v3 hv3
           rw [List.drop_zero] at hv3
           refine clF (vl := [lv1, v3]) rfl rfl ent17 (cmds_eq lv1 v3 ((cs.filter okC).take wh) w7 hcm1 (St.cmds0 hs5 (by simp) hv3)) ?_
           rintro _ w9 ⟨rfl, hq6⟩
           have hs8 : St ((w9, []) :: _) [] w9 := (St.grow hs5 hq6).rebase
           refine not (b := true) (c := false) rfl rfl rfl (pkF (v := (.bool false)) rfl rfl rfl (wl_nil (tN ((hK23 _ _ ?_)))))
           refine cdF rfl (sp (bN (tN ((hK14 _ _ ?_)))))
           refine rg (mv (v := (.int .i64 n)) rfl rfl (ar (a := (n : Int)) (b := 1) (c := (n : Int) + 1) rfl rfl rfl rfl (w64 (by omega)) (asg (v := (.int .i64 ((n : Int) + 1))) rfl rfl (wl_nil (tN (?_))))))
           have hs9 : St [(w2, []), (w, [])] [] w9 := St.fewer hs8 (by simp)
           exact again ((n + 1), wh) ⟨rfl, rfl, rfl, rfl, eqI (by first | rfl | omega), trivial⟩ (⟨hs9, by omega, by omega, by omega⟩) (by show ((jS (cs.filter okC)).length + 1 - (n + 1) : Nat) < (jS (cs.filter okC)).length + 1 - n; omega)
     · refine cmp (a := (n : Int)) (b := ((jS (cs.filter okC)).length : Int)) rfl rfl rfl (c_nle h2) (wl_nil (tN ((hK13 _ _ ?_))))
       refine cdF rfl (xt (tX (tX (bX (tN ((hK10 _ _ ?_)))))))
       refine sq fun K24 hK24 => (rg (clF (vl := []) rfl rfl ent9 (works_ok w4) ?_))
       rintro _ w10 ⟨rfl, hq7⟩
       have hs10 : St ((w10, []) :: _) [] w10 := (St.grow hst hq7).rebase
       refine asg (v := (.bool true)) rfl rfl (wl_nil (tN ((hK24 _ _ ?_))))
       refine rt (ret1 (v := (.bool true)) Try.results4 rfl ?_)
       exact ⟨rfl, hs10.chg (by simp)⟩
theorem flips_law (v : Value) (cs : List Cmd) (at_ by_ : Int) (w : World) (hv : Cmds (fun _ => True) w v cs) (hat : InK .u16 at_) (hby : InK .u8 by_) :
 CR Try.prog 5 #[v, (.int .u16 at_), (.int .u8 by_)] w (fun r w' => r = .bool true ∧ Chg [] w w') := by
 have hlen := hv.len
 have hat' := hat.u16
 have hby' := hby.u8
 refine enter (vs := [v, (.int .u16 at_), (.int .u8 by_)]) Try.func5 rfl Try.ntmps5 rfl ?_
 have hst0 := St.init w
 refine sq fun K1 hK1 => (rg (asg (v := (.bool false)) rfl rfl (wl_nil (tN ((hK1 _ _ ?_))))))
 refine sq fun K2 hK2 => (sq fun K3 hK3 => (rg (mv (v := v) rfl rfl (clF (vl := [v, (.int .i64 20)]) rfl rfl ent8 (few_ok v cs 20 w (St.cmds0 hst0 (by simp) hv) (by omega)) ?_))))
 rintro _ _ ⟨rfl, rfl⟩
 refine not (b := (fewS cs 20)) (c := (!(fewS cs 20))) rfl rfl rfl (mv (v := (.bool (!(fewS cs 20)))) rfl rfl ?_)
 cases hz1 : (fewS cs 20 : Bool)
 · skip
   refine sk rfl (sk rfl (pkT (v := (.bool true)) rfl rfl rfl (wl_nil (tN ((hK3 _ _ ?_))))))
   refine cdT rfl (sq fun K4 hK4 => (rg (clF (vl := []) rfl rfl ent9 (works_ok w) ?_)))
   rintro _ w1 ⟨rfl, hq1⟩
   have hs1 : St ((w1, []) :: _) [] w1 := (St.grow hst0 hq1).rebase
   refine asg (v := (.bool true)) rfl rfl (wl_nil (tN ((hK4 _ _ ?_))))
   refine rt (tR (?_))
   refine ret1 (v := (.bool true)) Try.results5 rfl ?_
   exact ⟨rfl, hs1.chg (by simp)⟩
 · skip
   refine mv (v := (.int .u8 by_)) rfl rfl ?_
   by_cases h1 : (by_ : Int) = (0 : Int)
   · refine cmp (a := by_) (b := 0) rfl rfl rfl (c_eq h1) (pkF (v := (.bool true)) rfl rfl rfl (wl_nil (tN ((hK3 _ _ ?_)))))
     refine cdT rfl (sq fun K5 hK5 => (rg (clF (vl := []) rfl rfl ent9 (works_ok w) ?_)))
     rintro _ w2 ⟨rfl, hq2⟩
     have hs2 : St ((w2, []) :: _) [] w2 := (St.grow hst0 hq2).rebase
     refine asg (v := (.bool true)) rfl rfl (wl_nil (tN ((hK5 _ _ ?_))))
     refine rt (tR (?_))
     refine ret1 (v := (.bool true)) Try.results5 rfl ?_
     exact ⟨rfl, hs2.chg (by simp)⟩
   · refine cmp (a := by_) (b := 0) rfl rfl rfl (c_neq h1) (pkF (v := (.bool false)) rfl rfl rfl (wl_nil (tN ((hK3 _ _ ?_)))))
     refine cdF rfl (sp (tN ((hK2 _ _ ?_))))
     refine sq fun K6 hK6 => (rg ?_)
     have hn : cs.length ≤ 20 := few_len hz1
     refine mv (v := v) rfl rfl (clF (vl := [v]) rfl rfl ent15 (journaled_ok v cs w (St.cmds0 hst0 (by simp) hv) (by omega)) ?_)
     rintro _ w3 ⟨vb, vk, ve, rfl, hvb, hvk, hve, hgood, hq3⟩
     have hs3 : St ((w3, []) :: _) [] w3 := (St.grow hst0 hq3).rebase
     have hjl := jS_len hgood
     have hkl : (cs.filter okC).length ≤ cs.length := List.length_filter_le _ _
     have hel : (endsS (cs.filter okC)).length = (cs.filter okC).length := ends_len _ _
     refine mv (v := (.tuple #[vb, vk, ve])) rfl rfl (ex (vs := #[vb, vk, ve]) (v := vb) rfl rfl rfl (ex (vs := #[vb, vk, ve]) (v := vk) rfl rfl rfl (ex (vs := #[vb, vk, ve]) (v := ve) rfl rfl rfl (asg (v := vb) rfl rfl (asg (v := vk) rfl rfl (asg (v := ve) rfl rfl (wl_nil ?_)))))))
     refine tN ((hK6 _ _ ?_))
     refine sq fun K7 hK7 => (sq fun K8 hK8 => (rg (mv (v := vb) rfl rfl (lenI (v := vb) rfl rfl Try.underlying22 hvb ?_))))
     by_cases h2 : (((jS (cs.filter okC)).length : Int) : Int) = (0 : Int)
     · refine cmp (a := ((jS (cs.filter okC)).length : Int)) (b := 0) rfl rfl rfl (c_eq h2) (wl_nil (tN ((hK8 _ _ ?_))))
       refine cdT rfl (sq fun K9 hK9 => (rg (mv (v := vk) rfl rfl (lenI (v := vk) rfl rfl Try.underlying30 hvk (cmp (a := ((cs.filter okC).length : Int)) (b := 0) rfl rfl rfl (c_eq (by have h9 := jS_zero (ks := (cs.filter okC)) (by omega); omega)) (mv (v := (.bool true)) rfl rfl (clF (vl := []) rfl rfl ent9 (works_ok w3) ?_)))))))
       rintro _ w4 ⟨rfl, hq4⟩
       have hs4 : St ((w4, []) :: _) [] w4 := (St.grow hs3 hq4).rebase
       refine pkT (v := (.bool true)) rfl rfl rfl (asg (v := (.bool true)) rfl rfl (wl_nil (tN ((hK9 _ _ ?_)))))
       refine rt (tR (?_))
       refine ret1 (v := (.bool true)) Try.results5 rfl ?_
       exact ⟨rfl, hs4.chg (by simp)⟩
     · refine cmp (a := ((jS (cs.filter okC)).length : Int)) (b := 0) rfl rfl rfl (c_neq h2) (wl_nil (tN ((hK8 _ _ ?_))))
       refine cdF rfl (sp (tN ((hK7 _ _ ?_))))
       refine sq fun K10 hK10 => (rg ?_)
       obtain ⟨pl, hpl, hplt⟩ := rem_ex (a := at_) (m := (jS (cs.filter okC)).length) hat'.1 (by omega)
       refine mv (v := (.int .u16 at_)) rfl rfl (cv (a := at_) (e := at_) rfl rfl Try.underlying45 Try.underlying3 (w64 (by omega)) (mv (v := vb) rfl rfl (lenI (v := vb) rfl rfl Try.underlying22 hvb (rem (a := at_) (b := ((jS (cs.filter okC)).length : Int)) (e := (pl : Int)) rfl rfl rfl (by omega) hpl (asg (v := (.int .i64 pl)) rfl rfl (wl_nil (tN ((hK10 _ _ ?_)))))))))
       refine sq fun K11 hK11 => (rg (asg (v := (.int .i64 0)) rfl rfl (wl_nil (tN ((hK11 _ _ ?_))))))
       refine sq fun K12 hK12 => (bk (lp (α := Nat) (fun kk => [(2, (.int .u8 by_)), (7, vb), (8, vk), (9, ve), (10, (.int .i64 pl)), (11, (.int .i64 kk))]) (fun kk w1 => w3 = w1 ∧ kk < (cs.filter okC).length ∧ EP (cs.filter okC) kk ≤ pl) (fun kk => (cs.filter okC).length - kk) 0 ⟨rfl, rfl, rfl, rfl, rfl, eqI (by first | rfl | omega), trivial⟩ (⟨rfl, jS_pos (by omega), by rw [EP_zero]; omega⟩) ?_))
       rintro kk s1 w5 ⟨rfl, hkk, hkp⟩
       refine sq fun K13 hK13 => (sq fun K14 hK14 => (rg (mv (v := ve) rfl rfl (mv (v := (.int .i64 kk)) rfl rfl (ixI (i := (kk : Int)) (el := ((EP (cs.filter okC) (kk + 1) : Nat) : Int)) rfl rfl rfl Try.underlying38 ti3 hve (by omega) (getAtI (m := kk) (endsS_get (by omega)) (by omega)) ?_)))))
       intro b1 o1 hx1 hi1 ho1
       have hi1' := hi1.i64
       refine ld (a := ⟨b1, o1, none⟩) (v := (.int .i64 ((EP (cs.filter okC) (kk + 1) : Nat) : Int))) rfl rfl Try.underlying3 rfl hx1 (mv (v := (.int .i64 pl)) rfl rfl ?_)
       by_cases h3 : (((EP (cs.filter okC) (kk + 1) : Nat) : Int) : Int) ≤ ((pl : Int) : Int)
       · refine cmp (a := ((EP (cs.filter okC) (kk + 1) : Nat) : Int)) (b := (pl : Int)) rfl rfl rfl (c_le h3) (wl_nil (tN ((hK14 _ _ ?_))))
         refine cdT rfl (sp (tN ((hK13 _ _ ?_))))
         refine bk (rg (mv (v := (.int .i64 kk)) rfl rfl (ar (a := (kk : Int)) (b := 1) (c := (kk : Int) + 1) rfl rfl rfl rfl (w64 (by omega)) (asg (v := (.int .i64 ((kk : Int) + 1))) rfl rfl (wl_nil (bN (tN (?_))))))))
         exact again (kk + 1) ⟨rfl, rfl, rfl, rfl, rfl, eqI (by first | rfl | omega), trivial⟩ (⟨rfl, ep_next (by omega) hplt hkk, by omega⟩) (by show ((cs.filter okC).length - (kk + 1) : Nat) < (cs.filter okC).length - kk; omega)
       · refine cmp (a := ((EP (cs.filter okC) (kk + 1) : Nat) : Int)) (b := (pl : Int)) rfl rfl rfl (c_nle h3) (wl_nil (tN ((hK14 _ _ ?_))))
         refine cdF rfl (xt (tX (tX (bX (tN ((hK12 _ _ ?_)))))))
         refine sq fun K15 hK15 => (rg (asg (v := (.int .i64 0)) rfl rfl (wl_nil (tN ((hK15 _ _ ?_))))))
         refine cut (α := Nat) (fun kk => [(2, (.int .u8 by_)), (7, vb), (8, vk), (9, ve), (10, (.int .i64 pl)), (11, (.int .i64 kk)), (12, (.int .i64 ((EP (cs.filter okC) kk : Nat) : Int)))]) (fun kk w9 => w3 = w9 ∧ kk < (cs.filter okC).length ∧ EP (cs.filter okC) kk ≤ pl ∧ pl < EP (cs.filter okC) (kk + 1)) ?_ ?_
         · intro K16 hK16
           refine sq fun K17 hK17 => (rg (mv (v := (.int .i64 kk)) rfl rfl ?_))
           by_cases h4 : ((kk : Int) : Int) > (0 : Int)
           · refine cmp (a := (kk : Int)) (b := 0) rfl rfl rfl (c_gt h4) (wl_nil (tN ((hK17 _ _ ?_))))
             refine cdT rfl (rg (mv (v := ve) rfl rfl (mv (v := (.int .i64 kk)) rfl rfl (ar (a := (kk : Int)) (b := 1) (c := (kk : Int) - 1) rfl rfl rfl rfl (w64 (by omega)) (ixI (i := (kk : Int) - 1) (el := ((EP (cs.filter okC) kk : Nat) : Int)) rfl rfl rfl Try.underlying38 ti3 hve (by omega) (getAtI (m := kk - 1) (by have h9 := endsS_get (cs := (cs.filter okC)) (j := kk - 1) (by omega); rw [show kk - 1 + 1 = kk by omega] at h9; exact h9) (by omega)) ?_)))))
             intro b2 o2 hx2 hi2 ho2
             have hi2' := hi2.i64
             refine ld (a := ⟨b2, o2, none⟩) (v := (.int .i64 ((EP (cs.filter okC) kk : Nat) : Int))) rfl rfl Try.underlying3 rfl hx2 (asg (v := (.int .i64 ((EP (cs.filter okC) kk : Nat) : Int))) rfl rfl (wl_nil (tN (?_))))
             exact (hK16 kk _ _ ⟨rfl, rfl, rfl, rfl, rfl, rfl, rfl, trivial⟩ (⟨rfl, by omega, by omega, by omega⟩))
           · refine cmp (a := (kk : Int)) (b := 0) rfl rfl rfl (c_ngt h4) (wl_nil (tN ((hK17 _ _ ?_))))
             refine cdF rfl (sp (tN (?_)))
             exact (hK16 kk _ _ ⟨rfl, rfl, rfl, rfl, rfl, rfl, eqI (by rw [show kk = 0 by omega, EP_zero]; rfl), trivial⟩ (⟨rfl, by omega, by omega, by omega⟩))
         · rintro kk s2 w6 ⟨rfl, hkk, hkp, hkx⟩
           obtain ⟨ck, hck⟩ := get_some (show kk < (cs.filter okC).length by omega)
           have hep := EP_le (cs.filter okC) kk
           have hes := EP_succ hck
           have hpul := putU_len (payloadS ck).length
           refine sq fun K18 hK18 => (rg (mv (v := vb) rfl rfl (mv (v := (.int .i64 ((EP (cs.filter okC) kk : Nat) : Int))) rfl rfl (slI (l := (EP (cs.filter okC) kk)) (h := (jS (cs.filter okC)).length) rfl rfl Try.underlying22 ti5 hvb ⟨_, eqI (by omega)⟩ rfl (by first | omega | simp) (by first | omega | simp) ?_))))
           intro v1 hv1
           rw [List.take_length] at hv1
           refine clF (vl := [v1]) rfl rfl ent18 (GetUint_ok v1 ((jS (cs.filter okC)).drop (EP (cs.filter okC) kk)) w3 (Sl.any hv1)) ?_
           rintro _ _ ⟨rfl, rfl⟩
           rw [head_at hgood hck]
           refine mv (v := (.tuple #[(.int .u64 ((payloadS ck).length : Int)), (.int .i64 ((putU (payloadS ck).length).length : Int)), (.int .i64 0)])) rfl rfl (ex (vs := #[(.int .u64 ((payloadS ck).length : Int)), (.int .i64 ((putU (payloadS ck).length).length : Int)), (.int .i64 0)]) (v := (.int .u64 ((payloadS ck).length : Int))) rfl rfl rfl (ex (vs := #[(.int .u64 ((payloadS ck).length : Int)), (.int .i64 ((putU (payloadS ck).length).length : Int)), (.int .i64 0)]) (v := (.int .i64 ((putU (payloadS ck).length).length : Int))) rfl rfl rfl (ex (vs := #[(.int .u64 ((payloadS ck).length : Int)), (.int .i64 ((putU (payloadS ck).length).length : Int)), (.int .i64 0)]) (v := (.int .i64 0)) rfl rfl rfl (asg (v := (.int .u64 ((payloadS ck).length : Int))) rfl rfl (asg (v := (.int .i64 ((putU (payloadS ck).length).length : Int))) rfl rfl (asg (v := (.int .i64 0)) rfl rfl (wl_nil ?_)))))))
           refine tN ((hK18 _ _ ?_))
           refine sq fun K19 hK19 => (sq fun K20 hK20 => (rg (mv (v := (.int .i64 0)) rfl rfl (cmp (a := 0) (b := 0) rfl rfl rfl (c_nne (by decide)) (wl_nil (tN ((hK20 _ _ ?_))))))))
           refine cdF rfl (sp (tN ((hK19 _ _ ?_))))
           refine sq fun K21 hK21 => (sq fun K22 hK22 => (rg (mv (v := (.int .i64 pl)) rfl rfl (mv (v := (.int .i64 ((EP (cs.filter okC) kk : Nat) : Int))) rfl rfl (mv (v := (.int .i64 ((putU (payloadS ck).length).length : Int))) rfl rfl (ar (a := ((EP (cs.filter okC) kk : Nat) : Int)) (b := ((putU (payloadS ck).length).length : Int)) (c := ((EP (cs.filter okC) kk : Nat) : Int) + ((putU (payloadS ck).length).length : Int)) rfl rfl rfl rfl (w64 (by omega)) ?_))))))
           by_cases h5 : ((pl : Int) : Int) < (((EP (cs.filter okC) kk : Nat) : Int) + ((putU (payloadS ck).length).length : Int) : Int)
           · refine cmp (a := (pl : Int)) (b := ((EP (cs.filter okC) kk : Nat) : Int) + ((putU (payloadS ck).length).length : Int)) rfl rfl rfl (c_lt h5) (wl_nil (tN ((hK22 _ _ ?_))))
             refine cdT rfl (sq fun K23 hK23 => (rg (clF (vl := []) rfl rfl ent9 (works_ok w3) ?_)))
             rintro _ w7 ⟨rfl, hq5⟩
             have hs5 : St ((w7, []) :: _) [] w7 := (St.grow hs3 hq5).rebase
             refine asg (v := (.bool true)) rfl rfl (wl_nil (tN ((hK23 _ _ ?_))))
             refine rt (tR (?_))
             refine ret1 (v := (.bool true)) Try.results5 rfl ?_
             exact ⟨rfl, hs5.chg (by simp)⟩
           · refine cmp (a := (pl : Int)) (b := ((EP (cs.filter okC) kk : Nat) : Int) + ((putU (payloadS ck).length).length : Int)) rfl rfl rfl (c_nlt h5) (wl_nil (tN ((hK22 _ _ ?_))))
             refine cdF rfl (sp (tN ((hK21 _ _ ?_))))
             refine sq fun K24 hK24 => (rg (bsv (vs := []) (cs := []) rfl rfl Try.underlying22 ti5 rfl (by intro v hv; simp at hv) rfl rfl rfl hs3 ?_))
             intro b3 w8 hn1 hc1 hs6
             have hs6 : St _ [rowI .u8 (.slice (some ⟨b3, 0, none⟩) 0 0) 5 ([])] w8 := hs6
             refine mv (v := vb) rfl rfl (apdI (k := .u8) (ys := []) (zs := (jS (cs.filter okC))) (LL := fun v2 => [rowI .u8 v2 5 (([]) ++ (jS (cs.filter okC)))]) 0 rfl rfl rfl Try.underlying22 ti5 rfl hs6 rfl (Ints.src (St.ints0 hs6 (by simp) hvb)) (by simp; omega) (by simp; omega) (fun _ => rfl) ?_)
             intro v2 w9 hs7 hc2
             have hs7 : St _ [rowI .u8 v2 5 (([]) ++ (jS (cs.filter okC)))] w9 := hs7
             refine asg (v := v2) rfl rfl (wl_nil (tN ((hK24 _ _ ?_))))
             refine sq fun K25 hK25 => (rg ?_)
             have hs8 : St _ [rowI .u8 v2 5 (jS (cs.filter okC))] w9 := hs7
             obtain ⟨bz, cap, exz, rfl, hc1, hc2, hc3, hs9⟩ := St.rowToBlk (i := 0) hs8 rfl (by omega)
             have hs9 : St _ [blk bz 5 ((jS (cs.filter okC)).map (.int .u8) ++ exz)] w9 := hs9
             obtain ⟨xo, hxo⟩ := get_some hplt
             have hxi := jS_in hgood xo (List.mem_of_getElem? hxo)
             have hx8 := xor8 hxi hby
             refine mv (v := (.slice (some ⟨bz, 0, none⟩) (jS (cs.filter okC)).length cap)) rfl rfl (mv (v := (.int .i64 pl)) rfl rfl (mv (v := (.slice (some ⟨bz, 0, none⟩) (jS (cs.filter okC)).length cap)) rfl rfl (mv (v := (.int .i64 pl)) rfl rfl (ixa (b := bz) (o := 0) (o' := pl) (i := (pl : Int)) rfl rfl rfl Try.underlying22 ti5 (by omega) (by omega) (ld (a := ⟨bz, pl, none⟩) (v := (.int .u8 xo)) rfl rfl Try.underlying5 rfl (St.blkCell hs9 (i := 0) rfl (row_get hxo)) (mv (v := (.int .u8 by_)) rfl rfl (bi (a := xo) (b := by_) (e := ((xo.toNat ^^^ by_.toNat : Nat) : Int)) rfl rfl rfl hx8.1 ?_)))))))
             refine ixa (b := bz) (o := 0) (o' := pl) (i := (pl : Int)) rfl rfl rfl Try.underlying22 ti5 (by omega) (by omega) (stoL (v := (.int .u8 ((xo.toNat ^^^ by_.toNat : Nat) : Int))) (vs := [(.int .u8 ((xo.toNat ^^^ by_.toNat : Nat) : Int))]) (cs' := setAt ((jS (cs.filter okC)).map (.int .u8) ++ exz) pl [(.int .u8 ((xo.toNat ^^^ by_.toNat : Nat) : Int))]) (L' := [blk bz 5 (setAt ((jS (cs.filter okC)).map (.int .u8) ++ exz) pl [(.int .u8 ((xo.toNat ^^^ by_.toNat : Nat) : Int))])]) 0 rfl rfl rfl rfl ti5 rfl rfl hs9 rfl (by simp; omega) rfl rfl (fun w10 hs10 hc3 => wl_nil (tN ((hK25 _ _ ?_)))))
             refine sq fun K26 hK26 => (rg ?_)
             have hs11 := hs10
             rw [set_cells (f := .int .u8) hplt] at hs11
             have hIs : Ints .u8 (fun _ => True) w10 (.slice (some ⟨bz, 0, none⟩) (jS (cs.filter okC)).length cap) ((jS (cs.filter okC)).set pl ((xo.toNat ^^^ by_.toNat : Nat) : Int)) := (St.blkIntsX (i := 0) hs11 rfl (in_set (jS_in hgood) hx8.2) (by simp) hc1 hc2).any
             have hs12 : St ((w10, []) :: _) [] w10 := (St.sub hs11 (List.nil_sublist _)).rebase
             refine mv (v := (.slice (some ⟨bz, 0, none⟩) (jS (cs.filter okC)).length cap)) rfl rfl (clF (vl := [(.slice (some ⟨bz, 0, none⟩) (jS (cs.filter okC)).length cap)]) rfl rfl ent16 (Read_ok (.slice (some ⟨bz, 0, none⟩) (jS (cs.filter okC)).length cap) ((jS (cs.filter okC)).set pl ((xo.toNat ^^^ by_.toNat : Nat) : Int)) w10 (Sl.any hIs) (by first | omega | (simp only [List.length_take, List.length_set]; omega))) ?_)
             rintro _ w11 ⟨lv1, rfl, hcm1, hq6⟩
             rw [read_flip hgood hck (by omega) (by omega) (by omega) hxo hx8.2 (by have h9 := xor_ne (x := xo.toNat) (y := by_.toNat) (by omega); have h8 := hxi.u8; omega)] at hcm1 ⊢
             have hs13 : St ((w11, []) :: _) [] w11 := (St.grow hs12 hq6).rebase
             have hcm1 := hcm1.monoC (ok' := fun _ => True) (fun _ _ => trivial)
             refine mv (v := (.tuple #[lv1, (.int .i64 ((EP (cs.filter okC) kk : Nat) : Int))])) rfl rfl (ex (vs := #[lv1, (.int .i64 ((EP (cs.filter okC) kk : Nat) : Int))]) (v := lv1) rfl rfl rfl (ex (vs := #[lv1, (.int .i64 ((EP (cs.filter okC) kk : Nat) : Int))]) (v := (.int .i64 ((EP (cs.filter okC) kk : Nat) : Int))) rfl rfl rfl (asg (v := lv1) rfl rfl (asg (v := (.int .i64 ((EP (cs.filter okC) kk : Nat) : Int))) rfl rfl (wl_nil (tN ((hK26 _ _ ?_))))))))
             refine sq fun K27 hK27 => (rg (mv (v := (.int .i64 ((EP (cs.filter okC) kk : Nat) : Int))) rfl rfl (mv (v := (.int .i64 ((EP (cs.filter okC) kk : Nat) : Int))) rfl rfl (cmp (a := ((EP (cs.filter okC) kk : Nat) : Int)) (b := ((EP (cs.filter okC) kk : Nat) : Int)) rfl rfl rfl (c_eq rfl) (mv (v := (.bool true)) rfl rfl (mv (v := lv1) rfl rfl (mv (v := vk) rfl rfl ?_)))))))
             refine mv (v := (.int .i64 kk)) rfl rfl (slI (l := 0) (h := kk) rfl rfl Try.underlying30 ti28 hvk rfl ⟨_, eqI (by omega)⟩ (by first | omega | simp) (by first | omega | simp) ?_)
             intro v3 hv2
             rw [List.drop_zero] at hv2
             refine clF (vl := [lv1, v3]) rfl rfl ent17 (cmds_eq lv1 v3 ((cs.filter okC).take kk) w11 hcm1 (St.cmds0 hs13 (by simp) hv2)) ?_
             rintro _ w12 ⟨rfl, hq7⟩
             have hs14 : St ((w12, []) :: _) [] w12 := (St.grow hs13 hq7).rebase
             refine pkT (v := (.bool true)) rfl rfl rfl (mv (v := (.bool true)) rfl rfl (clF (vl := []) rfl rfl ent9 (works_ok w12) ?_))
             rintro _ w13 ⟨rfl, hq8⟩
             have hs15 : St ((w13, []) :: _) [] w13 := (St.grow hs14 hq8).rebase
             refine pkT (v := (.bool true)) rfl rfl rfl (asg (v := (.bool true)) rfl rfl (wl_nil (tN ((hK27 _ _ ?_)))))
             refine rt (ret1 (v := (.bool true)) Try.results5 rfl ?_)
             exact ⟨rfl, hs15.chg (by simp)⟩
end Go.Proofs.Ytkdiogflcnihdaa
