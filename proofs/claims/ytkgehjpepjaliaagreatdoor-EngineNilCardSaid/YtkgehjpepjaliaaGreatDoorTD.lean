/- slices.Delete of the one element of a row, as a call told beforehand. -/
import Derived.Test.YtkgehjpepjaliaaGreatDoorD1
import Derived.Test.YtkgehjpepjaliaaGreatDoorFc
set_option maxRecDepth 100000
set_option linter.unusedVariables false
namespace Go.Proofs.YtkgehjpepjaliaaGreatDoor.Tab
open Go Go.Sx Go.Ex
noncomputable section
def cTD_145_1937 : Ent := { f := 145, nf := 1937, args := [.slice (some ⟨1155, 0, none⟩) 1 18446744073709551617, .int .i64 (.ofNat 0), .int .i64 (.ofNat 1)], pre := [(1155, .cells [.int .i64 (.ofNat 0)] 3 (some 1) false)], v := .slice (some ⟨1155, 0, none⟩) 0 18446744073709551617, chg := [], nf' := 1937 }
/-- the row of one zero is cleared: nothing has turned but what is new -/
theorem turn_rel {E : Env} {A : AH} {w w' : World} {pre post : List Value} (h : Rel E A w) (hc : w.heap[(E 1155).blk]? = some (.cells (pre ++ [Value.int .i64 0] ++ post).toArray 3 (0, 0)))
    (ht : Turn (blk (E 1155).blk 3 (pre ++ [Value.int .i64 0] ++ post)) w w' (blk (E 1155).blk 3 (pre ++ [Value.int .i64 0] ++ post))) (hm : ∃ o, A.get 1155 = some o ∧ o.ro = false) : Rel E A w' ∧ To E A w E A w' := by
  have hb : ∀ x, x < w.heap.size → w'.heap[x]? = w.heap[x]? := fun x hx => by
    by_cases e : x = (E 1155).blk
    · subst e; rw [hc]; exact ht.holds
    · exact ht.chg.block x hx (by simpa [blk] using e)
  refine ⟨⟨fun b o hbo => ?_, h.inj, h.wf, h.glob, h.low⟩, ⟨Nat.le_refl _, fun _ _ => rfl, ht.chg.os, ht.chg.tape, ht.chg.output, ht.chg.size, fun x hx _ => hb x hx, fun b o hbo => .inl ⟨b, o, hbo, rfl, id⟩⟩⟩
  obtain ⟨c, h1, h2⟩ := h.obj b o hbo
  exact ⟨c, (hb _ (h.lt hbo)).trans h1, h2⟩
theorem cTD_145_1937_ok : EntOk Tryz.prog cTD_145_1937 := by
  refine ⟨cTD_145_1937.start, ?_, rfl, fun b o h => by simp [cTD_145_1937] at h, fun p hp => .inr ?_⟩
  · intro E w h hn
    have hg : cTD_145_1937.start.get 1155 = some (.cells [.int .i64 (.ofNat 0)] 3 (some 1) false) := rfl
    obtain ⟨c, hc, pre, post, rfl, hp, hpost⟩ := h.obj 1155 _ hg
    have hpo : post.length = (E 1155).sl := by simpa using hpost 1 rfl
    have hc : w.heap[(E 1155).blk]? = some (.cells (pre ++ [Value.int .i64 0] ++ post).toArray 3 (0, 0)) := hc
    have hO : Own (blk (E 1155).blk 3 (pre ++ [Value.int .i64 0] ++ post)) w := ⟨hc, by simp [blk], fun b hb => by
      simp only [blk, List.mem_singleton] at hb
      subst hb
      exact (Array.getElem?_eq_some_iff.1 hc).1⟩
    have hset : setAt (pre ++ [Value.int .i64 0] ++ post) (E 1155).sh [.int .i64 0] = pre ++ [Value.int .i64 0] ++ post := by
      rw [← hp]; simp [setAt]
    have hl : (E 1155).sh + 1 ≤ (pre ++ [Value.int .i64 0] ++ post).length := by simp; omega
    have fin : ∀ r w', r = Value.slice (some ⟨(E 1155).blk, (E 1155).sh, none⟩) 0 (1 + (E 1155).sl) → Turn (blk (E 1155).blk 3 (pre ++ [Value.int .i64 0] ++ post)) w w' (blk (E 1155).blk 3 (setAt (pre ++ [Value.int .i64 0] ++ post) (E 1155).sh [.int .i64 0])) →
        Go.Ex.Left E cTD_145_1937.start w cTD_145_1937.v cTD_145_1937.start r w' := by
      intro r w' hr ht
      rw [hset] at ht
      obtain ⟨h1, h2⟩ := turn_rel h hc ht ⟨_, hg, rfl⟩
      refine ⟨E, ?_, h1, h2, by simp [cTD_145_1937, nm, Ent.start]⟩
      rw [hr]
      simp [cTD_145_1937, ren, renAd, renCap, OPEN]
    have ha : (cTD_145_1937.args.map (ren E)).toArray = #[.slice (some ⟨(E 1155).blk, (E 1155).sh, none⟩) 1 (1 + (E 1155).sl), .int .i64 0, .int .i64 1] := by
      simp [cTD_145_1937, ren, renAd, renCap, OPEN]
    rw [ha]
    cases hs : (E 1155).sl with
    | zero =>
      refine CR.mono (del_one (E 1155).blk (E 1155).sh 0 _ w hO hl) fun r w' hr => fin r w' ?_ hr.2
      rw [hr.1, hs]
    | succ k =>
      rw [show 1 + (k + 1) = k + 2 by omega]
      refine CR.mono (del_more (E 1155).blk (E 1155).sh k _ w hO hl) fun r w' hr => fin r w' ?_ hr.2
      rw [hr.1, hs, show 1 + (k + 1) = k + 2 by omega]
  · simp only [cTD_145_1937, List.mem_singleton] at hp
    subst hp
    rfl
def tTD0 : Tab := .e
theorem tTD0_ok : TabOk Tryz.prog tTD0 := tab_nil _
def tTD : Tab := tTD0.put 1937 (some cTD_145_1937)
theorem tTD_ok : TabOk Tryz.prog tTD := tab_put tTD0_ok cTD_145_1937_ok 1937
end
end Go.Proofs.YtkgehjpepjaliaaGreatDoor.Tab
