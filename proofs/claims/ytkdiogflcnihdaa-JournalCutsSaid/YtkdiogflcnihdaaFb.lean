/- Plain lemmas: rules for walking through code, one for each operation, over any program; and plain mathematics of commands as bytes and of journals. No conditions. -/
import Derived.Test.YtkdiogflcnihdaaFa
import Derived.RangeFuncRecord
import Derived.KernelRfl
import Derived.ProofKit
import Derived.Deep.Slices
set_option linter.unusedVariables false
set_option linter.unusedSimpArgs false
namespace Go.Sx
open Go
/-- what is to come out, of which ds is read and m numbers are still to come out of l -/
def GN (f : Nat → Int) (x : Nat) (l0 : List Int) (ds : List Int) (m : Nat) (l : List Int) : Prop := getN f x l0 = (getN f m l).map fun p => (ds ++ p.1, p.2)
section
variable {f : Nat → Int} {x m : Nat} {l0 l ds : List Int}
theorem GN.start (f : Nat → Int) (x : Nat) (l0 : List Int) : GN f x l0 [] x l0 := by
  unfold GN
  cases getN f x l0 <;> simp
theorem GN.none (h : GN f x l0 ds (m + 1) l) (hg : getU l = none) : getN f x l0 = none := by
  unfold GN at h
  rw [h, getN, hg]; rfl
theorem GN.go {y q : Nat} (h : GN f x l0 ds (m + 1) l) (hg : getU l = some (y, q)) : GN f x l0 (ds ++ [f y]) m (l.drop q) := by
  unfold GN at h ⊢
  rw [h, getN, hg]
  simp only []
  cases getN f m (l.drop q) with
  | none => rfl
  | some p => simp
theorem GN.end (h : GN f x l0 ds 0 l) : getN f x l0 = some (ds, l) := by
  unfold GN at h
  rw [h, getN]
  simp
end
theorem cells_step {c z : Value} {bs : List Value} {k m : Nat} (hk : bs.length = k) : setAt (bs ++ List.replicate (m + 1) z) k [c] = (bs ++ [c]) ++ List.replicate m z := by
  subst hk
  simp [setAt, List.take_append, List.drop_append, List.replicate_succ]
section
variable {most x n : Nat} {f : Nat → Int} {l : List Int}
theorem manyS_no : manyS false most f l = some ([], l) := rfl
theorem many_none (h : getU l = none) : manyS true most f l = none := by simp [manyS, h]
theorem many_most (h : getU l = some (x, n)) (hm : most < x) : manyS true most f l = none := by simp [manyS, h, hm]
theorem many_get (h : getU l = some (x, n)) (hm : ¬ most < x) : manyS true most f l = getN f x (l.drop n) := by simp [manyS, h, hm]
theorem many_zero (h : getU l = some (0, n)) : manyS true most f l = some ([], l.drop n) := by simp [manyS, h, getN]
end
theorem getN_rest {f : Nat → Int} : ∀ (k : Nat) (l xs r : List Int), getN f k l = some (xs, r) → r.length ≤ l.length ∧ ∀ y ∈ r, y ∈ l := by
  intro k
  induction k with
  | zero => intro l xs r h; simp [getN] at h; rw [h.2]; exact ⟨Nat.le_refl _, fun y hy => hy⟩
  | succ k ih =>
    intro l xs r h
    rw [getN] at h
    split at h
    · simp at h
    · split at h
      · simp at h
      · rename_i h2
        simp only [Option.some.injEq, Prod.mk.injEq] at h
        have := ih _ _ _ h2
        rw [← h.2]
        refine ⟨Nat.le_trans this.1 (by simp), fun y hy => List.mem_of_mem_drop (this.2 y hy)⟩
theorem getN_in {f : Nat → Int} {k : IntKind} (hf : ∀ x, x < 18446744073709551616 → InK k (f x)) : ∀ (m : Nat) (l xs r : List Int), (∀ y ∈ l, InK .u8 y) → getN f m l = some (xs, r) → ∀ y ∈ xs, InK k y := by
  intro m
  induction m with
  | zero => intro l xs r _ h; simp [getN] at h; rw [h.1]; simp
  | succ m ih =>
    intro l xs r hl h
    rw [getN] at h
    split at h
    · simp at h
    · rename_i x n hg
      split at h
      · simp at h
      · rename_i h2
        simp only [Option.some.injEq, Prod.mk.injEq] at h
        rw [← h.1]
        intro y hy
        rcases List.mem_cons.1 hy with rfl | hy
        · exact hf _ (getU_lt hl hg).1
        · exact ih _ _ _ (fun y hy => hl y (List.mem_of_mem_drop hy)) h2 y hy
theorem natK {x : Nat} (h : x < 18446744073709551616) : InK .u64 (x : Int) := by
  show (0 : Int) ≤ _ ∧ _ ≤ (18446744073709551615 : Int); omega
theorem many_in {f : Nat → Int} {k : IntKind} {most : Nat} {l xs r : List Int} (hf : ∀ x, x < 18446744073709551616 → InK k (f x)) (hl : ∀ y ∈ l, InK .u8 y) (h : manyS true most f l = some (xs, r)) : ∀ y ∈ xs, InK k y := by
  simp only [manyS, if_true] at h
  split at h
  · simp at h
  · split at h
    · simp at h
    · exact getN_in hf _ _ _ _ (fun y hy => hl y (List.mem_of_mem_drop hy)) h
/-- the fields that a kind uses -/
def visR (o : Int) (l : List Int) : Option (Cmd × List Int) :=
  match oneU (useU o) l with
  | none => none
  | some (u, l) => match oneU (useV o) l with
    | none => none
    | some (v, l) => match oneI (useW o) l with
      | none => none
      | some (wt, l) => match oneI (useT o) l with
        | none => none
        | some (t, l) => match manyS (useD o) 16384 (fun x => (x : Int)) l with
          | none => none
          | some (dr, l) => match manyS (useB o) 1024 unfoldS l with
            | none => none
            | some (bo, l) => some (⟨o, u, v, wt, t, dr, bo⟩, l)
theorem vis_no {o : Int} (l : List Int) (h : okOp o = false) : visR o l = some (⟨o, 0, 0, 0, 0, [], []⟩, l) := by
  obtain ⟨a, b, c, d, e, f⟩ := use_not h
  simp [visR, a, b, c, d, e, f, oneU, oneI, manyS]
theorem cmdS_vis (o : Int) (l : List Int) : cmdS (o :: l) = if okOp o then (match visR o l with | none => none | some (c, r) => if r.isEmpty then some c else none) else none := by
  unfold cmdS visR
  simp only []
  cases okOp o with
  | false => simp
  | true =>
    simp only [Bool.not_true, Bool.false_eq_true, if_false, if_true]
    cases oneU (useU o) l with
    | none => rfl
    | some a =>
      simp only []
      cases oneU (useV o) a.2 with
      | none => rfl
      | some b =>
        simp only []
        cases oneI (useW o) b.2 with
        | none => rfl
        | some c =>
          simp only []
          cases oneI (useT o) c.2 with
          | none => rfl
          | some d =>
            simp only []
            cases manyS (useD o) 16384 (fun x => (x : Int)) d.2 with
            | none => rfl
            | some e =>
              simp only []
              cases manyS (useB o) 1024 unfoldS e.2 with
              | none => rfl
              | some g => rfl
section
variable {o : Int} {l r : List Int} {c : Cmd}
theorem cmd_nok (h : okOp o = false) : cmdS (o :: l) = none := by rw [cmdS_vis, h]; rfl
theorem cmd_vn (h : visR o l = none) : cmdS (o :: l) = none := by rw [cmdS_vis, h]; simp
theorem cmd_rest (h : visR o l = some (c, r)) (hr : (r.length : Int) > 0) : cmdS (o :: l) = none := by
  rw [cmdS_vis, h]
  cases r with
  | nil => simp at hr
  | cons y r => simp
theorem cmd_some (ho : okOp o = true) (h : visR o l = some (c, r)) (hr : ¬ (r.length : Int) > 0) : cmdS (o :: l) = some c := by
  rw [cmdS_vis, h, ho]
  cases r with
  | nil => simp
  | cons y r => exfalso; simp at hr
theorem oneU_in {b : Bool} {x : Int} {l r : List Int} (hl : ∀ y ∈ l, InK .u8 y) (h : oneU b l = some (x, r)) : InK .u64 x ∧ ∀ y ∈ r, InK .u8 y := by
  cases b with
  | false => simp [oneU] at h; obtain ⟨rfl, rfl⟩ := h; exact ⟨natK (x := 0) (by decide), hl⟩
  | true =>
    simp only [oneU, if_true] at h
    cases hg : getU l with
    | none => rw [hg] at h; simp at h
    | some p =>
      rw [hg] at h
      simp at h
      obtain ⟨rfl, rfl⟩ := h
      exact ⟨natK (getU_lt hl (show getU l = some (p.1, p.2) from hg)).1, fun y hy => hl y (List.mem_of_mem_drop hy)⟩
theorem oneI_in {b : Bool} {x : Int} {l r : List Int} (hl : ∀ y ∈ l, InK .u8 y) (h : oneI b l = some (x, r)) : InK .i64 x ∧ ∀ y ∈ r, InK .u8 y := by
  cases b with
  | false => simp [oneI] at h; obtain ⟨rfl, rfl⟩ := h; exact ⟨show (-9223372036854775808 : Int) ≤ 0 ∧ (0 : Int) ≤ 9223372036854775807 by omega, hl⟩
  | true =>
    simp only [oneI, if_true] at h
    cases hg : getU l with
    | none => rw [hg] at h; simp at h
    | some p =>
      rw [hg] at h
      simp at h
      obtain ⟨rfl, rfl⟩ := h
      exact ⟨unfold_in (getU_lt hl (show getU l = some (p.1, p.2) from hg)).1, fun y hy => hl y (List.mem_of_mem_drop hy)⟩
theorem manyS_in {b : Bool} {f : Nat → Int} {k : IntKind} {most : Nat} {l xs r : List Int} (hf : ∀ x, x < 18446744073709551616 → InK k (f x)) (hl : ∀ y ∈ l, InK .u8 y) (h : manyS b most f l = some (xs, r)) : (∀ y ∈ xs, InK k y) ∧ ∀ y ∈ r, InK .u8 y := by
  cases b with
  | false => simp [manyS] at h; obtain ⟨rfl, rfl⟩ := h; exact ⟨by simp, hl⟩
  | true =>
    refine ⟨many_in hf hl h, ?_⟩
    simp only [manyS, if_true] at h
    split at h
    · simp at h
    · split at h
      · simp at h
      · intro y hy
        exact hl y (List.mem_of_mem_drop ((getN_rest _ _ _ _ h).2 y hy))
theorem vis_ok (ho : 0 ≤ o ∧ o ≤ 255) (hl : ∀ y ∈ l, InK .u8 y) (h : visR o l = some (c, r)) : c.ok ∧ c.op = o := by
  unfold visR at h
  split at h
  · cases h
  · rename_i h1
    have a1 := oneU_in hl h1
    split at h
    · cases h
    · rename_i h2
      have a2 := oneU_in a1.2 h2
      split at h
      · cases h
      · rename_i h3
        have a3 := oneI_in a2.2 h3
        split at h
        · cases h
        · rename_i h4
          have a4 := oneI_in a3.2 h4
          split at h
          · cases h
          · rename_i h5
            have a5 := manyS_in (k := .u64) (fun x hx => natK hx) a4.2 h5
            split at h
            · cases h
            · rename_i h6
              have a6 := manyS_in (k := .i64) (fun x hx => unfold_in hx) a5.2 h6
              simp only [Option.some.injEq, Prod.mk.injEq] at h
              obtain ⟨rfl, _⟩ := h
              exact ⟨⟨show (-9223372036854775808 : Int) ≤ o ∧ o ≤ 9223372036854775807 by omega, a1.1, a2.1, a3.1, a4.1, a5.1, a6.1⟩, rfl⟩
theorem cmdS_ok {p : List Int} (hp : ∀ y ∈ p, InK .u8 y) (h : cmdS p = some c) : c.ok := by
  cases p with
  | nil => cases h
  | cons o l =>
    rw [cmdS_vis] at h
    split at h
    · split at h
      · cases h
      · rename_i hv
        split at h
        · cases h; exact (vis_ok (hp o (by simp)).u8 (fun y hy => hp y (by simp [hy])) hv).1
        · cases h
    · cases h
end
end Go.Sx

namespace Go.Sx
open Go
/-- a command with the values of its two lists -/
abbrev CT := Cmd × Value × Value
def CT.cells (t : CT) : List Value := cmdCells t.1 t.2.1 t.2.2
/-- commands whose lists lie in the blocks F -/
def tsRes (F : List Nat) (ts : List CT) : Res where
  foot := F
  holds w := ∀ t ∈ ts, t.1.ok ∧ Ints .u64 (· ∈ F) w t.2.1 t.1.dr ∧ Ints .i64 (· ∈ F) w t.2.2 t.1.bo
  loc w w' h hh t ht := ⟨(hh t ht).1, Ints.to (hh t ht).2.1 fun b hb _ => h b hb, Ints.to (hh t ht).2.2 fun b hb _ => h b hb⟩
section
variable {w w' w0 : World} {bs : List (World × List Nat)} {L : List Res} {R : Res} {F F' : List Nat} {ts ts' : List CT} {c : Cmd} {dv bv : Value} {i : Nat}
theorem Ints.withF {k : IntKind} {ok ok' : Nat → Prop} {v : Value} {xs : List Int} (h : Ints k ok w v xs) (ho : ∀ b, ok b → b < w.heap.size → ok' b) : Ints k ok' w v xs :=
  (h.old (by decide)).mono fun b hb => ho b hb.1 hb.2
/-- new memory that a call has left behind, as a thing of ours -/
theorem St.addReg (h : St bs L w) (hc : Chg [] w w') (R : Res) (hf : R.foot = List.range' w.heap.size (w'.heap.size - w.heap.size)) (hR : R.holds w') : St bs (R :: L) w' := by
  have := hc.size
  refine h.addNew hc (fun b hb => ?_) ?_ (fun b hb => ?_) hR
  · rw [hf, List.mem_range'_1] at hb; exact hb.1
  · rw [hf]; exact List.nodup_range'
  · rw [hf, List.mem_range'_1] at hb; omega
theorem St.spoilReg (h : St bs (R :: L) w) (hc : Chg R.foot w w') (R' : Res) (hf : R'.foot = List.range' w.heap.size (w'.heap.size - w.heap.size)) (hR : R'.holds w') : St bs (R' :: L) w' := by
  have := hc.size
  refine (h.spoil hc).add (lo := w.heap.size) (fun p hp => (h.base p hp).chg.size) (fun b hb => h.lt b (by rw [feet_cons]; exact List.mem_append_right _ hb)) (fun b hb => ?_) ?_ (fun b hb => ?_) hR
  · rw [hf, List.mem_range'_1] at hb; exact hb.1
  · rw [hf]; exact List.nodup_range'
  · rw [hf, List.mem_range'_1] at hb; omega
theorem new_range {lo n b : Nat} (h1 : lo ≤ b) (h2 : b < n) : b ∈ List.range' lo (n - lo) := by rw [List.mem_range'_1]; omega
theorem ts_one {F : List Nat} (hc : c.ok) (hd : Ints .u64 (· ∈ F) w dv c.dr) (hb : Ints .i64 (· ∈ F) w bv c.bo) : (tsRes F [(c, dv, bv)]).holds w := by
  intro t ht
  simp only [List.mem_singleton] at ht
  subst ht
  exact ⟨hc, hd, hb⟩
theorem St.addCmd (h : St bs L w) (hc : Chg [] w w') (hok : c.ok) (hd : Ints .u64 (fun b => w.heap.size ≤ b) w' dv c.dr) (hb : Ints .i64 (fun b => w.heap.size ≤ b) w' bv c.bo) : ∃ F, St bs (tsRes F [(c, dv, bv)] :: L) w' :=
  ⟨_, h.addReg hc (tsRes _ [(c, dv, bv)]) rfl (ts_one hok (hd.withF fun b => new_range) (hb.withF fun b => new_range))⟩
theorem St.spoilCmd (h : St bs (R :: L) w) (hc : Chg R.foot w w') (hok : c.ok) (hd : Ints .u64 (fun b => w.heap.size ≤ b) w' dv c.dr) (hb : Ints .i64 (fun b => w.heap.size ≤ b) w' bv c.bo) : ∃ F, St bs (tsRes F [(c, dv, bv)] :: L) w' :=
  ⟨_, h.spoilReg hc (tsRes _ [(c, dv, bv)]) rfl (ts_one hok (hd.withF fun b => new_range) (hb.withF fun b => new_range))⟩
/-- two lots of commands, as one -/
theorem St.joinTs (h : St bs (tsRes F ts :: tsRes F' ts' :: L) w) : St bs (tsRes (F ++ F') (ts ++ ts') :: L) w := by
  have h1 := h.own (tsRes F ts) (by simp)
  have h2 := h.own (tsRes F' ts') (by simp)
  have hf : feet (tsRes (F ++ F') (ts ++ ts') :: L) = feet (tsRes F ts :: tsRes F' ts' :: L) := by simp [feet, tsRes]
  refine ⟨fun p hp => ⟨(h.base p hp).chg, fun b hb => (h.base p hp).mine b (by rw [← hf]; exact hb)⟩, fun Q hQ => ?_, by rw [hf]; exact h.sep, fun b hb => h.lt b (by rw [← hf]; exact hb)⟩
  rcases List.mem_cons.1 hQ with rfl | hQ
  · intro t ht
    rcases List.mem_append.1 ht with ht | ht
    · exact ⟨(h1 t ht).1, (h1 t ht).2.1.mono fun b hb => List.mem_append_left _ hb, (h1 t ht).2.2.mono fun b hb => List.mem_append_left _ hb⟩
    · exact ⟨(h2 t ht).1, (h2 t ht).2.1.mono fun b hb => List.mem_append_right _ hb, (h2 t ht).2.2.mono fun b hb => List.mem_append_right _ hb⟩
  · exact h.own Q (by simp [hQ])
theorem St.nilTs (h : St bs L w) : St bs (tsRes [] [] :: L) w :=
  h.add (lo := w.heap.size) (fun p hp => (h.base p hp).chg.size) h.lt (fun b hb => by simp [tsRes] at hb) (by simp [tsRes]) (fun b hb => by simp [tsRes] at hb) (fun t ht => by simp at ht)
theorem St.tsD (h : St bs L w) (hi : L[i]? = some (tsRes F ts)) {t : CT} (ht : t ∈ ts) : Ints .u64 (fun b => b ∈ feet L) w t.2.1 t.1.dr :=
  ((h.own _ (List.mem_of_getElem? hi)) t ht).2.1.mono fun b hb => mem_feet_of hi hb
theorem St.tsB (h : St bs L w) (hi : L[i]? = some (tsRes F ts)) {t : CT} (ht : t ∈ ts) : Ints .i64 (fun b => b ∈ feet L) w t.2.2 t.1.bo :=
  ((h.own _ (List.mem_of_getElem? hi)) t ht).2.2.mono fun b hb => mem_feet_of hi hb
theorem St.tsOk (h : St bs L w) (hi : L[i]? = some (tsRes F ts)) {t : CT} (ht : t ∈ ts) : t.1.ok := ((h.own _ (List.mem_of_getElem? hi)) t ht).1
theorem St.tsD1 (h : St bs L w) (hi : L[i]? = some (tsRes F [(c, dv, bv)])) : Ints .u64 (fun b => b ∈ feet L) w dv c.dr := h.tsD hi (t := (c, dv, bv)) (by simp)
theorem St.tsB1 (h : St bs L w) (hi : L[i]? = some (tsRes F [(c, dv, bv)])) : Ints .i64 (fun b => b ∈ feet L) w bv c.bo := h.tsB hi (t := (c, dv, bv)) (by simp)
end
end Go.Sx

namespace Go.Sx
open Go
/-- the record of a loop over a function -/
def lobj (l : Nat) (r : Loop) : Res where
  foot := [l]
  holds w := w.heap[l]? = some (.loop r)
  loc w w' h hh := (h l (by simp)).trans hh
/-- the block of the rounds' deferred calls -/
def dobj (d : Nat) (o : Option (List Deferred)) : Res where
  foot := [d]
  holds w := w.heap[d]? = some (.deferred o)
  loc w w' h hh := (h d (by simp)).trans hh
theorem Chg.putObj (w : World) (r : Nat) (o : Obj) : Chg [r] w (w.putObj r o) :=
  ⟨rfl, rfl, rfl, by simp, fun b _ hb => World.putObj_heap_other (by simpa using hb)⟩
section
variable {w w' : World} {bs : List (World × List Nat)} {L LL : List Res} {i l d : Nat} {rc : Loop}
theorem St.loopHeap (h : St bs L w) (hi : L[i]? = some (lobj l rc)) : w.heap[l]? = some (.loop rc) := h.own _ (List.mem_of_getElem? hi)
theorem St.putLoop (h : St bs L w) (hi : L[i]? = some (lobj l rc)) (rc' : Loop) : St bs (L.set i (lobj l rc')) (w.putObj l (.loop rc')) := by
  have hlt : l < w.heap.size := h.lt l (mem_feet_of hi (by simp [lobj]))
  exact h.upd hi (Chg.putObj w l _) (fun b hb => .inl hb) (by simp [lobj]) (fun b hb => by simp [lobj] at hb; subst hb; simpa using hlt) (World.putObj_heap_same hlt)
theorem St.putDef {o : Option (List Deferred)} (h : St bs L w) (hi : L[i]? = some (dobj d o)) (o' : Option (List Deferred)) : St bs (L.set i (dobj d o')) (w.putObj d (.deferred o')) := by
  have hlt : d < w.heap.size := h.lt d (mem_feet_of hi (by simp [dobj]))
  exact h.upd hi (Chg.putObj w d _) (fun b hb => .inl hb) (by simp [dobj]) (fun b hb => by simp [dobj] at hb; subst hb; simpa using hlt) (World.putObj_heap_same hlt)
end
/-- several things, as one -/
def allR (L : List Res) : Res where
  foot := feet L
  holds w := ∀ R ∈ L, R.holds w
  loc w w' h hh R hR := R.loc w w' (fun b hb => h b (List.mem_flatMap.2 ⟨R, hR, hb⟩)) (hh R hR)
section
variable {w w0 : World} {bs : List (World × List Nat)} {A B : List Res} {R : Res}
theorem feet_append (A B : List Res) : feet (A ++ B) = feet A ++ feet B := by simp [feet]
theorem feet_all (A B : List Res) : feet (allR A :: B) = feet (A ++ B) := by rw [feet_cons, feet_append]; rfl
theorem St.pack (A B : List Res) (h : St bs (A ++ B) w) : St bs (allR A :: B) w :=
  ⟨fun p hp => ⟨(h.base p hp).chg, fun b hb => (h.base p hp).mine b (by rw [← feet_all]; exact hb)⟩, fun Q hQ => by
    rcases List.mem_cons.1 hQ with rfl | hQ
    · exact fun R hR => h.own R (List.mem_append_left _ hR)
    · exact h.own Q (List.mem_append_right _ hQ), by rw [feet_all]; exact h.sep, fun b hb => h.lt b (by rw [← feet_all]; exact hb)⟩
theorem St.unpack (h : St bs (allR A :: B) w) : St bs (A ++ B) w :=
  ⟨fun p hp => ⟨(h.base p hp).chg, fun b hb => (h.base p hp).mine b (by rw [feet_all]; exact hb)⟩, fun Q hQ => by
    rcases List.mem_append.1 hQ with hQ | hQ
    · exact h.own (allR A) (by simp) Q hQ
    · exact h.own Q (by simp [hQ]), by rw [← feet_all]; exact h.sep, fun b hb => h.lt b (by rw [feet_all]; exact hb)⟩
theorem St.notIn {b : Nat} (h : St bs (R :: B) w) (hb : b ∈ feet B) : b ∉ R.foot := fun hr => by
  have := h.sep
  rw [feet_cons] at this
  exact (List.nodup_append.1 this).2.2 b hr b hb rfl
theorem St.apart {b : Nat} (h : St bs (R :: B) w) (hb : (w0, []) ∈ bs) (hlt : b < w0.heap.size) : b ∉ R.foot := fun hr => by
  have := h.feetNew hb (b := b) (by rw [feet_cons]; exact List.mem_append_left _ hr)
  omega
end
/-- a call of yield runs a round that returns -/
def YR (P : Program) (l : Nat) (vl : List Value) (w : World) (R : Value → World → Prop) : Prop :=
  ∃ f tmps assign body, (Instr.yield l vl.toArray).run P w = .ok (.round l f tmps assign body) w ∧ RoundIn (FW none) 0 P l f tmps assign body w (fun e w' => ∃ v, e = .returned v ∧ R v w')
theorem YR.mono {P : Program} {l : Nat} {vl : List Value} {w : World} {R R' : Value → World → Prop} (h : YR P l vl w R) (hr : ∀ v w', R v w' → R' v w') : YR P l vl w R' := by
  obtain ⟨f, tmps, assign, body, h1, h2⟩ := h
  exact ⟨f, tmps, assign, body, h1, RoundIn.mono h2 fun e w' ⟨v, he, hR⟩ => ⟨v, he, hr v w' hR⟩⟩
section
variable {P : Program} {ops : Array Oper} {Q : Exit → Act → World → Prop} {rest : List Oper} {n : Nat} {s : List (Nat × Value)} {ds : List Deferred} {w : World}
variable {d : Option Nat} {ty : TypeId} {pos : String} {af : Array Edge} {g : Option (Nat × Bool)} {x : Operand} {l : Nat}
theorem yl {az : List Operand} {T : Array TypeId} {vl : List Value} {R : Value → World → Prop} (hg : takenB ops n s g = true) (hx : ev n s x = .func (.yield l) #[] #[]) (hvs : az.map (ev n s) = vl) (hy : YR P l vl w R)
    (K : ∀ v w', R v w' → WL none P ops Q rest (Fr n (putR d v s) ds) w') : WL none P ops Q (⟨d, .call ⟨.value x, az.toArray, T⟩, ty, pos, af, g⟩ :: rest) (Fr n s ds) w := by
  obtain ⟨f, tmps, assign, body, h1, h2⟩ := hy
  refine ⟨?_⟩
  unfold wpListIn
  rw [wanted_takenB, hg, if_pos rfl]
  refine ⟨fun _ _ => trivial, ?_⟩
  have hr : (Oper.semAt (FW none).round (Fr n s ds).eval (⟨d, .call ⟨.value x, az.toArray, T⟩, ty, pos, af, g⟩ : Oper)).run P w = .ok (.round l f tmps assign body) w := by
    rw [show (FW none).round = none from rfl, Oper.semAt_none, Fr_eval']
    simp only [execOp, resolve, Deferred.ofValue, hx, map_toArray', hvs, Sem.run_bind, Sem.run_pure, Result.andThen_ok, invoke]
    simpa using h1
  rw [hr]
  refine ⟨fun h => by simp [FW] at h, RoundIn.mono h2 ?_⟩
  rintro e w' ⟨v, rfl, hR⟩
  have := (K v w' hR).out
  rw [← Fr_putR] at this
  exact this
/-- the loop's variables -/
def puts : List Nat → List Value → List (Nat × Value) → List (Nat × Value)
  | p :: ps, v :: vs, s => puts ps vs ((p, v) :: s)
  | _, _, s => s
theorem Fr_tmps_put (p : Nat) (v : Value) : (Fr n s ds).tmps.setIfInBounds p v = (Fr n ((p, v) :: s) ds).tmps := congrArg Act.tmps (Fr_put n s ds p v)
theorem puts_tmpsL : ∀ (ps : List Nat) (vs : List Value) (s : List (Nat × Value)), ((ps.zip vs).foldl (fun (t : Array Value) (q : Nat × Value) => t.setIfInBounds q.1 q.2) (Fr n s ds).tmps) = (Fr n (puts ps vs s) ds).tmps := by
  intro ps
  induction ps with
  | nil => intro vs s; simp [puts]
  | cons p ps ih =>
    intro vs s
    cases vs with
    | nil => simp [puts]
    | cons v vs =>
      simp only [List.zip_cons_cons, List.foldl_cons, puts]
      rw [Fr_tmps_put]
      exact ih vs _
theorem puts_tmps (ps : List Nat) (vs : List Value) (s : List (Nat × Value)) : ((ps.toArray.zip vs.toArray).foldl (fun (t : Array Value) (q : Nat × Value) => t.setIfInBounds q.1 q.2) (Fr n s ds).tmps) = (Fr n (puts ps vs s) ds).tmps := by
  rw [← puts_tmpsL, List.zip_toArray, List.foldl_toArray]
variable {bs : List (World × List Nat)} {L LL : List Res} {i : Nat} {rc : Loop}
/-- one round, out of the walks of its parts -/
theorem rnd {ps : List Nat} {vl : List Value} {s' : List (Nat × Value)} {fn dd : Nat} {assign body : Code} {R : Value → World → Prop} (i : Nat) (hrc : rc = ⟨.ready, none, fn, (Fr n s ds).tmps, ps.toArray, assign, body, dd⟩) (hst : St bs L w) (hi : L[i]? = some (lobj l rc))
    (hlen : vl.length = ps.length) (hs : puts ps vl s = s')
    (h : WP (some l) P assign (Exit.then (fun a w₁ => ∃ w₂, (Instr.beginRound l).run P w₁ = .ok () w₂ ∧ WP (some l) P body (roundPost P l (fun e w' => ∃ v, e = .returned v ∧ R v w')) a w₂) (fun _ _ _ => False)) (Fr n s' []) w) : YR P l vl w R := by
  subst hs hrc
  refine ⟨_, _, _, _, run_yield (hst.loopHeap hi) (by simpa using hlen), roundIn_of_wpIn trivial ?_⟩
  have e := puts_tmps (n := n) (ds := ds) ps vl s
  show assign.wpIn (FW (some l)) 0 P _ { tmps := ((ps.toArray.zip vl.toArray).foldl (fun (t : Array Value) (q : Nat × Value) => t.setIfInBounds q.1 q.2) (Fr n s ds).tmps), defers := [] } w
  rw [e]
  exact h
theorem begR {B : World → Prop} (i : Nat) (hst : St bs L w) (hi : L[i]? = some (lobj l rc)) (hr : rc.state = .ready) (hL : L.set i (lobj l { rc with state := .busy }) = LL) (K : ∀ w₂, St bs LL w₂ → B w₂) : ∃ w₂, (Instr.beginRound l).run P w = .ok () w₂ ∧ B w₂ :=
  ⟨_, run_beginRound (hst.loopHeap hi) hr, K _ (by subst hL; exact hst.putLoop hi _)⟩
theorem endR {R : Ending → World → Prop} {a : Act} (i : Nat) (hst : St bs L w) (hi : L[i]? = some (lobj l { rc with state := .busy })) (hr : rc.state = .ready) (hp : rc.pending = none) (hL : L.set i (lobj l rc) = LL) (K : ∀ w', St bs LL w' → R (.returned (.bool true)) w') : roundPost P l R .normal a w := by
  refine ⟨_, _, run_endRound none (hst.loopHeap hi), K _ ?_⟩
  subst hL
  have := hst.putLoop hi rc
  obtain ⟨a, b, c, d, e, f, g, h⟩ := rc
  simp only at hr hp
  subst hr hp
  exact this
/-- the statement -/
theorem rf {f : FuncId} {fi ca : List Value} {ps : List Nat} {assign body : Code} {α : Type} (LZ : α → List Res) (C : α → Prop) (hst : St bs L w) (hx : ev n s x = .func (.func f) fi.toArray ca.toArray) (he : EntersF P f)
    (h1 : ∀ fn dd l w₁ rc, rc = (⟨.ready, none, fn, (Fr n s ds).tmps, ps.toArray, assign, body, dd⟩ : Loop) → St bs (lobj l rc :: dobj dd (some []) :: L) w₁ →
      CR P f (fi ++ [Value.func (.yield l) #[] #[]] ++ ca).toArray w₁ (fun _ w₃ => ∃ z, C z ∧ St bs (lobj l rc :: dobj dd (some []) :: LZ z) w₃))
    (h2 : ∀ z dd w₄, C z → St bs (dobj dd (some []) :: LZ z) w₄ → Q .normal (Fr n s (⟨.collected dd, #[]⟩ :: ds)) w₄) : WP none P (.rangeFunc x ps.toArray assign body) Q (Fr n s ds) w := by
  refine wpIn_rangeFunc fun fn _ => ?_
  have hs1 : St bs (dobj w.heap.size (some []) :: L) (w.alloc (.deferred (some []))) :=
    hst.addNew (Chg.alloc [] w _) (fun b hb => by simp [dobj] at hb; omega) (by simp [dobj]) (fun b hb => by simp [dobj] at hb; simp; omega) (World.alloc_heap_new w _)
  have hs2 : St bs (lobj (w.heap.size + 1) ⟨.ready, none, fn, (Fr n s ds).tmps, ps.toArray, assign, body, w.heap.size⟩ :: dobj w.heap.size (some []) :: L) ((w.alloc (.deferred (some []))).alloc (.loop ⟨.ready, none, fn, (Fr n s ds).tmps, ps.toArray, assign, body, w.heap.size⟩)) :=
    hs1.addNew (Chg.alloc [] _ _) (fun b hb => by simp [lobj] at hb; simp; omega) (by simp [lobj]) (fun b hb => by simp [lobj] at hb; simp; omega) (by have := World.alloc_heap_new (w.alloc (.deferred (some []))) (.loop ⟨.ready, none, fn, (Fr n s ds).tmps, ps.toArray, assign, body, w.heap.size⟩); simpa [lobj] using this)
  refine ⟨w.heap.size + 1, _, _, ⟨.fn (.func f) ca.toArray, (fi ++ [Value.func (.yield (w.heap.size + 1)) #[] #[]]).toArray⟩, ((w.alloc (.deferred (some []))).alloc (.loop ⟨.ready, none, fn, (Fr n s ds).tmps, ps.toArray, assign, body, w.heap.size⟩)), f, (fi ++ [Value.func (.yield (w.heap.size + 1)) #[] #[]] ++ ca).toArray, ((w.alloc (.deferred (some []))).alloc (.loop ⟨.ready, none, fn, (Fr n s ds).tmps, ps.toArray, assign, body, w.heap.size⟩)), run_enterLoop_outer fn _ _ _ _, ?_, fun _ _ => trivial, ?_, fun h => by simp [FW] at h, ?_⟩
  · rw [Fr_eval']
    simp only [resolve, rangeCall, Deferred.ofValue, hx]
    simp [ev]
  · have := he ((fi ++ [Value.func (.yield (w.heap.size + 1)) #[] #[]] ++ ca).toArray) ((w.alloc (.deferred (some []))).alloc (.loop ⟨.ready, none, fn, (Fr n s ds).tmps, ps.toArray, assign, body, w.heap.size⟩))
    simp only [invoke]
    simpa using this
  · refine callsIn_FW.2 (Calls.mono (h1 fn w.heap.size (w.heap.size + 1) _ _ rfl hs2) ?_)
    rintro e w₃ ⟨v, rfl, z, hC, hs3⟩
    refine ⟨none, _, run_endLoop (hs3.loopHeap (i := 0) rfl) (by simp), ?_⟩
    refine h2 z w.heap.size _ hC ?_
    exact (hs3.putLoop (i := 0) rfl _).sub (List.sublist_cons_self _ _)
end
section
variable {P : Program} {n : Nat} {s : List (Nat × Value)} {w : World} {fn : Func} {f : FuncId} {c : Code} {vs : List Value} {RR : Ending → World → Prop} {bs : List (World × List Nat)} {L LL : List Res} {d : Nat} {tmps : Array Value}
theorem enterM (hf : P.funcs[f]? = some fn) (hb : fn.body = some c) (hn : fn.ntmps = n) (hs : Nat.ble vs.length n = true)
    (h : WP none P c (bodyPostM (FW none) 0 P fn RR) (Fr n (argS vs 0) []) w) : Calls P f vs.toArray w RR := by
  refine callsIn_FW.1 (callsIn_of_wp_marks (F := FW none) (n := 0) hf hb trivial ?_)
  rw [hn, Fr_args vs n (Nat.le_of_ble_eq_true hs)]
  exact h
theorem leaveM (i : Nat) (hst : St bs L w) (hi : L[i]? = some (dobj d (some []))) (hL : L.set i (dobj d none) = LL) (K : ∀ w', St bs LL w' → ∃ v, (results fn tmps).run P w' = .ok v w' ∧ RR (.returned v) w') :
    LeavesInM (FW none) 0 P fn tmps RR [⟨.collected d, #[]⟩] .returning w :=
  ⟨by simp, .inl ⟨d, _, rfl, run_takeDeferred (hst.own _ (List.mem_of_getElem? hi)), K _ (by subst hL; exact hst.putDef hi none)⟩⟩
end
end Go.Sx

namespace Go.Sx
open Go
section
variable {P : Program} {w : World} {t e : TypeId} {k : IntKind} {by_ : Nat} {z : Value}
theorem run_eqInt (d : Nat) (he : P.underlying e = some (.int k)) (a b : Int) : (Op.equalIn (d + 1) e (.int k a) (.int k b)).run P w = .ok (a == b) w := by
  simp [Op.equalIn, run_underlying he]
theorem run_eqBool (d : Nat) (he : P.underlying t = some .bool) (a b : Bool) : (Op.equalIn (d + 1) t (.bool a) (.bool b)).run P w = .ok (a == b) w := by
  simp [Op.equalIn, run_underlying he]
theorem run_part (he : P.underlying e = some (.int k)) (xs : Array Value) (i : Nat) (v : Value) (h : xs[i]? = some v) : (part e xs i).run P w = .ok v w := by
  simp [part, run_isAgg he, isAggD, h]
theorem run_eqArr4 (ht : P.underlying t = some (.array 4 e)) (he : P.underlying e = some (.int k)) (hi : TI P e 1 by_ z) (a0 a1 a2 a3 b0 b1 b2 b3 : Int) :
    (Op.equal t (.agg #[.int k a0, .int k a1, .int k a2, .int k a3]) (.agg #[.int k b0, .int k b1, .int k b2, .int k b3])).run P w = .ok (decide ([a0, a1, a2, a3] = [b0, b1, b2, b3])) w := by
  have p : ∀ (x0 x1 x2 x3 : Value), (part e #[x0, x1, x2, x3] 0).run P w = .ok x0 w ∧ (part e #[x0, x1, x2, x3] 1).run P w = .ok x1 w ∧ (part e #[x0, x1, x2, x3] 2).run P w = .ok x2 w ∧ (part e #[x0, x1, x2, x3] 3).run P w = .ok x3 w := fun x0 x1 x2 x3 =>
    ⟨run_part he _ _ _ rfl, run_part he _ _ _ rfl, run_part he _ _ _ rfl, run_part he _ _ _ rfl⟩
  have q := fun a b => run_eqInt (P := P) (w := w) 9998 he a b
  simp only [Nat.reduceAdd] at q
  show (Op.equalIn 10000 t _ _).run P w = _
  unfold Op.equalIn
  simp only [Sem.run_bind, run_underlying ht, Result.andThen_ok, hi.size, Std.Legacy.Range.forIn_eq_forIn_range', Std.Legacy.Range.size]
  simp only [show List.range' 0 ((4 - 0 + 1 - 1) / 1) 1 = [0, 1, 2, 3] from rfl, List.forIn_cons, List.forIn_nil, Sem.run_bind, Nat.mul_one, (p _ _ _ _).1, (p _ _ _ _).2.1, (p _ _ _ _).2.2.1, (p _ _ _ _).2.2.2, Result.andThen_ok, q]
  by_cases h0 : a0 = b0
  · by_cases h1 : a1 = b1
    · by_cases h2 : a2 = b2
      · by_cases h3 : a3 = b3
        · simp [h0, h1, h2, h3, p, q, Result.andThen]
        · simp [h0, h1, h2, h3, p, q, Result.andThen]
      · simp [h0, h1, h2, p, q, Result.andThen]
    · simp [h0, h1, p, q, Result.andThen]
  · simp [h0, p, q, Result.andThen]
end
section
variable {r : Option Nat} {P : Program} {ops : Array Oper} {Q : Exit → Act → World → Prop} {rest : List Oper} {n : Nat} {s : List (Nat × Value)} {ds : List Deferred} {w : World}
variable {d : Nat} {dd : Option Nat} {ty t t' e : TypeId} {pos : String} {af : Array Edge} {g : Option (Nat × Bool)} {x y : Operand} {k : IntKind} {by_ : Nat} {z : Value} {a0 a1 a2 a3 b0 b1 b2 b3 : Int} {c : Bool}
theorem run_eqGuard_agg (op : BinOp) (hgd : P.eqGuardType P.depth t = false) (xs ys : Array Value) : (eqGuard op t x y (.agg xs) (.agg ys)).run P w = .ok () w := by
  unfold eqGuard
  cases op <;> simp [hgd, program, Sem.run]
theorem neArr_r (hx : ev n s x = .agg #[.int k a0, .int k a1, .int k a2, .int k a3]) (hy : ev n s y = .agg #[.int k b0, .int k b1, .int k b2, .int k b3]) (ht : P.underlying t = some (.array 4 e)) (he : P.underlying e = some (.int k)) (hi : TI P e 1 by_ z)
    (hgd : P.eqGuardType P.depth t = false) (hc : (!decide ([a0, a1, a2, a3] = [b0, b1, b2, b3])) = c) :
    (execOp (ev n s) ⟨dd, .binOp .neq t x y t', ty, pos, af, g⟩).run P w = .ok (.value (.bool c)) w := by
  subst hc
  have h := run_eqArr4 (P := P) (w := w) ht he hi a0 a1 a2 a3 b0 b1 b2 b3
  simp only [execOp, hx, hy, Sem.run_bind, run_eqGuard_agg .neq hgd, Result.andThen_ok]
  simp only [binOp, Sem.run_bind, h, Result.andThen_ok, Sem.run_pure]
theorem neBool_r {a b : Bool} (hx : ev n s x = .bool a) (hy : ev n s y = .bool b) (ht : P.underlying t = some .bool) (hc : (!(a == b)) = c) :
    (execOp (ev n s) ⟨dd, .binOp .neq t x y t', ty, pos, af, g⟩).run P w = .ok (.value (.bool c)) w := by
  subst hc
  have h1 : (Op.equal t (.bool a) (.bool b)).run P w = .ok (a == b) w := run_eqBool 9999 ht a b
  have h2 : (eqGuard .neq t x y (.bool a) (.bool b)).run P w = .ok () w := rfl
  simp only [execOp, hx, hy, Sem.run_bind, h2, Result.andThen_ok]
  simp only [binOp, Sem.run_bind, h1, Result.andThen_ok, Sem.run_pure]
theorem neBool {a b : Bool} (hg : takenB ops n s g = true) (hx : ev n s x = .bool a) (hy : ev n s y = .bool b) (ht : P.underlying t = some .bool) (hc : (!(a == b)) = c) (K : WL r P ops Q rest (Fr n ((d, .bool c) :: s) ds) w) :
    WL r P ops Q (⟨some d, .binOp .neq t x y t', ty, pos, af, g⟩ :: rest) (Fr n s ds) w := pv hg rfl (neBool_r hx hy ht hc) K
theorem eqBool_r {a b : Bool} (hx : ev n s x = .bool a) (hy : ev n s y = .bool b) (ht : P.underlying t = some .bool) (hc : (a == b) = c) :
    (execOp (ev n s) ⟨dd, .binOp .eql t x y t', ty, pos, af, g⟩).run P w = .ok (.value (.bool c)) w := by
  subst hc
  have h1 : (Op.equal t (.bool a) (.bool b)).run P w = .ok (a == b) w := run_eqBool 9999 ht a b
  have h2 : (eqGuard .eql t x y (.bool a) (.bool b)).run P w = .ok () w := rfl
  simp only [execOp, hx, hy, Sem.run_bind, h2, Result.andThen_ok]
  simp only [binOp, Sem.run_bind, h1, Result.andThen_ok, Sem.run_pure]
theorem eqBool {a b : Bool} (hg : takenB ops n s g = true) (hx : ev n s x = .bool a) (hy : ev n s y = .bool b) (ht : P.underlying t = some .bool) (hc : (a == b) = c) (K : WL r P ops Q rest (Fr n ((d, .bool c) :: s) ds) w) :
    WL r P ops Q (⟨some d, .binOp .eql t x y t', ty, pos, af, g⟩ :: rest) (Fr n s ds) w := pv hg rfl (eqBool_r hx hy ht hc) K
theorem neArr (hg : takenB ops n s g = true) (hx : ev n s x = .agg #[.int k a0, .int k a1, .int k a2, .int k a3]) (hy : ev n s y = .agg #[.int k b0, .int k b1, .int k b2, .int k b3]) (ht : P.underlying t = some (.array 4 e)) (he : P.underlying e = some (.int k)) (hi : TI P e 1 by_ z)
    (hgd : P.eqGuardType P.depth t = false) (hc : (!decide ([a0, a1, a2, a3] = [b0, b1, b2, b3])) = c) (K : WL r P ops Q rest (Fr n ((d, .bool c) :: s) ds) w) :
    WL r P ops Q (⟨some d, .binOp .neq t x y t', ty, pos, af, g⟩ :: rest) (Fr n s ds) w := pv hg rfl (neArr_r hx hy ht he hi hgd hc) K
end
section
variable {w w' : World} {bs : List (World × List Nat)} {L : List Res} {b : Nat} {T : TypeId} {cs : List Value}
/-- a block that has been left alone since -/
theorem St.roCells {w0 : World} (h : St bs L w) (hb : (w0, []) ∈ bs) (h0 : (blk b T cs).holds w0) {o : Nat} {vs : List Value} (hv : (cs.drop o).take vs.length = vs) : ∀ j u, vs[j]? = some u → w.cell? ⟨b, o + j, none⟩ = some u := by
  intro j u hj
  refine h.cellB hb (blk_cell h0 (o := o + j) ?_) List.not_mem_nil
  rw [← hv, List.getElem?_take] at hj
  split at hj
  · simpa using hj
  · cases hj
theorem St.roCell {w0 : World} (h : St bs L w) (hb : (w0, []) ∈ bs) (h0 : (blk b T cs).holds w0) {o : Nat} {u : Value} (hv : cs[o]? = some u) : w.cell? ⟨b, o, none⟩ = some u := h.cellB hb (blk_cell h0 hv) List.not_mem_nil
theorem St.addBlk (h : St bs L w) (hc : Chg [] w w') (hn : w.heap.size ≤ b) (hb : (blk b T cs).holds w') : St bs (blk b T cs :: L) w' :=
  h.addNew hc (fun x hx => by simp [blk] at hx; omega) (by simp [blk]) (fun x hx => by
    simp only [blk, List.mem_singleton] at hx
    subst hx
    exact (Array.getElem?_eq_some_iff.1 (show w'.heap[x]? = _ from hb)).1) hb
end
/-! ### copies into a block that has been made -/
theorem cp_at {z : Value} {pre news : List Value} {m : Nat} : setAt (pre ++ List.replicate (news.length + m) z) pre.length news = pre ++ news ++ List.replicate m z := by
  simp [setAt, List.drop_append]
theorem sl_at (b l n : Nat) : Value.slice (some ⟨b, 0 + l * 1, none⟩) (l + n - l) (l + n - l) = .slice (some ⟨b, l, none⟩) n n := by simp
end Go.Sx

namespace Go.Sx
open Go
/-- the commands of the valid records, and where these end -/
def recE : Nat → Nat → List Int → List Int → List (Cmd × Nat)
  | 0, _, _, _ => []
  | f + 1, k, last, b => match getS b with
    | none => []
    | some (c, n) =>
      if b.length < n + 4 then []
      else if (b.drop n).take 4 = chainS last (b.take n) then (c, k + (n + 4)) :: recE f (k + (n + 4)) (chainS last (b.take n)) (b.drop (n + 4))
      else []
def itemsS (b : List Int) : List (Cmd × Nat) := recE b.length 0 zero4 b
theorem getS_nil : getS [] = none := by simp [getS, getU, getUf]
section
variable {f k n : Nat} {last b : List Int} {c : Cmd}
theorem recE_nil : recE f k last [] = [] := by
  cases f with
  | zero => rfl
  | succ f => simp [recE, getS_nil]
theorem recE_none (h : getS b = none) : recE f k last b = [] := by
  cases f with
  | zero => rfl
  | succ f => simp [recE, h]
theorem recE_short (h : getS b = some (c, n)) (hl : b.length < n + 4) : recE f k last b = [] := by
  cases f with
  | zero => rfl
  | succ f => simp [recE, h, hl]
theorem recE_bad (h : getS b = some (c, n)) (hs : ¬ (b.drop n).take 4 = chainS last (b.take n)) : recE f k last b = [] := by
  cases f with
  | zero => rfl
  | succ f => simp only [recE, h, if_neg hs]; simp
theorem recE_go (h : getS b = some (c, n)) (hl : ¬ b.length < n + 4) (hs : (b.drop n).take 4 = chainS last (b.take n)) : recE (f + 1) k last b = (c, k + (n + 4)) :: recE f (k + (n + 4)) (chainS last (b.take n)) (b.drop (n + 4)) := by
  simp only [recE, h, if_neg hl, if_pos hs]
end
theorem recE_rec : ∀ (f k : Nat) (last b : List Int), (recF f last b).1 = (recE f k last b).map Prod.fst ∧ k + (recF f last b).2.1 = ((recE f k last b).getLast?.map Prod.snd).getD k := by
  intro f
  induction f with
  | zero => intro k last b; simp [recF, recE]
  | succ f ih =>
    intro k last b
    simp only [recF, recE]
    cases hg : getS b with
    | none => simp
    | some p =>
      obtain ⟨c, n⟩ := p
      simp only []
      by_cases hl : b.length < n + 4
      · simp [hl]
      · simp only [if_neg hl]
        by_cases hs : (b.drop n).take 4 = chainS last (b.take n)
        · simp only [if_pos hs]
          have := ih (k + (n + 4)) (chainS last (b.take n)) (b.drop (n + 4))
          refine ⟨by simp [this.1], ?_⟩
          rw [← Nat.add_assoc, this.2]
          cases hr : recE f (k + (n + 4)) (chainS last (b.take n)) (b.drop (n + 4)) with
          | nil => simp
          | cons q l => simp [List.getLast?_cons]
        · simp [hs]
/-- what the items are, as readS says it -/
theorem items_cmds (b : List Int) : (itemsS b).map Prod.fst = (readS b).1 := ((recE_rec b.length 0 zero4 b).1).symm
theorem items_good (b : List Int) : ((itemsS b).getLast?.map Prod.snd).getD 0 = (readS b).2.1 := by
  have := (recE_rec b.length 0 zero4 b).2
  rw [Nat.zero_add] at this
  exact this.symm
/-- one after the other is handed on -/
def Fed {γ : Type} (Nx : γ → CT → Nat → γ → Prop) : γ → List (Cmd × Nat) → γ → Prop
  | g, [], g' => g' = g
  | g, (c, e) :: l, g' => ∃ dv bv g1, Nx g (c, dv, bv) e g1 ∧ Fed Nx g1 l g'
theorem Fed.snoc {γ : Type} {Nx : γ → CT → Nat → γ → Prop} {c : Cmd} {dv bv : Value} {e : Nat} : ∀ {l : List (Cmd × Nat)} {g g1 g2 : γ}, Fed Nx g l g1 → Nx g1 (c, dv, bv) e g2 → Fed Nx g (l ++ [(c, e)]) g2 := by
  intro l
  induction l with
  | nil => intro g g1 g2 h hn; cases h; exact ⟨dv, bv, g2, hn, rfl⟩
  | cons q l ih =>
    intro g g1 g2 h hn
    obtain ⟨d, b, g3, h1, h2⟩ := h
    exact ⟨d, b, g3, h1, ih h2 hn⟩
theorem take4 {l : List Int} (h : 4 ≤ l.length) : ∃ a b c d, l.take 4 = [a, b, c, d] := by
  match l, h with
  | a :: b :: c :: d :: l, _ => exact ⟨a, b, c, d, rfl⟩
theorem take_drop_sub (l : List Int) (k n : Nat) : (l.take (k + n)).drop k = (l.drop k).take n := by
  rw [List.drop_take, Nat.add_sub_cancel_left]
theorem bytes4_in (x : Nat) : ∀ y ∈ bytes4 x, InK .u8 y := by
  intro y hy
  simp only [bytes4, List.mem_cons, List.not_mem_nil, or_false] at hy
  rcases hy with rfl | rfl | rfl | rfl <;> (show (0 : Int) ≤ _ ∧ _ ≤ (255 : Int); omega)
end Go.Sx

namespace Go.Sx
open Go
/-- a command's seven cells, its lists in blocks that ok lets -/
def encC (ok : Nat → Prop) (w : World) (c : Cmd) (vs : List Value) : Prop := ∃ dv bv, vs = cmdCells c dv bv ∧ c.ok ∧ Ints .u64 ok w dv c.dr ∧ Ints .i64 ok w bv c.bo
abbrev Cmds (ok : Nat → Prop) (w : World) (v : Value) (cs : List Cmd) : Prop := Sl 7 (encC ok) ok w v cs
/-- something that is so, whatever the memory -/
def pureR (p : Prop) : Res where
  foot := []
  holds _ := p
  loc _ _ _ h := h
section
variable {w w' w0 : World} {bs : List (World × List Nat)} {L : List Res} {v : Value} {cs : List Cmd} {ok ok' : Nat → Prop} {F : List Nat} {ts : List CT} {i j : Nat} {p : Prop} {e : TypeId}
theorem St.addPure (h : St bs L w) (hp : p) : St bs (pureR p :: L) w :=
  h.add (lo := w.heap.size) (fun q hq => (h.base q hq).chg.size) h.lt (fun b hb => by simp [pureR] at hb) (by simp [pureR]) (fun b hb => by simp [pureR] at hb) hp
theorem St.getPure (h : St bs L w) (hi : L[i]? = some (pureR p)) : p := h.own _ (List.mem_of_getElem? hi)
theorem encC.mono {c : Cmd} {vs : List Value} (h : encC ok w c vs) (ho : ∀ b, ok b → ok' b) : encC ok' w c vs := by
  obtain ⟨dv, bv, h1, h2, h3, h4⟩ := h
  exact ⟨dv, bv, h1, h2, h3.mono ho, h4.mono ho⟩
theorem Cmds.monoC (h : Cmds ok w v cs) (ho : ∀ b, ok b → ok' b) : Cmds ok' w v cs := by
  obtain ⟨a, c, e, h1, h2, h3⟩ := h
  exact ⟨a, c, e, h1, h2, fun i x hi => let ⟨b, o, vs, ha, hb, hl, hx, hc⟩ := h3 i x hi; ⟨b, o, vs, ha, ho b hb, hl, hx.mono ho, hc⟩⟩
theorem Cmds.to (h : Cmds ok w v cs) (hk : ∀ b, ok b → b < w.heap.size → w'.heap[b]? = w.heap[b]?) : Cmds ok w' v cs :=
  Sl.to h hk (fun x vs _ ⟨dv, bv, h1, h2, h3, h4⟩ => ⟨dv, bv, h1, h2, Ints.to h3 hk, Ints.to h4 hk⟩) (by decide)
theorem Cmds.oldC (h : Cmds ok w v cs) : Cmds (fun b => ok b ∧ b < w.heap.size) w v cs := by
  obtain ⟨a, c, e9, h1, h2, h3⟩ := h.old (by decide)
  exact ⟨a, c, e9, h1, h2, fun i x hi => let ⟨b, o, vs, ha, hb, hl, ⟨dv, bv, q1, q2, q3, q4⟩, hc⟩ := h3 i x hi; ⟨b, o, vs, ha, hb, hl, ⟨dv, bv, q1, q2, q3.old (by decide), q4.old (by decide)⟩, hc⟩⟩
theorem St.cmdsB {X : List Nat} (h : St bs L w) (hb : (w0, X) ∈ bs) (hI : Cmds ok w0 v cs) (hok : ∀ b, ok b → b ∉ X) : Cmds ok w v cs :=
  Cmds.to hI fun b hb' hlt => h.keep hb hlt (hok b hb')
theorem St.cmds0 (h : St bs L w) (hb : (w0, []) ∈ bs) (hI : Cmds ok w0 v cs) : Cmds ok w v cs := h.cmdsB hb hI fun _ _ => List.not_mem_nil
theorem Cmds.okC (h : Cmds ok w v cs) {c : Cmd} (hc : c ∈ cs) : c.ok := by
  obtain ⟨i, hi⟩ := List.getElem?_of_mem hc
  obtain ⟨a, c', _, _, _, h3⟩ := h
  obtain ⟨b, o, vs, _, _, _, ⟨dv, bv, _, h2, _⟩, _⟩ := h3 i c hi
  exact h2
/-- element k of the row's cells -/
theorem flat_cells : ∀ (ts : List CT) (k j : Nat) (t : CT) (u : Value), ts[k]? = some t → t.cells[j]? = some u → (ts.flatMap CT.cells)[k * 7 + j]? = some u := by
  intro ts
  induction ts with
  | nil => intro k j t u h; simp at h
  | cons t0 ts ih =>
    intro k j t u hk hj
    have hl : t0.cells.length = 7 := rfl
    rw [List.flatMap_cons]
    cases k with
    | zero =>
      simp at hk
      subst hk
      have hlt : j < t0.cells.length := (List.getElem?_eq_some_iff.1 hj).1
      rw [List.getElem?_append_left (by omega)]
      simpa using hj
    | succ k =>
      rw [List.getElem?_append_right (by omega), hl]
      have := ih k j t u (by simpa using hk) hj
      rw [show (k + 1) * 7 + j - 7 = k * 7 + j by omega]
      exact this
theorem St.cmds (h : St bs L w) (hi : L[i]? = some (row v e 7 ts.length (ts.flatMap CT.cells))) (hj : L[j]? = some (tsRes F ts)) : Cmds (fun b => b ∈ feet L) w v (ts.map Prod.fst) := by
  have hown : w.ownsRow 0 e 7 v ts.length (ts.flatMap CT.cells) := h.own _ (List.mem_of_getElem? hi)
  have hts := h.own _ (List.mem_of_getElem? hj)
  rcases hown.2 with ⟨rfl, h0⟩ | ⟨g', cap, cur, rfl, _, hg, h1, h2, _⟩
  · have : ts = [] := List.eq_nil_of_length_eq_zero h0
    subst this
    exact Sl.nil _ _ _ _
  · refine ⟨_, cap, by rw [List.length_map], by rw [List.length_map]; exact h1, h2, fun k c hk => ?_⟩
    rw [List.getElem?_map] at hk
    cases ht : ts[k]? with
    | none => rw [ht] at hk; cases hk
    | some t =>
      rw [ht] at hk
      simp at hk
      subst hk
      have hm := hts t (List.mem_of_getElem? ht)
      refine ⟨g', 0, t.cells, rfl, mem_feet_of hi (by simp [row, Value.ownBlock]), rfl, ⟨t.2.1, t.2.2, rfl, hm.1, hm.2.1.mono fun b hb => mem_feet_of hj hb, hm.2.2.mono fun b hb => mem_feet_of hj hb⟩, fun q u hq => ?_⟩
      have := hown.cells (g := g') rfl (k * 7 + q) u (flat_cells ts k q t u ht hq)
      rw [Addr.add_lit] at this
      simpa [Nat.add_assoc] using this
end
/-- commands whose lists lie in memory that stays -/
def TsIn (w : World) (ts : List CT) : Prop := ∀ t ∈ ts, t.1.ok ∧ Ints .u64 (fun _ => True) w t.2.1 t.1.dr ∧ Ints .i64 (fun _ => True) w t.2.2 t.1.bo
theorem TsIn.nil (w : World) : TsIn w [] := fun t ht => by simp at ht
theorem TsIn.snoc {w : World} {ts : List CT} {c : Cmd} {dv bv : Value} (h : TsIn w ts) (hc : c.ok) (hd : Ints .u64 (fun _ => True) w dv c.dr) (hb : Ints .i64 (fun _ => True) w bv c.bo) : TsIn w (ts ++ [(c, dv, bv)]) := by
  intro t ht
  rcases List.mem_append.1 ht with ht | ht
  · exact h t ht
  · simp only [List.mem_singleton] at ht
    subst ht
    exact ⟨hc, hd, hb⟩
theorem St.cmdsIn {w w0 : World} {bs : List (World × List Nat)} {L : List Res} {v : Value} {ts : List CT} {i : Nat} {e : TypeId} (h : St bs L w) (hb : (w0, []) ∈ bs) (hi : L[i]? = some (row v e 7 ts.length (ts.flatMap CT.cells))) (ht0 : TsIn w0 ts) : Cmds (fun _ => True) w v (ts.map Prod.fst) := by
  have hown : w.ownsRow 0 e 7 v ts.length (ts.flatMap CT.cells) := h.own _ (List.mem_of_getElem? hi)
  rcases hown.2 with ⟨rfl, h0⟩ | ⟨g', cap, cur, rfl, _, hg, h1, h2, _⟩
  · have : ts = [] := List.eq_nil_of_length_eq_zero h0
    subst this
    exact Sl.nil _ _ _ _
  · refine ⟨_, cap, by rw [List.length_map], by rw [List.length_map]; exact h1, h2, fun k c hk => ?_⟩
    rw [List.getElem?_map] at hk
    cases ht : ts[k]? with
    | none => rw [ht] at hk; cases hk
    | some t =>
      rw [ht] at hk
      simp at hk
      subst hk
      have hm := ht0 t (List.mem_of_getElem? ht)
      refine ⟨g', 0, t.cells, rfl, trivial, rfl, ⟨t.2.1, t.2.2, rfl, hm.1, h.ints0 hb hm.2.1, h.ints0 hb hm.2.2⟩, fun q u hq => ?_⟩
      have := hown.cells (g := g') rfl (k * 7 + q) u (flat_cells ts k q t u ht hq)
      rw [Addr.add_lit] at this
      simpa [Nat.add_assoc] using this
/-! ### one of a slice of commands -/
def CmdAt (ok : Nat → Prop) (w : World) (v : Value) (k : Nat) (c : Cmd) (dv bv : Value) : Prop :=
  ∃ b o, adr 7 v k = .pointer (some ⟨b, o, none⟩) ∧ ok b ∧ ∀ j u, (cmdCells c dv bv)[j]? = some u → w.cell? ⟨b, o + j, none⟩ = some u
def adrF (v : Value) (k off : Nat) : Value := match adr 7 v k with
  | .pointer (some ⟨b, o, _⟩) => .pointer (some ⟨b, o + off, none⟩)
  | p => p
section
variable {w w' w0 : World} {bs : List (World × List Nat)} {L : List Res} {v dv bv : Value} {cs : List Cmd} {ok : Nat → Prop} {k : Nat} {c : Cmd}
theorem Cmds.at (h : Cmds ok w v cs) (hk : cs[k]? = some c) : ∃ dv bv, CmdAt ok w v k c dv bv ∧ c.ok ∧ Ints .u64 ok w dv c.dr ∧ Ints .i64 ok w bv c.bo := by
  obtain ⟨a, cp, rfl, h1, h2, h3⟩ := h
  obtain ⟨b, o, vs, rfl, hb, hl, ⟨dv, bv, rfl, q1, q2, q3⟩, hc⟩ := h3 k c hk
  exact ⟨dv, bv, ⟨b, o + k * 7, rfl, hb, hc⟩, q1, q2, q3⟩
theorem CmdAt.to (h : CmdAt ok w v k c dv bv) (hk : ∀ b, ok b → b < w.heap.size → w'.heap[b]? = w.heap[b]?) : CmdAt ok w' v k c dv bv := by
  obtain ⟨b, o, h1, h2, h3⟩ := h
  refine ⟨b, o, h1, h2, fun j u hj => ?_⟩
  have := h3 j u hj
  exact (World.cell?_of_block (hk b h2 (World.block_lt_of_cell? w _ this))).trans this
theorem St.cmdAt {X : List Nat} (h : St bs L w) (hb : (w0, X) ∈ bs) (hI : CmdAt ok w0 v k c dv bv) (hok : ∀ b, ok b → b ∉ X) : CmdAt ok w v k c dv bv := hI.to fun b hb' hlt => h.keep hb hlt (hok b hb')
theorem St.cmdAt0 (h : St bs L w) (hb : (w0, []) ∈ bs) (hI : CmdAt ok w0 v k c dv bv) : CmdAt ok w v k c dv bv := h.cmdAt hb hI fun _ _ => List.not_mem_nil
end
section
variable {r : Option Nat} {P : Program} {ops : Array Oper} {Q : Exit → Act → World → Prop} {rest : List Oper} {n : Nat} {s : List (Nat × Value)} {ds : List Deferred} {w w0 : World}
variable {d : Nat} {dd : Option Nat} {ty t e T : TypeId} {pos : String} {af : Array Edge} {g : Option (Nat × Bool)} {x y : Operand} {v u dv bv z : Value} {cs : List Cmd} {ok : Nat → Prop} {k by_ szf byf : Nat} {c : Cmd} {zf : Value} {ud : TypeDesc} {fields : Array Field} {f : Field} {i : Int} {k' : IntKind}
theorem ixC_r (hx : ev n s x = v) (hy : ev n s y = .int k' i) (ht : P.underlying t = some (.slice e)) (hi : TI P e 7 by_ z) (hI : Cmds ok w0 v cs) (h0 : 0 ≤ i) (hel : cs[k]? = some c) (hk : i.toNat = k) :
    (execOp (ev n s) ⟨dd, .indexAddr t x y, ty, pos, af, g⟩).run P w = .ok (.value (adr 7 v k)) w := by
  subst hk
  exact ixI_r hx hy ht hi hI h0 hel
theorem ixC (hg : takenB ops n s g = true) (hx : ev n s x = v) (hy : ev n s y = .int k' i) (ht : P.underlying t = some (.slice e)) (hi : TI P e 7 by_ z) (hI : Cmds ok w0 v cs) (h0 : 0 ≤ i) (hel : cs[k]? = some c) (hk : i.toNat = k)
    (K : WL r P ops Q rest (Fr n ((d, adr 7 v k) :: s) ds) w) : WL r P ops Q (⟨some d, .indexAddr t x y, ty, pos, af, g⟩ :: rest) (Fr n s ds) w := pv hg rfl (ixC_r hx hy ht hi hI h0 hel hk) K
theorem ldC_r {cs' : Array Value} (hx : ev n s x = adr 7 v k) (hu : P.underlying t = some ud) (hn : isAggD ud = true) (ht : TI P t 7 by_ z) (h : CmdAt ok w v k c dv bv) (hc : (cmdCells c dv bv).toArray = cs') :
    (execOp (ev n s) ⟨dd, .load t x, ty, pos, af, g⟩).run P w = .ok (.value (.agg cs')) w := by
  subst hc
  obtain ⟨b, o, h1, h2, h3⟩ := h
  exact ldA_r (hx.trans h1) hu hn ht rfl h3
theorem ldC {cs' : Array Value} (hg : takenB ops n s g = true) (hx : ev n s x = adr 7 v k) (hu : P.underlying t = some ud) (hn : isAggD ud = true) (ht : TI P t 7 by_ z) (h : CmdAt ok w v k c dv bv) (hc : (cmdCells c dv bv).toArray = cs')
    (K : WL r P ops Q rest (Fr n ((d, .agg cs') :: s) ds) w) : WL r P ops Q (⟨some d, .load t x, ty, pos, af, g⟩ :: rest) (Fr n s ds) w := pv hg rfl (ldC_r hx hu hn ht h hc) K
theorem faC_r {j off : Nat} (hx : ev n s x = adr 7 v k) (hT : P.underlying T = some (.struct fields)) (hf : fields[j]? = some f) (ht : TI P f.type (szf + 1) byf zf) (ho : f.offset = off) (h : CmdAt ok w0 v k c dv bv) :
    (execOp (ev n s) ⟨dd, .fieldAddr T x j, ty, pos, af, g⟩).run P w = .ok (.value (adrF v k off)) w := by
  obtain ⟨b, o, h1, h2, h3⟩ := h
  subst ho
  have : adrF v k f.offset = .pointer (some ⟨b, o + f.offset, none⟩) := by simp [adrF, h1]
  rw [this]
  exact fa_r (hx.trans h1) hT hf ht rfl
theorem faC {j off : Nat} (hg : takenB ops n s g = true) (hx : ev n s x = adr 7 v k) (hT : P.underlying T = some (.struct fields)) (hf : fields[j]? = some f) (ht : TI P f.type (szf + 1) byf zf) (ho : f.offset = off) (h : CmdAt ok w0 v k c dv bv)
    (K : WL r P ops Q rest (Fr n ((d, adrF v k off) :: s) ds) w) : WL r P ops Q (⟨some d, .fieldAddr T x j, ty, pos, af, g⟩ :: rest) (Fr n s ds) w := pv hg rfl (faC_r hx hT hf ht ho h) K
theorem ldF_r {off : Nat} (hx : ev n s x = adrF v k off) (hu : P.underlying t = some ud) (hn : isAggD ud = false) (h : CmdAt ok w v k c dv bv) (hc : (cmdCells c dv bv)[off]? = some u) :
    (execOp (ev n s) ⟨dd, .load t x, ty, pos, af, g⟩).run P w = .ok (.value u) w := by
  obtain ⟨b, o, h1, h2, h3⟩ := h
  have : adrF v k off = .pointer (some ⟨b, o + off, none⟩) := by simp [adrF, h1]
  exact ld_r (hx.trans this) hu hn (h3 off u hc)
theorem ldF {off : Nat} (hg : takenB ops n s g = true) (hx : ev n s x = adrF v k off) (hu : P.underlying t = some ud) (hn : isAggD ud = false) (h : CmdAt ok w v k c dv bv) (hc : (cmdCells c dv bv)[off]? = some u)
    (K : WL r P ops Q rest (Fr n ((d, u) :: s) ds) w) : WL r P ops Q (⟨some d, .load t x, ty, pos, af, g⟩ :: rest) (Fr n s ds) w := pv hg rfl (ldF_r hx hu hn h hc) K
end
/-! ### what Read gathers -/
abbrev RG := Value × List Nat × List CT × Nat
def RNx (g : RG) (t : CT) (e : Nat) (g' : RG) : Prop := g'.2.2.1 = g.2.2.1 ++ [t] ∧ g'.2.2.2 = e
theorem fed_read {l : List (Cmd × Nat)} : ∀ {g g' : RG}, Fed RNx g l g' → g'.2.2.1.map Prod.fst = g.2.2.1.map Prod.fst ++ l.map Prod.fst ∧ g'.2.2.2 = (l.getLast?.map Prod.snd).getD g.2.2.2 := by
  induction l with
  | nil => intro g g' h; cases h; simp
  | cons q l ih =>
    intro g g' h
    obtain ⟨dv, bv, g1, h1, h2⟩ := h
    obtain ⟨a, b⟩ := ih h2
    rw [a, b, h1.1, h1.2]
    refine ⟨by simp, ?_⟩
    cases l with
    | nil => simp
    | cons r l => simp [List.getLast?_cons]
end Go.Sx

namespace Go.Sx
open Go
theorem getS_le {b : List Int} {c : Cmd} {n : Nat} (h : getS b = some (c, n)) : n ≤ b.length := by
  unfold getS at h
  split at h
  · cases h
  · split at h
    · cases h
    · split at h
      · cases h
      · simp only [Option.some.injEq, Prod.mk.injEq] at h
        omega
theorem recF_le : ∀ (f : Nat) (last b : List Int), (recF f last b).2.1 ≤ b.length := by
  intro f
  induction f with
  | zero => intro last b; simp [recF]
  | succ f ih =>
    intro last b
    simp only [recF]
    cases hg : getS b with
    | none => simp
    | some p =>
      obtain ⟨c, n⟩ := p
      simp only []
      split
      · simp
      · split
        · have := ih (chainS last (b.take n)) (b.drop (n + 4))
          simp only [List.length_drop] at this
          simp only []
          omega
        · simp
theorem read_le (b : List Int) : (readS b).2.1 ≤ b.length := recF_le _ _ _
/-- the last checksum is what the valid bytes end with -/
theorem recF_last : ∀ (f : Nat) (last b : List Int), ((recF f last b).2.1 = 0 ∧ (recF f last b).2.2 = last) ∨ (4 ≤ (recF f last b).2.1 ∧ (recF f last b).2.2 = (b.take (recF f last b).2.1).drop ((recF f last b).2.1 - 4)) := by
  intro f
  induction f with
  | zero => intro last b; exact .inl ⟨rfl, rfl⟩
  | succ f ih =>
    intro last b
    simp only [recF]
    cases hg : getS b with
    | none => exact .inl ⟨rfl, rfl⟩
    | some p =>
      obtain ⟨c, n⟩ := p
      simp only []
      split
      · exact .inl ⟨rfl, rfl⟩
      · rename_i hl
        split
        · rename_i hs
          right
          simp only []
          have hr := recF_le f (chainS last (b.take n)) (b.drop (n + 4))
          simp only [List.length_drop] at hr
          rcases ih (chainS last (b.take n)) (b.drop (n + 4)) with ⟨h1, h2⟩ | ⟨h1, h2⟩
          · rw [h1, h2]
            refine ⟨by omega, ?_⟩
            rw [← hs, Nat.add_zero, Nat.add_sub_cancel, List.drop_take]
            congr 1
            omega
          · refine ⟨by omega, ?_⟩
            rw [h2]
            generalize (recF f (chainS last (b.take n)) (b.drop (n + 4))).2.1 = q at *
            rw [List.drop_take, List.drop_take, List.drop_drop]
            congr 1
            · omega
            · congr 1
              omega
        · exact .inl ⟨rfl, rfl⟩
theorem zero4_map : zero4.map (Value.int .u8) = [.int .u8 0, .int .u8 0, .int .u8 0, .int .u8 0] := rfl
theorem last4 {b : List Int} (h : (readS b).2.1 = b.length) : ∃ l0 l1 l2 l3, (readS b).2.2 = [l0, l1, l2, l3] ∧ (b = [] ∨ 4 ≤ b.length) ∧ setAt [.int .u8 0, .int .u8 0, .int .u8 0, .int .u8 0] 0 (((b.drop (b.length - 4)).map (Value.int .u8)).take 4) = [.int .u8 l0, .int .u8 l1, .int .u8 l2, .int .u8 l3] := by
  rcases recF_last b.length zero4 b with ⟨h1, h2⟩ | ⟨h1, h2⟩
  · have hb : b = [] := List.eq_nil_of_length_eq_zero (by have : (readS b).2.1 = 0 := h1; omega)
    subst hb
    exact ⟨0, 0, 0, 0, rfl, .inl rfl, rfl⟩
  · have hg : (recF b.length zero4 b).2.1 = b.length := h
    rw [hg] at h1 h2
    rw [List.take_length] at h2
    have hl : (b.drop (b.length - 4)).length = 4 := by simp; omega
    obtain ⟨l0, l1, l2, l3, h4⟩ := take4 (l := b.drop (b.length - 4)) (by omega)
    rw [List.take_of_length_le (by omega)] at h4
    refine ⟨l0, l1, l2, l3, (show (readS b).2.2 = _ from h2).trans h4, .inr h1, ?_⟩
    rw [h4]
    rfl
theorem recF_lastin : ∀ (f : Nat) (last b : List Int), (∀ y ∈ last, InK .u8 y) → ∀ y ∈ (recF f last b).2.2, InK .u8 y := by
  intro f
  induction f with
  | zero => intro last b h; exact h
  | succ f ih =>
    intro last b h
    simp only [recF]
    split
    · exact h
    · split
      · exact h
      · split
        · exact ih _ _ (bytes4_in _)
        · exact h
theorem read_last_in (b : List Int) (h : ∀ y ∈ b, InK .u8 y) : ∀ y ∈ (readS b).2.2, InK .u8 y := recF_lastin _ _ _ (bytes4_in 0)
section
variable {f n : Nat} {last b : List Int} {c : Cmd}
theorem recF_none (h : getS b = none) : recF f last b = ([], 0, last) := by
  cases f with
  | zero => rfl
  | succ f => simp [recF, h]
theorem recF_short (h : getS b = some (c, n)) (hl : b.length < n + 4) : recF f last b = ([], 0, last) := by
  cases f with
  | zero => rfl
  | succ f => simp [recF, h, hl]
theorem recF_bad (h : getS b = some (c, n)) (hs : ¬ (b.drop n).take 4 = chainS last (b.take n)) : recF f last b = ([], 0, last) := by
  cases f with
  | zero => rfl
  | succ f => simp only [recF, h, if_neg hs]; simp
theorem recF_go (h : getS b = some (c, n)) (hl : ¬ b.length < n + 4) (hs : (b.drop n).take 4 = chainS last (b.take n)) :
    recF (f + 1) last b = (c :: (recF f (chainS last (b.take n)) (b.drop (n + 4))).1, n + 4 + (recF f (chainS last (b.take n)) (b.drop (n + 4))).2.1, (recF f (chainS last (b.take n)) (b.drop (n + 4))).2.2) := by
  simp only [recF, h, if_neg hl, if_pos hs]
end
/-- what has been read, and what is still to be read -/
def RdI (xs : List Int) (f k : Nat) (last : List Int) (cs : List Cmd) : Prop :=
  readS xs = (cs ++ (recF f last (xs.drop k)).1, k + (recF f last (xs.drop k)).2.1, (recF f last (xs.drop k)).2.2)
section
variable {xs last : List Int} {f k n : Nat} {cs : List Cmd} {c : Cmd}
theorem RdI.start (xs : List Int) : RdI xs xs.length 0 zero4 [] := by simp [RdI, readS]
theorem RdI.stop (h : RdI xs f k last cs) (hr : recF f last (xs.drop k) = ([], 0, last)) : readS xs = (cs, k, last) := by
  unfold RdI at h
  rw [h, hr]
  simp
theorem RdI.go (h : RdI xs (f + 1) k last cs) (hg : getS (xs.drop k) = some (c, n)) (hl : ¬ (xs.drop k).length < n + 4) (hs : ((xs.drop k).drop n).take 4 = chainS last ((xs.drop k).take n)) :
    RdI xs f (k + (n + 4)) (chainS last ((xs.drop k).take n)) (cs ++ [c]) := by
  unfold RdI at h ⊢
  rw [h, recF_go hg hl hs]
  simp only [List.drop_drop]
  simp [Nat.add_assoc]
end
theorem get4 {l : List Int} {m : Nat} {a b c d : Int} (h : (l.drop m).take 4 = [a, b, c, d]) : l[m]? = some a ∧ l[m + 1]? = some b ∧ l[m + 2]? = some c ∧ l[m + 3]? = some d := by
  have key : ∀ j, j < 4 → l[m + j]? = ([a, b, c, d] : List Int)[j]? := by
    intro j hj
    rw [← h, List.getElem?_take, if_pos hj, List.getElem?_drop]
  exact ⟨key 0 (by omega), key 1 (by omega), key 2 (by omega), key 3 (by omega)⟩
theorem getAtI {l : List Int} {i : Int} {m : Nat} {a : Int} (h : l[m]? = some a) (hi : i.toNat = m) : l[i.toNat]? = some a := by rw [hi]; exact h
/-- what Append answers -/
def appO (b : List Int) (c : Cmd) : List Int × Int :=
  if checkS c = 0 then (if (readS b).2.1 = b.length then (b ++ frameS c ++ chainS (readS b).2.2 (frameS c), 0) else ([], 15)) else ([], checkS c)
theorem app_bad {b : List Int} {c : Cmd} (h : ¬ checkS c = 0) : appO b c = ([], checkS c) := by simp [appO, h]
theorem app_form {b : List Int} {c : Cmd} (h : checkS c = 0) (h2 : ¬ (readS b).2.1 = b.length) : appO b c = ([], 15) := by simp [appO, h, h2]
theorem app_ok {b : List Int} {c : Cmd} (h : checkS c = 0) (h2 : (readS b).2.1 = b.length) : appO b c = (b ++ frameS c ++ chainS (readS b).2.2 (frameS c), 0) := by simp [appO, h, h2]
theorem frameO_ok {c : Cmd} (h : checkS c = 0) : frameO c = frameS c := by simp [frameO, h]
theorem frame_pos (c : Cmd) : 1 ≤ (frameS c).length := by
  have := putU_pos (payloadS c).length
  simp only [frameS, List.length_append]
  omega
def changesS (c : Cmd) : Bool := decide (checkS c = 0) && (c.op == 1 || c.op == 2)
def fewC (c : Cmd) : Bool := decide (c.dr.length ≤ 50 ∧ c.bo.length ≤ 50)
def fewS (cs : List Cmd) (most : Nat) : Bool := decide (cs.length ≤ most) && cs.all fewC
theorem few_no {cs : List Cmd} {most k : Nat} {c : Cmd} (h : cs[k]? = some c) (hc : fewC c = false) : fewS cs most = false := by
  have : cs.all fewC = false := by
    rw [List.all_eq_false]
    exact ⟨c, List.mem_of_getElem? h, by simp [hc]⟩
  simp [fewS, this]
/-! ### apart -/
section
variable {w : World} {bs : List (World × List Nat)} {L : List Res} {R R' : Res} {i j : Nat} {k : IntKind} {v : Value} {e : TypeId} {ys : List Int}
theorem feet_disj : ∀ {L : List Res} {i j : Nat}, (feet L).Nodup → L[i]? = some R → L[j]? = some R' → i ≠ j → ∀ b ∈ R.foot, b ∉ R'.foot := by
  intro L
  induction L with
  | nil => intro i j _ h; simp at h
  | cons Q L ih =>
    intro i j hn hi hj hne b hb
    rw [feet_cons, List.nodup_append] at hn
    cases i with
    | zero =>
      simp at hi; subst hi
      cases j with
      | zero => exact absurd rfl hne
      | succ j => exact fun hb' => hn.2.2 b hb b (mem_feet_of (i := j) (by simpa using hj) hb') rfl
    | succ i =>
      cases j with
      | zero => simp at hj; subst hj; exact fun hb' => hn.2.2 b hb' b (mem_feet_of (i := i) (by simpa using hi) hb) rfl
      | succ j => exact ih hn.2.1 (by simpa using hi) (by simpa using hj) (by omega) b hb
/-- an owned slice lies apart from another thing of ours -/
theorem St.rowIntsX (h : St bs L w) (hi : L[i]? = some (rowI k v e ys)) (hk : ∀ y ∈ ys, InK k y) (hj : L[j]? = some R) (hne : i ≠ j) : Ints k (fun b => b ∉ R.foot) w v ys := by
  have hown : w.ownsRow 0 e 1 v ys.length (ys.map (.int k)) := h.own _ (List.mem_of_getElem? hi)
  have hf : Fresh k { w with heap := #[] } w v e ys := ⟨hown, fun b _ => Nat.zero_le _⟩
  rcases hown.2 with ⟨rfl, h0⟩ | ⟨g', cap, cur, rfl, _, hg, h1, h2, _⟩
  · have : ys = [] := List.eq_nil_of_length_eq_zero h0
    subst this
    exact Sl.nil _ _ _ _
  · refine ⟨_, cap, rfl, h1, h2, fun q y hq => ⟨g', 0, [.int k y], rfl, feet_disj h.sep hi hj hne g' (by simp [row, Value.ownBlock]), rfl, ⟨rfl, hk y (List.mem_of_getElem? hq)⟩, fun p u hp => ?_⟩⟩
    cases p with
    | zero =>
      simp at hp
      subst hp
      have := hown.cells (g := g') rfl q (.int k y) (by simp [hq])
      rw [Addr.add_lit] at this
      simpa using this
    | succ p => simp at hp
end
/-! ### nil or not -/
def nilS : Value → Bool
  | .slice none _ _ => true
  | _ => false
section
variable {r : Option Nat} {P : Program} {ops : Array Oper} {Q : Exit → Act → World → Prop} {rest : List Oper} {n : Nat} {s : List (Nat × Value)} {ds : List Deferred} {w w0 : World}
variable {d : Nat} {ty t t' e : TypeId} {pos : String} {af : Array Edge} {g : Option (Nat × Bool)} {x y : Operand} {v : Value}
theorem eqNilI {α : Type} {sz : Nat} {enc : World → α → List Value → Prop} {ok : Nat → Prop} {ys : List α} (hg : takenB ops n s g = true) (hx : ev n s x = v) (hy : ev n s y = .slice none 0 0) (ht : P.underlying t = some (.slice e)) (hI : Sl sz enc ok w0 v ys)
    (K : WL r P ops Q rest (Fr n ((d, .bool (nilS v)) :: s) ds) w) : WL r P ops Q (⟨some d, .binOp .eql t x y t', ty, pos, af, g⟩ :: rest) (Fr n s ds) w := by
  obtain ⟨a, c, rfl, _⟩ := hI
  have : nilS (.slice a ys.length c) = a.isNone := by cases a <;> rfl
  rw [this] at K
  exact eqNilS hg hx hy ht K
theorem nil_empty {α : Type} {sz : Nat} {enc : World → α → List Value → Prop} {ok : Nat → Prop} {ys : List α} (h : nilS v = true) (hI : Sl sz enc ok w0 v ys) : ys = [] := by
  obtain ⟨a, c, rfl, _, _, h3⟩ := hI
  cases a with
  | some a => cases h
  | none =>
    cases ys with
    | nil => rfl
    | cons y ys => obtain ⟨b, o, vs, ha, _⟩ := h3 0 y rfl; cases ha
end
end Go.Sx

namespace Go.Sx
open Go
def c15 : Cmd := ⟨15, 0, 0, 0, 0, [], []⟩
theorem b6_app : appO [] c15 = ([1, 15, 56, 102, 141, 115], 0) := by kernel_rfl
theorem b6_read : readS [1, 15, 56, 102, 141, 115] = ([c15], 6, [56, 102, 141, 115]) := by kernel_rfl
theorem b5_read : readS [1, 15, 56, 102, 141] = ([], 0, zero4) := by kernel_rfl
theorem b5_app : appO [1, 15, 56, 102, 141] c15 = ([], 15) := by kernel_rfl
theorem ch_tick : changesS ⟨2, 0, 0, 0, 5, [], []⟩ = true := by kernel_rfl
theorem ch_count : changesS ⟨5, 0, 0, 0, 0, [], []⟩ = false := by kernel_rfl
theorem ok_small {o t : Int} (h1 : 0 ≤ o ∧ o ≤ 255) (h2 : 0 ≤ t ∧ t ≤ 255) : Cmd.ok ⟨o, 0, 0, 0, t, [], []⟩ :=
  ⟨show (-9223372036854775808 : Int) ≤ o ∧ o ≤ 9223372036854775807 by omega, natK (x := 0) (by decide), natK (x := 0) (by decide), show (-9223372036854775808 : Int) ≤ 0 ∧ (0 : Int) ≤ 9223372036854775807 by omega,
   show (-9223372036854775808 : Int) ≤ t ∧ t ≤ 9223372036854775807 by omega, by simp, by simp⟩
theorem b6_in : ∀ y ∈ ([1, 15, 56, 102, 141, 115] : List Int), InK .u8 y := by
  intro y hy
  simp only [List.mem_cons, List.not_mem_nil, or_false] at hy
  rcases hy with rfl | rfl | rfl | rfl | rfl | rfl <;> (show (0 : Int) ≤ _ ∧ _ ≤ (255 : Int); omega)
end Go.Sx

namespace Go.Sx
open Go
/-! ### numbers -/
theorem getUf_put : ∀ (f i acc m : Nat) (l : List Int), i + f = 10 → m * 128 ^ i < 18446744073709551616 → (0 < i → 1 ≤ m) → getUf i acc (putUf f m ++ l) = some (acc + m * 128 ^ i, i + (putUf f m).length) := by
  intro f
  induction f with
  | zero =>
    intro i acc m l hi hm h1
    obtain rfl : i = 10 := by omega
    have := h1 (by omega)
    have h2 : 1 * 128 ^ 10 ≤ m * 128 ^ 10 := Nat.mul_le_mul_right _ this
    have : (128 : Nat) ^ 10 = 1180591620717411303424 := by decide
    omega
  | succ f ih =>
    intro i acc m l hi hm h1
    have h9 : i = 9 → m ≤ 1 := by
      rintro rfl
      have : (128 : Nat) ^ 9 = 9223372036854775808 := by decide
      omega
    by_cases hlt : m < 128
    · rw [putUf_end hlt]
      simp only [List.singleton_append, List.length_singleton]
      rw [getUf, if_neg (by omega), if_neg (by rintro ⟨a, b⟩; have := h9 a; omega), if_neg (by omega), if_neg (by rintro ⟨a, b⟩; have := h1 b; omega)]
      congr 3
      rw [show ((m : Int)).toNat = m by omega, Nat.mod_eq_of_lt hlt]
    · rw [putUf_step hlt, List.cons_append, getUf, if_neg (by omega), if_neg (by rintro ⟨a, b⟩; have := h9 a; omega), if_pos (by omega)]
      have e : (((m % 128 + 128 : Nat) : Int)).toNat % 128 = m % 128 := by omega
      rw [e, ih (i + 1) _ (m / 128) l (by omega) ?_ (by omega)]
      · simp only [List.length_cons]
        congr 2
        · rw [Nat.pow_succ, Nat.mul_comm (128 ^ i) 128, ← Nat.mul_assoc, Nat.add_assoc, ← Nat.add_mul]
          congr 2
          omega
        · omega
      · rw [Nat.pow_succ, Nat.mul_comm (128 ^ i) 128, ← Nat.mul_assoc]
        exact Nat.lt_of_le_of_lt (Nat.mul_le_mul_right _ (by omega)) hm
theorem getU_put {m : Nat} (l : List Int) (h : m < 18446744073709551616) : getU (putU m ++ l) = some (m, (putU m).length) := by
  have := getUf_put 10 0 0 m l rfl (by simpa using h) (by omega)
  simpa [getU, putU] using this
theorem getUf_cut : ∀ (f i acc m k : Nat), k < (putUf f m).length → getUf i acc ((putUf f m).take k) = none := by
  intro f
  induction f with
  | zero => intro i acc m k hk; simp [putUf] at hk; subst hk; rfl
  | succ f ih =>
    intro i acc m k hk
    by_cases hlt : m < 128
    · rw [putUf_end hlt] at hk ⊢
      simp at hk
      subst hk
      rfl
    · rw [putUf_step hlt] at hk ⊢
      cases k with
      | zero => rfl
      | succ k =>
        simp only [List.take_succ_cons, getUf]
        split
        · rfl
        · split
          · rfl
          · rw [if_pos (by omega)]
            exact ih _ _ _ _ (by simpa using hk)
theorem getU_cut {m k : Nat} (hk : k < (putU m).length) : getU ((putU m).take k) = none := getUf_cut 10 0 0 m k hk
/-! ### fields -/
theorem oneU_put (b : Bool) {u : Int} (l : List Int) (hu : InK .u64 u) : oneU b ((if b = true then putU u.toNat else []) ++ l) = some (if b = true then u else 0, l) := by
  cases b with
  | false => simp [oneU]
  | true =>
    have := hu.u64
    simp only [oneU, if_true, getU_put l (u64_lt hu), Option.map_some, List.drop_left]
    congr 2
    omega
theorem oneI_put (b : Bool) {x : Int} (l : List Int) (hx : InK .i64 x) : oneI b ((if b = true then putU (foldS x) else []) ++ l) = some (if b = true then x else 0, l) := by
  cases b with
  | false => simp [oneI]
  | true => simp only [oneI, if_true, getU_put l (fold_lt hx), Option.map_some, List.drop_left, unfold_fold]
theorem getN_put (f : Nat → Int) (g : Int → Nat) : ∀ (xs l : List Int), (∀ x ∈ xs, g x < 18446744073709551616 ∧ f (g x) = x) → getN f xs.length ((xs.flatMap fun x => putU (g x)) ++ l) = some (xs, l) := by
  intro xs
  induction xs with
  | nil => intro l _; rfl
  | cons x xs ih =>
    intro l h
    have hx := h x (by simp)
    rw [List.flatMap_cons, List.append_assoc, List.length_cons, getN, getU_put _ hx.1]
    simp only [List.drop_left, ih l (fun y hy => h y (by simp [hy])), hx.2]
theorem many_put (b : Bool) (most : Nat) (f : Nat → Int) (g : Int → Nat) (xs l : List Int) (hl : xs.length ≤ most) (hm : most < 18446744073709551616) (h : ∀ x ∈ xs, g x < 18446744073709551616 ∧ f (g x) = x) :
    manyS b most f ((if b = true then putU xs.length ++ (xs.flatMap fun x => putU (g x)) else []) ++ l) = some (if b = true then xs else [], l) := by
  cases b with
  | false => simp [manyS]
  | true =>
    simp only [manyS, if_true, List.append_assoc]
    rw [getU_put _ (by omega)]
    simp only [if_neg (show ¬ most < xs.length by omega), List.drop_left, getN_put f g xs l h]
theorem check_use {c : Cmd} (h : checkS c = 0) : (useU c.op = false → c.u = 0) ∧ (useV c.op = false → c.v = 0) ∧ (useW c.op = false → c.wt = 0) ∧ (useT c.op = false → c.t = 0) ∧ (useD c.op = false → c.dr = []) ∧ (useB c.op = false → c.bo = []) := by
  unfold checkS at h
  split at h
  · simp at h
  · rename_i h1
    split at h
    · simp at h
    · rename_i h2
      simp only [Bool.or_eq_true, not_or, Bool.and_eq_true, Bool.not_eq_true', not_and, bne_iff_ne, ne_eq, Bool.not_eq_false] at h1 h2
      obtain ⟨⟨⟨⟨_, a1⟩, a2⟩, a3⟩, a4⟩ := h1
      obtain ⟨a5, a6⟩ := h2
      refine ⟨fun q => ?_, fun q => ?_, fun q => ?_, fun q => ?_, fun q => ?_, fun q => ?_⟩
      · by_cases e : c.u = 0
        · exact e
        · have := a1 e; rw [q] at this; cases this
      · by_cases e : c.v = 0
        · exact e
        · have := a2 e; rw [q] at this; cases this
      · by_cases e : c.wt = 0
        · exact e
        · have := a3 e; rw [q] at this; cases this
      · by_cases e : c.t = 0
        · exact e
        · have := a4 e; rw [q] at this; cases this
      · cases hd : c.dr with
        | nil => rfl
        | cons x l => have := a5 (by rw [hd]; rfl); rw [q] at this; cases this
      · cases hd : c.bo with
        | nil => rfl
        | cons x l => have := a6 (by rw [hd]; rfl); rw [q] at this; cases this
theorem cmdS_pay {c : Cmd} (hc : c.ok) (h : checkS c = 0) : cmdS (payloadS c) = some c := by
  have hop := check_op h
  have hl := check_len h
  obtain ⟨a1, a2, a3, a4, a5, a6⟩ := check_use h
  have hv : visR c.op (fieldsS c) = some (c, []) := by
    unfold visR fieldsS
    simp only [List.append_assoc]
    rw [oneU_put _ _ hc.u]
    simp only []
    rw [oneU_put _ _ hc.v]
    simp only []
    rw [oneI_put _ _ hc.wt]
    simp only []
    rw [oneI_put _ _ hc.t]
    simp only []
    rw [many_put (useD c.op) 16384 (fun x => (x : Int)) (fun x => x.toNat) c.dr _ hl.1 (by decide) (fun x hx => ⟨u64_lt (hc.dr x hx), by have := (hc.dr x hx).u64; omega⟩)]
    simp only []
    have hb := many_put (useB c.op) 1024 unfoldS foldS c.bo [] hl.2 (by decide) (fun x hx => ⟨fold_lt (hc.bo x hx), unfold_fold x⟩)
    rw [List.append_nil] at hb
    rw [hb]
    simp only [Option.some.injEq, Prod.mk.injEq, and_true]
    have e : ∀ (b : Bool) (x : Int), (b = false → x = 0) → (if b = true then x else 0) = x := by
      intro b x hx
      cases b with
      | true => rfl
      | false => exact (hx rfl).symm
    have e2 : ∀ (b : Bool) (x : List Int), (b = false → x = []) → (if b = true then x else []) = x := by
      intro b x hx
      cases b with
      | true => rfl
      | false => exact (hx rfl).symm
    rw [e _ _ a1, e _ _ a2, e _ _ a3, e _ _ a4, e2 _ _ a5, e2 _ _ a6]
  rw [payloadS, cmdS_vis, hop, hv]
  rfl
theorem pay_lt {c : Cmd} (hc : c.ok) (h : checkS c = 0) : (payloadS c).length < 18446744073709551616 := by
  have := fields_len hc h
  simp only [payloadS, List.length_cons]
  omega
theorem getS_frame {c : Cmd} (l : List Int) (hc : c.ok) (h : checkS c = 0) : getS (frameS c ++ l) = some (c, (frameS c).length) := by
  have hp := pay_lt hc h
  rw [frameS, List.append_assoc]
  have e : ((putU (payloadS c).length ++ (payloadS c ++ l)).take ((putU (payloadS c).length).length + (payloadS c).length)).drop (putU (payloadS c).length).length = payloadS c := by
    rw [List.drop_take, List.drop_left, Nat.add_sub_cancel_left, List.take_left]
  rw [getS_some (c := c) (getU_put _ hp) (by simp) (by rw [e]; exact cmdS_pay hc h), List.length_append]
theorem getS_cut {c : Cmd} {k : Nat} (hc : c.ok) (h : checkS c = 0) (hk : k < (frameS c).length) : getS ((frameS c).take k) = none := by
  have hp := pay_lt hc h
  rw [frameS] at hk ⊢
  rw [List.take_append]
  by_cases h1 : k < (putU (payloadS c).length).length
  · rw [show k - (putU (payloadS c).length).length = 0 by omega, List.take_zero, List.append_nil]
    exact getS_none (getU_cut h1)
  · rw [List.take_of_length_le (by omega)]
    refine getS_long (getU_put _ hp) ?_
    simp only [List.length_append, List.length_take] at hk ⊢
    omega
/-! ### journals -/
def lastF : List Int → List Cmd → List Int
  | last, [] => last
  | last, c :: cs => lastF (chainS last (frameS c)) cs
def jrnF : List Int → List Cmd → List Int
  | _, [] => []
  | last, c :: cs => frameS c ++ (chainS last (frameS c) ++ jrnF (chainS last (frameS c)) cs)
def jS (cs : List Cmd) : List Int := jrnF zero4 cs
def GoodC (c : Cmd) : Prop := c.ok ∧ checkS c = 0
theorem chain_len (last f : List Int) : (chainS last f).length = 4 := rfl
theorem rec_step {f : Nat} {last tl : List Int} {c : Cmd} (hg : GoodC c) : recF (f + 1) last (frameS c ++ (chainS last (frameS c) ++ tl)) =
    (c :: (recF f (chainS last (frameS c)) tl).1, (frameS c).length + 4 + (recF f (chainS last (frameS c)) tl).2.1, (recF f (chainS last (frameS c)) tl).2.2) := by
  have h1 := getS_frame (chainS last (frameS c) ++ tl) hg.1 hg.2
  have e1 : (frameS c ++ (chainS last (frameS c) ++ tl)).take (frameS c).length = frameS c := by simp
  have e2 : (frameS c ++ (chainS last (frameS c) ++ tl)).drop (frameS c).length = chainS last (frameS c) ++ tl := by simp
  have e3 : (frameS c ++ (chainS last (frameS c) ++ tl)).drop ((frameS c).length + 4) = tl := by
    rw [← List.drop_drop, e2, List.drop_append, chain_len]
    simp [chain_len]
  have e4 : (chainS last (frameS c) ++ tl).take 4 = chainS last (frameS c) := by
    rw [List.take_append, chain_len, List.take_of_length_le (by rw [chain_len]; exact Nat.le_refl _)]
    simp
  rw [recF_go h1 (by simp [chain_len]) (by rw [e2, e4, e1]), e1, e3]
theorem rec_jrn : ∀ (cs : List Cmd) (last tl : List Int) (f : Nat), (∀ c ∈ cs, GoodC c) → (jrnF last cs ++ tl).length ≤ f → ∃ f', tl.length ≤ f' ∧
    recF f last (jrnF last cs ++ tl) = (cs ++ (recF f' (lastF last cs) tl).1, (jrnF last cs).length + (recF f' (lastF last cs) tl).2.1, (recF f' (lastF last cs) tl).2.2) := by
  intro cs
  induction cs with
  | nil => intro last tl f _ hf; exact ⟨f, by simpa [jrnF] using hf, by simp [jrnF, lastF]⟩
  | cons c cs ih =>
    intro last tl f hg hf
    have hfp := frame_pos c
    simp only [jrnF, List.append_assoc, List.length_append, chain_len] at hf
    obtain ⟨f0, rfl⟩ : ∃ q, f = q + 1 := ⟨f - 1, by omega⟩
    obtain ⟨f', h1, h2⟩ := ih (chainS last (frameS c)) tl f0 (fun x hx => hg x (by simp [hx])) (by simp only [List.length_append]; omega)
    refine ⟨f', h1, ?_⟩
    simp only [jrnF, List.append_assoc]
    rw [rec_step (hg c (by simp)), h2]
    simp only [lastF, List.cons_append, List.length_append, chain_len]
    congr 2
    omega
theorem read_jS {cs : List Cmd} (hg : ∀ c ∈ cs, GoodC c) : readS (jS cs) = (cs, (jS cs).length, lastF zero4 cs) := by
  obtain ⟨f', h1, h2⟩ := rec_jrn cs zero4 [] (jS cs).length hg (by simp [jS])
  rw [List.append_nil] at h2
  have hn : recF f' (lastF zero4 cs) [] = ([], 0, lastF zero4 cs) := recF_none getS_nil
  rw [hn] at h2
  simpa [readS, jS] using h2
theorem jrn_snoc : ∀ (cs : List Cmd) (last : List Int) (c : Cmd), jrnF last (cs ++ [c]) = jrnF last cs ++ frameS c ++ chainS (lastF last cs) (frameS c) := by
  intro cs
  induction cs with
  | nil => intro last c; simp [jrnF, lastF]
  | cons x cs ih => intro last c; simp [jrnF, lastF, ih]
theorem jS_snoc (cs : List Cmd) (c : Cmd) : jS (cs ++ [c]) = jS cs ++ frameS c ++ chainS (lastF zero4 cs) (frameS c) := jrn_snoc cs zero4 c
theorem app_jS {cs : List Cmd} {c : Cmd} (hg : ∀ c ∈ cs, GoodC c) (h : checkS c = 0) : appO (jS cs) c = (jS (cs ++ [c]), 0) := by
  rw [app_ok h (by rw [read_jS hg]), read_jS hg, jS_snoc]
theorem jrn_len : ∀ (cs : List Cmd) (last : List Int), (∀ c ∈ cs, GoodC c) → (jrnF last cs).length ≤ 400004 * cs.length := by
  intro cs
  induction cs with
  | nil => intro last _; simp [jrnF]
  | cons c cs ih =>
    intro last hg
    have h1 := frame_len (hg c (by simp)).1 (hg c (by simp)).2
    have h2 := ih (chainS last (frameS c)) (fun x hx => hg x (by simp [hx]))
    simp only [jrnF, List.length_append, chain_len, List.length_cons]
    omega
theorem jS_len {cs : List Cmd} (hg : ∀ c ∈ cs, GoodC c) : (jS cs).length ≤ 400004 * cs.length := jrn_len cs zero4 hg
theorem jrn_in : ∀ (cs : List Cmd) (last : List Int), (∀ c ∈ cs, GoodC c) → ∀ y ∈ jrnF last cs, InK .u8 y := by
  intro cs
  induction cs with
  | nil => intro last _ y hy; simp [jrnF] at hy
  | cons c cs ih =>
    intro last hg
    exact in_append (frame_in (hg c (by simp)).1 (hg c (by simp)).2) (in_append (bytes4_in _) (ih _ (fun x hx => hg x (by simp [hx]))))
theorem jS_in {cs : List Cmd} (hg : ∀ c ∈ cs, GoodC c) : ∀ y ∈ jS cs, InK .u8 y := jrn_in cs zero4 hg
/-- where the records end -/
def endsF : Nat → List Cmd → List Int
  | _, [] => []
  | k, c :: cs => ((k + ((frameS c).length + 4) : Nat) : Int) :: endsF (k + ((frameS c).length + 4)) cs
def endsS (cs : List Cmd) : List Int := endsF 0 cs
theorem ends_snoc : ∀ (cs : List Cmd) (k : Nat) (last : List Int) (c : Cmd), endsF k (cs ++ [c]) = endsF k cs ++ [((k + (jrnF last (cs ++ [c])).length : Nat) : Int)] := by
  intro cs
  induction cs with
  | nil => intro k last c; simp [endsF, jrnF, chain_len]
  | cons x cs ih =>
    intro k last c
    simp only [List.cons_append, endsF, jrnF]
    rw [ih _ (chainS last (frameS x)) c]
    simp only [List.length_append, chain_len]
    congr 4
    omega
theorem endsS_snoc (cs : List Cmd) (c : Cmd) : endsS (cs ++ [c]) = endsS cs ++ [((jS (cs ++ [c])).length : Int)] := by
  have := ends_snoc cs 0 zero4 c
  simpa [endsS, jS] using this
theorem ends_len : ∀ (cs : List Cmd) (k : Nat), (endsF k cs).length = cs.length := by
  intro cs
  induction cs with
  | nil => intro k; rfl
  | cons c cs ih => intro k; simp [endsF, ih]
theorem ends_in : ∀ {cs : List Cmd} {k : Nat}, (∀ c ∈ cs, GoodC c) → k + 400004 * cs.length ≤ 9223372036854775807 → ∀ y ∈ endsF k cs, InK .i64 y := by
  intro cs
  induction cs with
  | nil => intro k _ _ y hy; simp [endsF] at hy
  | cons c cs ih =>
    intro k hg hk y hy
    have h1 := frame_len (hg c (by simp)).1 (hg c (by simp)).2
    simp only [List.length_cons] at hk
    simp only [endsF, List.mem_cons] at hy
    rcases hy with rfl | hy
    · show (-9223372036854775808 : Int) ≤ _ ∧ _ ≤ (9223372036854775807 : Int); omega
    · exact ih (fun x hx => hg x (by simp [hx])) (by omega) y hy
theorem few_len {cs : List Cmd} {n : Nat} (h : fewS cs n = true) : cs.length ≤ n := by
  simp only [fewS, Bool.and_eq_true, decide_eq_true_eq] at h
  exact h.1
theorem app_in {b : List Int} {c : Cmd} (hc : c.ok) (hb : ∀ y ∈ b, InK .u8 y) : ∀ y ∈ (appO b c).1, InK .u8 y := by
  unfold appO
  split
  · rename_i h
    split
    · exact in_append (in_append hb (frame_in hc h)) (bytes4_in _)
    · intro y hy; simp at hy
  · intro y hy; simp at hy
def okC (c : Cmd) : Bool := decide (checkS c = 0)
end Go.Sx

namespace Go.Sx
open Go
section
variable {H : Type} {enc : TypeId × Value → H} {P : Program} {w : World} {sp : Nat → Bool} {hd : Bool} {t e : TypeId} {fuel : Nat} {v : Value} {cs : List Value} {x : DataW H × List MemPlace} {k : IntKind}
theorem spot_none {a : Addr} {u : Value} (h : w.cell? a = some u) : a.spot = none := by
  unfold World.cell? at h
  split at h
  · split at h
    · cases h
    · rename_i hs
      cases hq : a.spot with
      | none => rfl
      | some q => rw [hq] at hs; simp at hs
  · cases h
theorem Sl.of_trod {α : Type} [Inhabited α] {sz : Nat} {E : World → α → List Value → Prop} (ht : P.underlying t = some (.slice e)) (hc : P.cellsOf e = sz) (hp : 0 < sz)
    (hE : ∀ n cs y, DataW.trod enc P w 0 sp hd n e cs = some y → ∃ x : α, E w x cs) (h : DataW.trod enc P w 0 sp hd fuel t cs = some x) : ∃ v xs, cs = [v] ∧ Sl sz E (fun _ => True) w v xs := by
  rcases Go.Deep.open_slice ht h with ⟨h0, _⟩ | ⟨a, len, cap, m, n, D, Pl, rfl, _, hl, hm, hmm, _, hx⟩
  · exact ⟨_, [], h0, Sl.nil _ _ _ _⟩
  · rw [hc] at hx
    have hlm : len ≤ m := by rw [hmm]; split <;> omega
    obtain ⟨X, hX⟩ := Go.Deep.choose_lt (α := α) (n := len) (p := fun i x => ∃ cs', w.cells? 0 (a.add (i * sz)) sz = some cs' ∧ E w x cs') (fun i hi => by
      obtain ⟨cs', h1, h2⟩ := hx i (by omega)
      obtain ⟨y, hy⟩ := hE _ _ _ h2
      exact ⟨y, cs', h1, hy⟩)
    refine ⟨_, (List.range len).map X, rfl, some a, cap, by simp, by simp; exact hl, hm, fun i y hi => ?_⟩
    have hlt : i < len := by have := (List.getElem?_eq_some_iff.1 hi).1; simpa using this
    have hy : y = X i := by
      rw [List.getElem?_map, List.getElem?_range hlt] at hi
      simpa using hi.symm
    subst hy
    obtain ⟨cs', h1, h2⟩ := hX i hlt
    obtain ⟨_, hlen, hcell⟩ := World.cells?_some h1
    have hsp : a.spot = none := by
      obtain ⟨cs0, q1, _⟩ := hX 0 (by omega)
      obtain ⟨_, q2, q3⟩ := World.cells?_some q1
      have h3 := q3 0 hp
      have : cs0[0]? = some cs0[0] := List.getElem?_eq_getElem (by omega)
      rw [this] at h3
      have := spot_none h3
      simpa [Addr.add] using this
    obtain ⟨b, o, s⟩ := a
    simp only at hsp
    subst hsp
    refine ⟨b, o, cs', rfl, trivial, hlen, h2, fun j u hj => ?_⟩
    have hj' : j < sz := by have := (List.getElem?_eq_some_iff.1 hj).1; omega
    have := hcell j hj'
    rw [hj] at this
    rw [Addr.add_lit, Addr.add_lit] at this
    exact this
theorem InK.of_wf {n : Int} (h : (Lit.int k n).wf = true) : InK k n := by
  simp only [Lit.wf, Bool.and_eq_true, decide_eq_true_eq] at h
  exact h
theorem Ints.of_trod (ht : P.underlying t = some (.slice e)) (he : P.underlying e = some (.int k)) (hc : P.cellsOf e = 1) (h : DataW.trod enc P w 0 sp hd fuel t cs = some x) : ∃ v xs, cs = [v] ∧ Ints k (fun _ => True) w v xs :=
  Sl.of_trod (α := Int) ht hc (by decide) (fun n cs y hy => by
    obtain ⟨m, h1, _, h3⟩ := DataW.trod_int he hy
    exact ⟨m, h1, InK.of_wf h3⟩) h
theorem int_of_trod (he : P.underlying e = some (.int k)) (h : DataW.trod enc P w 0 sp hd fuel e cs = some x) : ∃ n, cs = [.int k n] ∧ InK k n := by
  obtain ⟨m, h1, _, h3⟩ := DataW.trod_int he h
  exact ⟨m, h1, InK.of_wf h3⟩
/-- the fields of a struct -/
theorem fields_of_trod {fs : Array Field} (ht : P.underlying t = some (.struct fs)) (h : DataW.trod enc P w 0 sp hd fuel t cs = some x) : cs.length = P.cellsOf t ∧ ∀ f ∈ fs.toList, ∃ n y, DataW.trod enc P w 0 sp hd n f.type ((cs.drop f.offset).take (P.cellsOf f.type)) = some y := by
  cases fuel with
  | zero => simp [DataW.trod] at h
  | succ n =>
    unfold DataW.trod at h
    rw [ht] at h
    simp only at h
    split at h
    · rename_i hl
      refine ⟨hl, fun f hf => ?_⟩
      obtain ⟨i, hi⟩ := List.getElem?_of_mem hf
      cases hm : (fs.toList.mapM fun f => DataW.trod enc P w 0 sp hd n f.type ((cs.drop f.offset).take (P.cellsOf f.type))) with
      | none => rw [hm] at h; simp at h
      | some ys =>
        have := mapM_some_get hm i f hi
        have hlen := mapM_some_length hm
        have hlt : i < ys.length := by rw [hlen]; exact (List.getElem?_eq_some_iff.1 hi).1
        rw [List.getElem?_eq_getElem hlt] at this
        exact ⟨n, _, this⟩
    · simp at h
end
end Go.Sx

namespace Go.Sx
open Go
theorem jrn_append : ∀ (a b : List Cmd) (last : List Int), jrnF last (a ++ b) = jrnF last a ++ jrnF (lastF last a) b := by
  intro a
  induction a with
  | nil => intro b last; rfl
  | cons c a ih => intro b last; simp [jrnF, lastF, ih]
/-- how many bytes the first j records have -/
def EP (ks : List Cmd) (j : Nat) : Nat := (jS (ks.take j)).length
theorem EP_zero (ks : List Cmd) : EP ks 0 = 0 := rfl
theorem EP_all {ks : List Cmd} {j : Nat} (h : ks.length ≤ j) : EP ks j = (jS ks).length := by rw [EP, List.take_of_length_le h]
theorem jS_split (ks : List Cmd) (j : Nat) : jS ks = jS (ks.take j) ++ jrnF (lastF zero4 (ks.take j)) (ks.drop j) := by
  have := jrn_append (ks.take j) (ks.drop j) zero4
  rw [List.take_append_drop] at this
  exact this
theorem jS_drop (ks : List Cmd) (j : Nat) : (jS ks).drop (EP ks j) = jrnF (lastF zero4 (ks.take j)) (ks.drop j) := by
  rw [jS_split ks j, EP, List.drop_left]
theorem EP_le (ks : List Cmd) (j : Nat) : EP ks j ≤ (jS ks).length := by
  rw [jS_split ks j, List.length_append]; exact Nat.le_add_right _ _
theorem EP_succ {ks : List Cmd} {j : Nat} {c : Cmd} (h : ks[j]? = some c) : EP ks (j + 1) = EP ks j + ((frameS c).length + 4) := by
  rw [EP, take_get h, jS_snoc]
  simp [EP, chain_len]
theorem ends_get : ∀ (cs : List Cmd) (k j : Nat) (last : List Int), j < cs.length → (endsF k cs)[j]? = some ((k + (jrnF last (cs.take (j + 1))).length : Nat) : Int) := by
  intro cs
  induction cs with
  | nil => intro k j last h; simp at h
  | cons c cs ih =>
    intro k j last h
    cases j with
    | zero => simp [endsF, jrnF, chain_len]
    | succ j =>
      simp only [endsF, List.getElem?_cons_succ]
      rw [ih _ j (chainS last (frameS c)) (by simpa using h)]
      simp [jrnF, chain_len]
      omega
theorem endsS_get {cs : List Cmd} {j : Nat} (h : j < cs.length) : (endsS cs)[j]? = some ((EP cs (j + 1) : Nat) : Int) := by
  have := ends_get cs 0 j zero4 h
  simpa [endsS, EP, jS] using this
theorem rec_prefix {c : Cmd} {last tl : List Int} {f m : Nat} (hg : GoodC c) (hm : m < (frameS c).length + 4) : recF f last ((frameS c ++ (chainS last (frameS c) ++ tl)).take m) = ([], 0, last) := by
  by_cases h1 : m < (frameS c).length
  · rw [List.take_append_of_le_length (by omega)]
    exact recF_none (getS_cut hg.1 hg.2 h1)
  · rw [List.take_append, List.take_of_length_le (by omega)]
    refine recF_short (getS_frame _ hg.1 hg.2) ?_
    simp only [List.length_append, List.length_take, chain_len]
    omega
theorem read_at {ks : List Cmd} {j : Nat} {tl : List Int} (hg : ∀ c ∈ ks, GoodC c) (ht : ∀ f, recF f (lastF zero4 (ks.take j)) tl = ([], 0, lastF zero4 (ks.take j))) :
    readS (jS (ks.take j) ++ tl) = (ks.take j, EP ks j, lastF zero4 (ks.take j)) := by
  obtain ⟨f', h1, h2⟩ := rec_jrn (ks.take j) zero4 tl (jS (ks.take j) ++ tl).length (fun c hc => hg c (List.mem_of_mem_take hc)) (Nat.le_refl _)
  rw [ht f'] at h2
  simpa [readS, jS, EP] using h2
theorem read_cut {ks : List Cmd} {n j : Nat} (hg : ∀ c ∈ ks, GoodC c) (h1 : EP ks j ≤ n) (h2 : ks.length ≤ j ∨ n < EP ks (j + 1)) : readS ((jS ks).take n) = (ks.take j, EP ks j, lastF zero4 (ks.take j)) := by
  have e : (jS ks).take n = jS (ks.take j) ++ (jrnF (lastF zero4 (ks.take j)) (ks.drop j)).take (n - EP ks j) := by
    rw [jS_split ks j, List.take_append, List.take_of_length_le h1, EP]
  rw [e]
  refine read_at hg fun f => ?_
  cases hd : ks.drop j with
  | nil => exact recF_none (by simp [jrnF, getS_nil])
  | cons c rest =>
    have hlt : j < ks.length := by
      by_cases h : j < ks.length
      · exact h
      · rw [List.drop_of_length_le (by omega)] at hd; cases hd
    have hk : ks[j]? = some c := by
      have := List.drop_eq_getElem_cons hlt
      rw [hd] at this
      rw [List.getElem?_eq_getElem hlt]
      simp only [List.cons.injEq] at this
      rw [this.1]
    have h3 := EP_succ hk
    exact rec_prefix (hg c (List.mem_of_getElem? hk)) (by omega)
/-! ### a checksum tells one changed byte -/
theorem xor_r {a b c : Nat} (h : a ^^^ c = b ^^^ c) : a = b := by
  have := congrArg (· ^^^ c) h
  simpa [Nat.xor_assoc] using this
theorem xor_l {a b c : Nat} (h : c ^^^ a = c ^^^ b) : a = b := xor_r (c := c) (by rw [Nat.xor_comm a, Nat.xor_comm b]; exact h)
theorem crcBit_top {r : Nat} (h : r < 4294967296) : (crcBit r ≥ 2147483648) ↔ r % 2 = 1 := by
  unfold crcBit
  split
  · rename_i h1
    simp only [h1, iff_true]
    have ht : (r / 2 ^^^ 3988292384).testBit 31 = true := by
      rw [Nat.testBit_xor, Nat.testBit_lt_two_pow (show r / 2 < 2 ^ 31 by omega)]
      decide
    exact Nat.ge_two_pow_of_testBit ht
  · omega
theorem crcBit_inj {r s : Nat} (hr : r < 4294967296) (hs : s < 4294967296) (h : crcBit r = crcBit s) : r = s := by
  have h1 := crcBit_top hr
  have h2 := crcBit_top hs
  rw [h] at h1
  have h3 : r % 2 = 1 ↔ s % 2 = 1 := h1.symm.trans h2
  unfold crcBit at h
  by_cases hq : r % 2 = 1
  · rw [if_pos hq, if_pos (h3.1 hq)] at h
    have : r / 2 = s / 2 := xor_r h
    have := h3.1 hq
    omega
  · have hq' : ¬ s % 2 = 1 := fun q => hq (h3.2 q)
    rw [if_neg hq, if_neg hq'] at h
    omega
theorem crcIt_inj {r s : Nat} (hr : r < 4294967296) (hs : s < 4294967296) : ∀ k, crcIt k r = crcIt k s → r = s
  | 0, h => h
  | k + 1, h => crcIt_inj hr hs k (crcBit_inj (crcIt_lt hr k) (crcIt_lt hs k) h)
theorem crcFold_inj : ∀ (l : List Int) (r s : Nat), (∀ b ∈ l, InK .u8 b) → r < 4294967296 → s < 4294967296 → crcFold r l = crcFold s l → r = s := by
  intro l
  induction l with
  | nil => intro r s _ _ _ h; exact h
  | cons b l ih =>
    intro r s hl hr hs h
    have hb := (hl b (by simp)).u8
    have := ih _ _ (fun x hx => hl x (by simp [hx])) (crcByte_lt hr (by omega)) (crcByte_lt hs (by omega)) h
    have h2 := crcIt_inj (xor_lt (n := 32) hr (show b.toNat < 2 ^ 32 by omega)) (xor_lt (n := 32) hs (show b.toNat < 2 ^ 32 by omega)) 8 this
    exact xor_r h2
theorem sumS_byte {a b : List Int} {x y : Int} (ha : ∀ z ∈ a, InK .u8 z) (hb : ∀ z ∈ b, InK .u8 z) (hx : InK .u8 x) (hy : InK .u8 y) (h : sumS (a ++ x :: b) = sumS (a ++ y :: b)) : x = y := by
  have hx' := hx.u8
  have hy' := hy.u8
  have h1 : crcFold 4294967295 (a ++ x :: b) = crcFold 4294967295 (a ++ y :: b) := xor_r h
  rw [crcFold_append, crcFold_append] at h1
  have hr := crcFold_lt a ha 4294967295 (by decide)
  have h2 := crcFold_inj b _ _ hb (crcByte_lt hr (by omega)) (crcByte_lt hr (by omega)) h1
  have h3 := crcIt_inj (xor_lt (n := 32) hr (show x.toNat < 2 ^ 32 by omega)) (xor_lt (n := 32) hr (show y.toNat < 2 ^ 32 by omega)) 8 h2
  have h4 : x.toNat = y.toNat := xor_l h3
  omega
theorem bytes4_inj {a b : Nat} (ha : a < 4294967296) (hb : b < 4294967296) (h : bytes4 a = bytes4 b) : a = b := by
  simp only [bytes4, List.cons.injEq, and_true] at h
  omega
theorem set_split {l : List Int} {p : Nat} {x y : Int} (h : l[p]? = some x) : l = l.take p ++ x :: l.drop (p + 1) ∧ l.set p y = l.take p ++ y :: l.drop (p + 1) := by
  obtain ⟨h1, h2⟩ := List.getElem?_eq_some_iff.1 h
  constructor
  · rw [← h2, ← List.drop_eq_getElem_cons h1, List.take_append_drop]
  · rw [List.set_eq_take_append_cons_drop, if_pos h1]
theorem chain_set {last l : List Int} {p : Nat} {x y : Int} (hla : ∀ z ∈ last, InK .u8 z) (hl : ∀ z ∈ l, InK .u8 z) (hp : l[p]? = some x) (hy : InK .u8 y) (hne : y ≠ x) : chainS last l ≠ chainS last (l.set p y) := by
  intro h
  obtain ⟨e1, e2⟩ := set_split (y := y) hp
  have hx := hl x (List.mem_of_getElem? hp)
  have ht : ∀ z ∈ l.take p, InK .u8 z := fun z hz => hl z (List.mem_of_mem_take hz)
  have hdr : ∀ z ∈ l.drop (p + 1), InK .u8 z := fun z hz => hl z (List.mem_of_mem_drop hz)
  have hs : ∀ q, InK .u8 q → ∀ z ∈ last ++ (l.take p ++ q :: l.drop (p + 1)), InK .u8 z := fun q hq => in_append hla (in_append ht (fun z hz => by rcases List.mem_cons.1 hz with rfl | hz; exact hq; exact hdr z hz))
  have h2 : sumS (last ++ l) = sumS (last ++ l.set p y) := by
    refine bytes4_inj (sumS_lt _ (by rw [e1]; exact hs x hx)) (sumS_lt _ (by rw [e2]; exact hs y hy)) h
  rw [e2] at h2
  rw [show last ++ l = last ++ (l.take p ++ x :: l.drop (p + 1)) by rw [← e1], ← List.append_assoc, ← List.append_assoc] at h2
  exact hne (sumS_byte (in_append hla ht) hdr hx hy h2).symm
theorem rec_flip {c : Cmd} {last tl : List Int} {f p : Nat} {x y : Int} (hg : GoodC c) (hla : ∀ z ∈ last, InK .u8 z) (hh : (putU (payloadS c).length).length ≤ p) (hp : p < (frameS c).length + 4)
    (hx : (frameS c ++ (chainS last (frameS c) ++ tl))[p]? = some x) (hy : InK .u8 y) (hne : y ≠ x) : recF f last ((frameS c ++ (chainS last (frameS c) ++ tl)).set p y) = ([], 0, last) := by
  have hpl := pay_lt hg.1 hg.2
  have hfi := frame_in hg.1 hg.2
  by_cases h1 : p < (frameS c).length
  · rw [List.set_append_left _ _ h1]
    rw [List.getElem?_append_left h1] at hx
    have hfr : (frameS c).set p y = putU (payloadS c).length ++ (payloadS c).set (p - (putU (payloadS c).length).length) y := by
      rw [frameS, List.set_append_right _ _ hh]
    have hlen : ((frameS c).set p y).length = (putU (payloadS c).length).length + (payloadS c).length := by rw [List.length_set, frameS, List.length_append]
    have hgu : getU ((frameS c).set p y ++ (chainS last (frameS c) ++ tl)) = some ((payloadS c).length, (putU (payloadS c).length).length) := by
      rw [hfr, List.append_assoc]; exact getU_put _ hpl
    cases hcm : cmdS ((((frameS c).set p y ++ (chainS last (frameS c) ++ tl)).take ((putU (payloadS c).length).length + (payloadS c).length)).drop (putU (payloadS c).length).length) with
    | none => exact recF_none (getS_bad hgu hcm)
    | some c' =>
      have hgs := getS_some hgu (by simp only [List.length_append, hlen]; omega) hcm
      refine recF_bad hgs ?_
      rw [← hlen, List.drop_left, List.take_left, List.take_append_of_le_length (by rw [chain_len]; exact Nat.le_refl _), List.take_of_length_le (by rw [chain_len]; exact Nat.le_refl _)]
      exact chain_set hla hfi hx hy hne
  · rw [List.set_append_right _ _ (by omega)]
    rw [List.getElem?_append_right (by omega)] at hx
    have h4 : p - (frameS c).length < (chainS last (frameS c)).length := by rw [chain_len]; omega
    rw [List.set_append_left _ _ h4]
    rw [List.getElem?_append_left h4] at hx
    refine recF_bad (getS_frame _ hg.1 hg.2) ?_
    rw [List.drop_left, List.take_left, List.take_append_of_le_length (by rw [List.length_set, chain_len]; exact Nat.le_refl _), List.take_of_length_le (by rw [List.length_set, chain_len]; exact Nat.le_refl _)]
    intro h
    obtain ⟨e1, e2⟩ := set_split (y := y) hx
    rw [e2] at h
    rw [e1] at h
    have h5 := congrArg (fun l => l[p - (frameS c).length]?) h
    simp only [← e1] at h5
    rw [hx] at h5
    have hl : ((chainS last (frameS c)).take (p - (frameS c).length)).length = p - (frameS c).length := by rw [List.length_take]; omega
    rw [List.getElem?_append_right (by omega), hl, Nat.sub_self] at h5
    simp at h5
    exact hne h5
theorem lastF_in : ∀ (cs : List Cmd) (last : List Int), (∀ z ∈ last, InK .u8 z) → ∀ z ∈ lastF last cs, InK .u8 z := by
  intro cs
  induction cs with
  | nil => intro last h; exact h
  | cons c cs ih => intro last h; exact ih _ (bytes4_in _)
theorem drop_cons_of {ks : List Cmd} {j : Nat} {c : Cmd} (hk : ks[j]? = some c) : ks.drop j = c :: ks.drop (j + 1) := drop_get hk
theorem read_flip {ks : List Cmd} {j pl : Nat} {c : Cmd} {x y : Int} (hg : ∀ c ∈ ks, GoodC c) (hk : ks[j]? = some c) (h1 : EP ks j ≤ pl) (h2 : pl < EP ks (j + 1)) (hh : EP ks j + (putU (payloadS c).length).length ≤ pl) (hx : (jS ks)[pl]? = some x) (hy : InK .u8 y) (hne : y ≠ x) :
    readS ((jS ks).set pl y) = (ks.take j, EP ks j, lastF zero4 (ks.take j)) := by
  have h3 := EP_succ hk
  have e : (jS ks).set pl y = jS (ks.take j) ++ (jrnF (lastF zero4 (ks.take j)) (ks.drop j)).set (pl - EP ks j) y := by
    rw [jS_split ks j, List.set_append_right _ _ h1]; rfl
  rw [e]
  refine read_at hg fun f => ?_
  rw [jS_split ks j, List.getElem?_append_right h1, drop_cons_of hk] at hx
  rw [drop_cons_of hk]
  exact rec_flip (hg c (List.mem_of_getElem? hk)) (lastF_in _ _ (bytes4_in 0)) (by omega) (by omega) hx hy hne
theorem head_at {ks : List Cmd} {j : Nat} {c : Cmd} (hg : ∀ c ∈ ks, GoodC c) (hk : ks[j]? = some c) : getU ((jS ks).drop (EP ks j)) = some ((payloadS c).length, (putU (payloadS c).length).length) := by
  have hc := hg c (List.mem_of_getElem? hk)
  rw [jS_drop, drop_cons_of hk, jrnF, frameS, List.append_assoc]
  exact getU_put _ (pay_lt hc.1 hc.2)
end Go.Sx

namespace Go.Sx
open Go
section
variable {w : World} {bs bs' : List (World × List Nat)} {L : List Res} {i : Nat} {k : IntKind} {v : Value} {e : TypeId} {ys : List Int}
theorem St.fewer (h : St bs L w) (hb : ∀ p ∈ bs', p ∈ bs) : St bs' L w := ⟨fun p hp => h.base p (hb p hp), h.own, h.sep, h.lt⟩
theorem St.rowToBlk (h : St bs L w) (hi : L[i]? = some (rowI k v e ys)) (hn : 0 < ys.length) :
    ∃ b cap ex, v = .slice (some ⟨b, 0, none⟩) ys.length cap ∧ ys.length ≤ cap ∧ cap ≤ maxLen ∧ (ys.map (Value.int k) ++ ex).length = cap * 1 ∧ St bs (L.set i (blk b e (ys.map (.int k) ++ ex))) w := by
  have hown : w.ownsRow 0 e 1 v ys.length (ys.map (.int k)) := h.own _ (List.mem_of_getElem? hi)
  rcases hown.2 with ⟨_, h0⟩ | ⟨g', cap, cur, rfl, _, hg, h1, h2, h3, h4⟩
  · omega
  · have h5 : cur.toList.take ys.length = ys.map (.int k) := by rw [Nat.mul_one] at h4; simpa using h4
    have e1 : cur.toList = ys.map (.int k) ++ cur.toList.drop ys.length := by
      rw [← h5, List.take_append_drop]
    refine ⟨g', cap, cur.toList.drop ys.length, rfl, h1, h2, by rw [← e1]; simpa using h3, ?_⟩
    refine h.upd hi (Chg.refl _ _) (fun x hx => .inl (by simpa [row, Value.ownBlock, blk] using hx)) (by simp [blk]) (fun x hx => ?_) ?_
    · simp [blk] at hx
      subst hx
      exact (Array.getElem?_eq_some_iff.1 hg).1
    · show w.heap[g']? = some (.cells (ys.map (Value.int k) ++ cur.toList.drop ys.length).toArray e (0, 0))
      rw [← e1]
      simpa using hg
theorem set_cells {f : Int → Value} {ex : List Value} {p : Nat} {y : Int} (h : p < ys.length) : setAt (ys.map f ++ ex) p [f y] = (ys.set p y).map f ++ ex := by
  have h1 : p < (ys.map f).length := by simpa using h
  have e : setAt (ys.map f ++ ex) p [f y] = (ys.map f ++ ex).set p (f y) := by
    rw [List.set_eq_take_append_cons_drop, if_pos (by simp; omega)]
    simp [setAt]
  rw [e, List.set_append_left _ _ h1, List.map_set]
theorem row_get {f : Int → Value} {ex : List Value} {p : Nat} {x : Int} (h : ys[p]? = some x) : (ys.map f ++ ex)[p]? = some (f x) := by
  have := (List.getElem?_eq_some_iff.1 h).1
  rw [List.getElem?_append_left (by simpa using this), List.getElem?_map, h]
  rfl
end
theorem St.blkIntsX {w : World} {bs : List (World × List Nat)} {L : List Res} {i b c : Nat} {k : IntKind} {T : TypeId} {ys : List Int} {ex : List Value} (h : St bs L w) (hi : L[i]? = some (blk b T (ys.map (.int k) ++ ex))) (hk : ∀ y ∈ ys, InK k y) {m : Nat} (hm : ys.length = m) (hc : m ≤ c) (h63 : c ≤ maxLen) : Ints k (fun b => b ∈ feet L) w (.slice (some ⟨b, 0, none⟩) m c) ys := by
  subst hm
  refine ⟨_, c, rfl, hc, h63, fun j y hj => ⟨b, 0, [.int k y], rfl, mem_feet_of hi (by simp [blk]), rfl, ⟨rfl, hk y (List.mem_of_getElem? hj)⟩, fun q u hq => ?_⟩⟩
  cases q with
  | zero =>
    simp at hq
    subst hq
    have := h.blkCell (o := j) hi (v := .int k y) (row_get hj)
    simpa using this
  | succ q => simp at hq
theorem rem_ex {a : Int} {m : Nat} (h : 0 ≤ a) (hm : 0 < m) : ∃ p : Nat, a.tmod (m : Int) = (p : Int) ∧ p < m := by
  obtain ⟨n, rfl⟩ := Int.eq_ofNat_of_zero_le h
  refine ⟨n % m, ?_, Nat.mod_lt _ hm⟩
  rw [Int.tmod_eq_emod_of_nonneg h]
  rfl
theorem jS_pos {ks : List Cmd} (h : 0 < (jS ks).length) : 0 < ks.length := by
  cases ks with
  | nil => simp [jS, jrnF] at h
  | cons c ks => simp
theorem jS_zero {ks : List Cmd} (h : (jS ks).length = 0) : ks.length = 0 := by
  cases ks with
  | nil => rfl
  | cons c ks =>
    have := frame_pos c
    simp only [jS, jrnF, List.length_append] at h
    omega
theorem ep_next {ks : List Cmd} {j pl : Nat} (h1 : EP ks (j + 1) ≤ pl) (h2 : pl < (jS ks).length) (hj : j < ks.length) : j + 1 < ks.length := by
  by_cases h : j + 1 < ks.length
  · exact h
  · rw [EP_all (by omega)] at h1; omega
theorem in_set {k : IntKind} {l : List Int} {p : Nat} {y : Int} (hl : ∀ z ∈ l, InK k z) (hy : InK k y) : ∀ z ∈ l.set p y, InK k z := by
  intro z hz
  rcases List.mem_or_eq_of_mem_set hz with h | h
  · exact hl z h
  · rw [h]; exact hy
theorem xor_ne {x y : Nat} (h : 0 < y) : x ^^^ y ≠ x := by
  intro e
  have : x ^^^ y = x ^^^ 0 := by rw [e, Nat.xor_zero]
  have := xor_l this
  omega
theorem xor8 {x y : Int} (hx : InK .u8 x) (hy : InK .u8 y) : biI .xor .u8 x y = some ((x.toNat ^^^ y.toNat : Nat) : Int) ∧ InK .u8 ((x.toNat ^^^ y.toNat : Nat) : Int) := by
  have h1 := hx.u8
  have h2 := hy.u8
  obtain ⟨a, rfl⟩ := Int.eq_ofNat_of_zero_le h1.1
  obtain ⟨b, rfl⟩ := Int.eq_ofNat_of_zero_le h2.1
  refine ⟨x8 (by omega) (by omega), ?_⟩
  have : a ^^^ b < 2 ^ 8 := Nat.xor_lt_two_pow (by omega) (by omega)
  show (0 : Int) ≤ _ ∧ _ ≤ (255 : Int)
  simp only [Int.toNat_natCast]
  omega
end Go.Sx

