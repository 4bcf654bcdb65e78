/- Plain lemmas: rules for walking through code, one for each operation, over any program; an evaluator of closed calls with its soundness; and plain mathematics. No conditions. -/
import Derived.Test.YtlpgpckhpjnegaaGreatDoorFb
import Derived.OpenShut
import Derived.Test.YtlpgpckhpjnegaaGreatDoorFa
import Derived.ProofKit
import Derived.Deep.Slices
set_option linter.unusedVariables false
set_option linter.unusedSimpArgs false
namespace Go.Ex
open Go Go.Sx
structure Dr (P : Program) (rec : Rec) (ops : List Oper) (n : Nat) (masks : List Nat) (rs : List Rc) (σ' : Sl') (A' B' : AH) : Prop where
  regf : RegF ops (preM masks)
  len : rs.length = ops.length
  ent : ∀ (t : Nat) (r : Rc), rs[t]? = some r → Right ops masks r.p
  bef : ∀ (t : Nat) (r : Rc) (k : Nat), rs[t]? = some r → Nat.testBit r.p.m k = true → ∃ (t' : Nat) (r' : Rc), t' < t ∧ rs[t']? = some r' ∧ r'.p.i = k
  inj : ∀ (t t' : Nat) (r r' : Rc), rs[t]? = some r → rs[t']? = some r' → r.p.i = r'.p.i → t = t'
  all : ∀ i, i < ops.length → ∃ (t : Nat) (r : Rc), rs[t]? = some r ∧ r.p.i = i
  chord : ∀ (t t' : Nat) (r r' : Rc), rs[t]? = some r → rs[t']? = some r' → t' < t → r.p.k = .ch → r'.p.k = .ch → Nat.testBit r.p.m r'.p.i = true
  flo : ∀ (t u : Nat) (r r' : Rc), rs[t]? = some r → rs[u]? = some r' → t < u → r.p.k = .fl → r'.p.k = .ch → (∀ (x : Nat) (q : Rc), t < x → x < u → rs[x]? = some q → q.p.k ≠ .ch) → Nat.testBit r'.p.m r.p.i = true
  step : ∀ (t : Nat) (r : Rc), rs[t]? = some r → StepF P rec ops n r (sgF rs σ' (t + 1)) (ahF rs A' (t + 1)) (bhF rs B' (t + 1))
  same : ahF rs A' 0 = bhF rs B' 0
  big : A'.nf ≤ BIG
  chk : ∀ (t : Nat) (r : Rc) (u : Nat), rs[t]? = some r → Bnd rs u → (r.p.k = .pure ∨ r.p.k = .read) → (∀ (j : Nat) (q : Rc), rs[j]? = some q → q.p.k = .ch → Nat.testBit r.p.m q.p.i = true → j < u) →
    (∀ (j : Nat) (q : Rc), rs[j]? = some q → q.p.k = .ch → Nat.testBit q.p.m r.p.i = true → u ≤ j) →
    okv (bhF rs B' u).nf (flNames r.p.m rs) r.v = true ∧ (r.p.k = .read → r.tk = true → xq P r.p.o n r.σ (bhF rs B' u).h = some r.v)
mutual
theorem okv_nm (k : Nat) (fs : List Nat) : ∀ v : Value, nm v ≤ k → okv k fs v = true
  | .pointer (some a), hn => by simp only [nm] at hn; simp only [okv, Bool.or_eq_true]; exact .inl (blt_true (by omega))
  | .slice (some a) _ _, hn => by simp only [nm] at hn; simp only [okv, Bool.or_eq_true]; exact .inl (blt_true (by omega))
  | .map (some r), hn => by simp only [nm] at hn; simp only [okv, Bool.or_eq_true]; exact .inl (blt_true (by omega))
  | .chan (some r), hn => by simp only [nm] at hn; simp only [okv, Bool.or_eq_true]; exact .inl (blt_true (by omega))
  | .func fn fi ca, hn => by
    simp only [nm, Nat.max_le] at hn
    simp only [okv, Bool.and_eq_true]
    refine ⟨⟨?_, okvA_nm k fs fi hn.2.1⟩, okvA_nm k fs ca hn.2.2⟩
    cases fn <;> try rfl
    rename_i l
    simp only [Bool.or_eq_true]
    exact .inl (blt_true (by have := hn.1; simp at this; omega))
  | .iface t v, hn => by simp only [nm] at hn; simp only [okv]; exact okv_nm k fs v hn
  | .agg cs, hn => by simp only [nm] at hn; simp only [okv]; exact okvA_nm k fs cs hn
  | .tuple cs, hn => by simp only [nm] at hn; simp only [okv]; exact okvA_nm k fs cs hn
  | .pointer none, _ => rfl
  | .slice none _ _, _ => rfl
  | .map none, _ => rfl
  | .chan none, _ => rfl
  | .bool _, _ => rfl
  | .int _ _, _ => rfl
  | .float _ _, _ => rfl
  | .complex _ _ _, _ => rfl
  | .string _, _ => rfl
  | .nilFunc, _ => rfl
  | .nilIface, _ => rfl
theorem okvA_nm (k : Nat) (fs : List Nat) : ∀ a : Array Value, nmA a ≤ k → okvA k fs a = true
  | ⟨l⟩, hn => by simp only [nmA] at hn; simp only [okvA]; exact okvL_nm k fs l hn
theorem okvL_nm (k : Nat) (fs : List Nat) : ∀ l : List Value, nmL l ≤ k → okvL k fs l = true
  | [], _ => rfl
  | v :: l, hn => by simp only [nmL, Nat.max_le] at hn; simp only [okvL, Bool.and_eq_true]; exact ⟨okv_nm k fs v hn.1, okvL_nm k fs l hn.2⟩
end
theorem xreg_dr {P : Program} {rec : Rec} {q : Bool} {ops : List Oper} {n : Nat} {σ σ' : Sl'} {A A' : AH} (h : xreg P rec q ops n σ A = some (σ', A')) :
    ∃ masks rs B', Dr P rec ops n masks rs σ' A' B' ∧ sgF rs σ' 0 = σ ∧ ahF rs A' 0 = A := by
  unfold xreg at h
  split at h
  · rename_i masks hsc
    obtain ⟨hpl, h⟩ := bifT h
    split at h
    · rename_i rs σ1 A1 B1 hx
      obtain ⟨hc, h⟩ := bifT h
      cases h
      rw [Bool.and_eq_true] at hc
      obtain ⟨hR, hlm⟩ := scan_sound hsc
      obtain ⟨h1, h2, h3, h4, h5⟩ := xp1_spec _ _ _ _ _ _ _ _ hx
      obtain ⟨p1, p2⟩ := plOk_spec _ _ _ hpl
      have hright := plan_right (ops := ops) (masks := masks) (chains ops masks 0) 0 (chains_right ops masks ops masks 0 (by simp) (by simp))
      rw [← h1] at p1 p2 hright hc
      have get : ∀ (t : Nat) (r : Rc), rs[t]? = some r → (rs.map (·.p))[t]? = some r.p := fun t r hr => by rw [List.getElem?_map, hr]; rfl
      have got : ∀ (t : Nat) (p : Pl), (rs.map (·.p))[t]? = some p → ∃ r, rs[t]? = some r ∧ r.p = p := fun t p hp => by
        rw [List.getElem?_map] at hp
        cases hr : rs[t]? with
        | none => rw [hr] at hp; cases hp
        | some r => rw [hr] at hp; exact ⟨r, rfl, by simpa using hp⟩
      have ent : ∀ (t : Nat) (r : Rc), rs[t]? = some r → Right ops masks r.p := fun t r hr => hright r.p (List.mem_of_getElem? (get t r hr))
      have inj : ∀ (t t' : Nat) (r r' : Rc), rs[t]? = some r → rs[t']? = some r' → r.p.i = r'.p.i → t = t' := by
        intro t t' r r' hr hr' e
        rcases Nat.lt_trichotomy t t' with hlt | he | hlt
        · exact absurd e ((p1 t' r'.p (get _ _ hr')).2.2.1 t r.p hlt (get _ _ hr))
        · exact he
        · exact absurd e.symm ((p1 t r.p (get _ _ hr)).2.2.1 t' r'.p hlt (get _ _ hr'))
      have hall : ∀ i, i < ops.length → ∃ (t : Nat) (r : Rc), rs[t]? = some r ∧ r.p.i = i := by
        intro i hi
        have : Nat.testBit (2 ^ ops.length - 1) i = true := by rw [Nat.testBit_two_pow_sub_one]; simpa using hi
        rcases p2 i this with h6 | ⟨t, p, hp, e⟩
        · simp at h6
        · obtain ⟨r, hr, rfl⟩ := got t p hp
          exact ⟨t, r, hr, e⟩
      have hilt : ∀ (t : Nat) (r : Rc), rs[t]? = some r → r.p.i < ops.length := fun t r hr => (List.getElem?_eq_some_iff.1 (ent t r hr).1).1
      have hlen : rs.length = ops.length := by
        have l1 : (rs.map (·.p.i)).Nodup := by
          rw [List.nodup_iff_pairwise_ne, List.pairwise_iff_getElem]
          intro a b ha hb hab e
          simp only [List.length_map] at ha hb
          simp only [List.getElem_map] at e
          have := inj a b rs[a] rs[b] (List.getElem?_eq_getElem ha) (List.getElem?_eq_getElem hb) e
          omega
        have l2 : ∀ x ∈ rs.map (·.p.i), x ∈ List.range ops.length := by
          intro x hx
          obtain ⟨r, hr, rfl⟩ := List.mem_map.1 hx
          obtain ⟨t, ht⟩ := List.mem_iff_getElem?.1 hr
          exact List.mem_range.2 (hilt t r ht)
        have l3 : ∀ x ∈ List.range ops.length, x ∈ rs.map (·.p.i) := by
          intro x hx
          obtain ⟨t, r, hr, e⟩ := hall x (List.mem_range.1 hx)
          exact List.mem_map.2 ⟨r, List.mem_of_getElem? hr, e⟩
        have p : (rs.map (·.p.i)).Perm (List.range ops.length) := (List.perm_ext_iff_of_nodup l1 List.nodup_range).2 fun x => ⟨l2 x, l3 x⟩
        simpa using p.length_eq
      refine ⟨masks, rs, B1, ⟨hR, hlen, ent, ?_, inj, hall, ?_, ?_, h5, by rw [h3, h4], Nat.le_of_ble_eq_true hc.1, ?_⟩, h2, h3⟩
      · intro t r k hr hk
        rcases (p1 t r.p (get _ _ hr)).2.1 k hk with h6 | ⟨t', p', ht, hp', e⟩
        · simp at h6
        · obtain ⟨r', hr', rfl⟩ := got t' p' hp'
          exact ⟨t', r', ht, hr', e⟩
      · intro t t' r r' hr hr' hlt hk hk'
        exact ((p1 t r.p (get _ _ hr)).2.2.2.1 hk).2 t' r'.p hlt (get _ _ hr') hk'
      · intro t u r r' hr hr' hlt hk hk' hn
        refine (p1 t r.p (get _ _ hr)).2.2.2.2 hk u r'.p hlt (get _ _ hr') hk' fun x q hx hx' hq => ?_
        obtain ⟨rq, hrq, rfl⟩ := got x q hq
        exact hn x rq hx hx' hrq
      · intro t r u hr hu hk c1 c2
        rcases Bool.or_eq_true_iff.1 hc.2 with hqt | hc2
        · -- nothing is written and nothing is new
          have hqs := quietPl_spec _ hqt
          have kq : ∀ (x : Nat) (q : Rc), rs[x]? = some q → q.p.k ≠ .ch ∧ q.p.k ≠ .fl := fun x q hq => hqs q.p (List.mem_of_getElem? (get x q hq))
          have hstay : ∀ x, x ≤ rs.length → ahF rs A' x = A ∧ bhF rs B1 x = A := by
            intro x
            induction x with
            | zero => intro _; exact ⟨h3, h4⟩
            | succ x ih =>
              intro hx
              obtain ⟨q, hq⟩ : ∃ q, rs[x]? = some q := ⟨_, List.getElem?_eq_getElem (by omega)⟩
              obtain ⟨i1, i2⟩ := ih (by omega)
              have hs := h5 x q hq
              have e1 : q.A = A := by have : ahF rs A' x = q.A := by unfold ahF; rw [hq]
                                      rw [← this]; exact i1
              have e2 : q.B = A := by have : bhF rs B1 x = q.B := by unfold bhF; rw [hq]
                                      rw [← this]; exact i2
              have hA : ahF rs A' (x + 1) = q.A := by
                cases ht : q.tk with
                | false => exact (hs.off ht).2
                | true =>
                  have h6 := hs.on ht
                  unfold xone at h6
                  cases hkk : kindOf q.p.o.op with
                  | pure => rw [hkk] at h6; obtain ⟨v, _, e⟩ := map_some h6; simp only [Prod.mk.injEq] at e; exact e.2.symm
                  | read => rw [hkk] at h6; obtain ⟨v, _, e⟩ := map_some h6; simp only [Prod.mk.injEq] at e; exact e.2.symm
                  | fl => exact absurd hkk (kq x q hq).2
                  | ch => exact absurd hkk (kq x q hq).1
              refine ⟨hA.trans e1, ?_⟩
              rw [hs.B]
              unfold nextB
              split
              · rename_i hx2; exact absurd hx2 (kq x q hq).1
              · exact e2
          have hul : u ≤ rs.length := by
            rcases hu with h6 | ⟨q, hq, _⟩
            · omega
            · exact Nat.le_of_lt (List.getElem?_eq_some_iff.1 hq).1
          have htl : t < rs.length := (List.getElem?_eq_some_iff.1 hr).1
          have hs := h5 t r hr
          rw [(hstay u hul).2]
          refine ⟨okv_nm _ _ _ (by have := hs.nmv; rw [(hstay (t + 1) (by omega)).1] at this; exact this), fun hk2 ht => ?_⟩
          have h6 := hs.on ht
          unfold xone at h6
          rw [show kindOf r.p.o.op = .read from hk2] at h6
          obtain ⟨v, hv, e⟩ := map_some h6
          simp only [Prod.mk.injEq] at e
          have e2 : r.B = A := by have : bhF rs B1 t = r.B := by unfold bhF; rw [hr]
                                  rw [← this]; exact (hstay t (by omega)).2
          rw [e.1, e2] at hv
          exact hv
        obtain ⟨cb', m1, m2⟩ := hsOf_spec (Bf := B1) rs 0 u hu
        have m2 : ∀ k, Nat.testBit cb' k = true ↔ ∃ (t : Nat) (r : Rc), t < u ∧ rs[t]? = some r ∧ r.p.k = .ch ∧ r.p.i = k := fun k => by rw [m2]; simp
        have s1 : sub (r.p.m &&& chAll (rs.map (·.p))) cb' = true := by
          unfold sub
          rw [Nat.beq_eq]
          apply Nat.eq_of_testBit_eq
          intro j
          cases hj : Nat.testBit (r.p.m &&& chAll (rs.map (·.p))) j with
          | false => rw [Nat.testBit_and, hj]; rfl
          | true =>
            rw [Nat.testBit_and, hj]
            rw [Nat.testBit_and] at hj
            rw [Bool.and_eq_true] at hj
            obtain ⟨pq, hpq, hqk, rfl⟩ := (chAll_bit _).1 hj.2
            obtain ⟨q, hq, rfl⟩ := List.mem_map.1 hpq
            obtain ⟨x, hx⟩ := List.mem_iff_getElem?.1 hq
            rw [(m2 _).2 ⟨x, q, c1 x q hx hqk hj.1, hx, hqk, rfl⟩]
            rfl
        have s2 : waiters r.p.i (rs.map (·.p)) &&& cb' = 0 := by
          apply Nat.eq_of_testBit_eq
          intro j
          cases hj : Nat.testBit (waiters r.p.i (rs.map (·.p)) &&& cb') j with
          | false => simp
          | true =>
            exfalso
            rw [Nat.testBit_and, Bool.and_eq_true] at hj
            obtain ⟨pq, hpq, hqk, hqm, rfl⟩ := (waiters_bit _).1 hj.1
            obtain ⟨q, hq, rfl⟩ := List.mem_map.1 hpq
            obtain ⟨x, hx⟩ := List.mem_iff_getElem?.1 hq
            obtain ⟨t', r', ht', hr', hk', e⟩ := (m2 _).1 hj.2
            have := inj t' x r' q hr' hx e
            have := c2 x q hx hqk hqm
            omega
        have hmem := List.mem_of_getElem? hr
        have hca := chkAll_spec rs hc2 r hmem
        rcases hk with hk | hk
        · have := chkQ_spec _ (hca.1 hk) cb' _ m1 s1 s2
          exact ⟨this.1, fun h => by rw [hk] at h; cases h⟩
        · have := chkQ_spec _ (hca.2 hk) cb' _ m1 s1 s2
          exact ⟨this.1, fun _ ht => by obtain ⟨v, hv, rfl⟩ := this.2 rfl ht; exact hv⟩
    · cases h
  · cases h
end Go.Ex
namespace Go.Ex
open Go Go.Sx
section
variable {P : Program} {rec : Rec} {ops : List Oper} {n : Nat} {masks : List Nat} {rs : List Rc} {σ' : Sl'} {A' B' : AH}
theorem Dr.pre (D : Dr P rec ops n masks rs σ' A' B') {t : Nat} {r : Rc} (hr : rs[t]? = some r) (k : Nat) : preM masks r.p.i k = Nat.testBit r.p.m k := by
  unfold preM
  rw [(D.ent t r hr).2]
  rfl
theorem Dr.ilt (D : Dr P rec ops n masks rs σ' A' B') {t : Nat} {r : Rc} (hr : rs[t]? = some r) : r.p.i < ops.length := (List.getElem?_eq_some_iff.1 (D.ent t r hr).1).1
theorem ahF_at {t : Nat} {r : Rc} (hr : rs[t]? = some r) : ahF rs A' t = r.A := by unfold ahF; rw [hr]
theorem bhF_at {t : Nat} {r : Rc} (hr : rs[t]? = some r) : bhF rs B' t = r.B := by unfold bhF; rw [hr]
theorem sgF_at {t : Nat} {r : Rc} (hr : rs[t]? = some r) : sgF rs σ' t = r.σ := by unfold sgF; rw [hr]
theorem ahF_end {t : Nat} (h : rs.length ≤ t) : ahF rs A' t = A' := by unfold ahF; rw [List.getElem?_eq_none h]
theorem at_lt {t : Nat} (h : t < rs.length) : ∃ r, rs[t]? = some r := ⟨_, List.getElem?_eq_getElem h⟩
theorem lt_at {t : Nat} {r : Rc} (h : rs[t]? = some r) : t < rs.length := (List.getElem?_eq_some_iff.1 h).1
theorem Dr.mono (D : Dr P rec ops n masks rs σ' A' B') {t t' : Nat} (h : t ≤ t') (h' : t' ≤ rs.length) : (ahF rs A' t).nf ≤ (ahF rs A' t').nf := by
  obtain ⟨d, rfl⟩ : ∃ d, t' = t + d := ⟨t' - t, by omega⟩
  clear h
  induction d with
  | zero => exact Nat.le_refl _
  | succ d ih =>
    obtain ⟨r, hr⟩ := at_lt (rs := rs) (t := t + d) (by omega)
    have := (D.step _ r hr).nf
    rw [← ahF_at (A' := A') hr] at this
    exact Nat.le_trans (ih (by omega)) this
theorem nextB_ch {o : Oper} {A1 B : AH} (h : kindOf o.op = .ch) : nextB o A1 B = A1 := by unfold nextB; rw [h]
theorem nextB_ne {o : Oper} {A1 B : AH} (h : kindOf o.op ≠ .ch) : nextB o A1 B = B := by
  unfold nextB
  split
  · rename_i hx; exact absurd hx h
  · rfl
theorem Dr.bnf (D : Dr P rec ops n masks rs σ' A' B') : ∀ t, t ≤ rs.length → (bhF rs B' t).nf ≤ (ahF rs A' t).nf := by
  intro t
  induction t with
  | zero => intro _; rw [D.same]; exact Nat.le_refl _
  | succ t ih =>
    intro h
    obtain ⟨r, hr⟩ := at_lt (rs := rs) (t := t) (by omega)
    have hs := D.step t r hr
    rw [hs.B]
    by_cases hk : kindOf r.p.o.op = .ch
    · rw [nextB_ch hk]; exact Nat.le_refl _
    · rw [nextB_ne hk]
      have := ih (by omega)
      rw [bhF_at hr, ahF_at hr] at this
      exact Nat.le_trans this hs.nf
theorem Dr.ground (D : Dr P rec ops n masks rs σ' A' B') {s u : Nat} (h : s ≤ u) (h' : u ≤ rs.length) (hn : ∀ (x : Nat) (q : Rc), s ≤ x → x < u → rs[x]? = some q → q.p.k ≠ .ch) : bhF rs B' s = bhF rs B' u := by
  obtain ⟨d, rfl⟩ : ∃ d, u = s + d := ⟨u - s, by omega⟩
  clear h
  induction d with
  | zero => rfl
  | succ d ih =>
    obtain ⟨r, hr⟩ := at_lt (rs := rs) (t := s + d) (by omega)
    rw [ih (by omega) fun x q hx hx' hq => hn x q hx (by omega) hq, show s + (d + 1) = s + d + 1 by omega, (D.step _ r hr).B, nextB_ne (hn _ r (by omega) (by omega) hr), bhF_at hr]
theorem Dr.seg (D : Dr P rec ops n masks rs σ' A' B') : ∀ u, u ≤ rs.length → ∃ s, s ≤ u ∧ ahF rs A' s = bhF rs B' u ∧ ∀ (x : Nat) (q : Rc), s ≤ x → x < u → rs[x]? = some q → q.p.k ≠ .ch := by
  intro u
  induction u with
  | zero => intro _; exact ⟨0, Nat.le_refl _, D.same, fun x q _ h => by omega⟩
  | succ u ih =>
    intro h
    obtain ⟨r, hr⟩ := at_lt (rs := rs) (t := u) (by omega)
    have hs := D.step u r hr
    by_cases hk : r.p.k = .ch
    · exact ⟨u + 1, Nat.le_refl _, by rw [hs.B, nextB_ch hk], fun x q _ h => by omega⟩
    · obtain ⟨s, h1, h2, h3⟩ := ih (by omega)
      refine ⟨s, by omega, by rw [h2, hs.B, nextB_ne hk, bhF_at hr], fun x q hx hx' hq => ?_⟩
      by_cases e : x = u
      · subst e
        rw [hr] at hq
        cases hq
        exact hk
      · exact h3 x q hx (by omega) hq
theorem Dr.low (D : Dr P rec ops n masks rs σ' A' B') {u t : Nat} (hu : u ≤ rs.length) (ht : t ≤ rs.length) (hn : ∀ (x : Nat) (q : Rc), t ≤ x → x < u → rs[x]? = some q → q.p.k ≠ .ch) : (bhF rs B' u).nf ≤ (ahF rs A' t).nf := by
  rcases Nat.lt_or_ge t u with h | h
  · rw [← D.ground (Nat.le_of_lt h) hu hn]
    exact D.bnf t ht
  · exact Nat.le_trans (D.bnf u hu) (D.mono h ht)
theorem Dr.below (D : Dr P rec ops n masks rs σ' A' B') {u t x : Nat} {q : Rc} (hu : u ≤ rs.length) (htx : t ≤ x + 1) (hxu : x < u) (hq : rs[x]? = some q) (hk : q.p.k = .ch) : (ahF rs A' t).nf ≤ (bhF rs B' u).nf := by
  have h1 : (ahF rs A' t).nf ≤ (ahF rs A' (x + 1)).nf := D.mono (by omega) (by omega)
  -- the ground just behind x
  have h2 : bhF rs B' (x + 1) = ahF rs A' (x + 1) := by rw [(D.step x q hq).B, nextB_ch hk]
  have h3 : ∀ d, x + 1 + d ≤ rs.length → (ahF rs A' (x + 1)).nf ≤ (bhF rs B' (x + 1 + d)).nf := by
    intro d
    induction d with
    | zero => intro _; rw [Nat.add_zero, h2]; exact Nat.le_refl _
    | succ d ih =>
      intro hd
      obtain ⟨r, hr⟩ := at_lt (rs := rs) (t := x + 1 + d) (by omega)
      have hs := D.step _ r hr
      rw [show x + 1 + (d + 1) = x + 1 + d + 1 by omega, hs.B]
      by_cases hk' : kindOf r.p.o.op = .ch
      · rw [nextB_ch hk']; exact D.mono (by omega) (by omega)
      · rw [nextB_ne hk']
        have := ih (by omega)
        rwa [bhF_at hr] at this
  have h4 := h3 (u - (x + 1)) (by omega)
  rw [show x + 1 + (u - (x + 1)) = u by omega] at h4
  omega
theorem Dr.swf (D : Dr P rec ops n masks rs σ' A' B') (h0 : SWf (ahF rs A' 0).nf (sgF rs σ' 0)) : ∀ t, t ≤ rs.length → SWf (ahF rs A' t).nf (sgF rs σ' t) := by
  intro t
  induction t with
  | zero => intro _; exact h0
  | succ t ih =>
    intro h
    obtain ⟨r, hr⟩ := at_lt (rs := rs) (t := t) (by omega)
    have hs := D.step t r hr
    have := ih (by omega)
    rw [ahF_at hr, sgF_at hr] at this
    rw [hs.σ]
    exact (this.mono hs.nf).put hs.nmv
theorem Dr.bignf (D : Dr P rec ops n masks rs σ' A' B') {t : Nat} (h : t ≤ rs.length) : (ahF rs A' t).nf ≤ BIG := by
  have := D.mono h (Nat.le_refl _)
  rw [ahF_end (Nat.le_refl _)] at this
  exact Nat.le_trans this D.big
theorem Dr.made (D : Dr P rec ops n masks rs σ' A' B') {t : Nat} {r : Rc} (hr : rs[t]? = some r) (hk : r.p.k = .fl) (htk : r.tk = true) :
    ∃ ob B, ahF rs A' (t + 1) = r.A.add ob ∧ xop P r.p.o.type r.p.o.op (xev n r.σ) ⟨.e, r.A.nf⟩ = some (.val r.v, B) ∧ B = (⟨.e, r.A.nf⟩ : AH).add ob ∧ ob.Wf 0 ∧ ob.ro = false ∧ okv 0 [r.A.nf] r.v = true ∧ nm r.v ≤ r.A.nf + 1 := by
  have h := (D.step t r hr).on htk
  unfold xone at h
  rw [show kindOf r.p.o.op = .fl from hk] at h
  simp only [xfl] at h
  split at h
  · rename_i v B hx
    split at h
    · rename_i ob hob
      simp only [Option.some.injEq, Prod.mk.injEq] at h
      obtain ⟨rfl, h⟩ := h
      obtain ⟨ob', e, h1, h2, h3, h4⟩ := fl_shape hk hx
      subst e
      have : ob' = ob := by
        rw [get_add] at hob
        simpa using hob
      subst this
      exact ⟨ob', _, h.symm, hx, rfl, h1, h2, h3, h4⟩
    · cases h
  · cases h
theorem Dr.quiet (D : Dr P rec ops n masks rs σ' A' B') {t : Nat} {r : Rc} (hr : rs[t]? = some r) (hk : r.p.k = .pure ∨ r.p.k = .read) : ahF rs A' (t + 1) = r.A := by
  have hs := D.step t r hr
  cases ht : r.tk with
  | false => exact (hs.off ht).2
  | true =>
    have h := hs.on ht
    unfold xone at h
    rcases hk with hk | hk
    · rw [show kindOf r.p.o.op = .pure from hk] at h
      obtain ⟨v, _, e⟩ := map_some h
      simp only [Prod.mk.injEq] at e
      exact e.2.symm
    · rw [show kindOf r.p.o.op = .read from hk] at h
      obtain ⟨v, _, e⟩ := map_some h
      simp only [Prod.mk.injEq] at e
      exact e.2.symm
open Classical in
noncomputable def valOf (rs : List Rc) (i : Nat) : Value := if h : ∃ r, r ∈ rs ∧ r.p.i = i then h.choose.v else undef
theorem Dr.val (D : Dr P rec ops n masks rs σ' A' B') {t : Nat} {r : Rc} (hr : rs[t]? = some r) : valOf rs r.p.i = r.v := by
  have h : ∃ q, q ∈ rs ∧ q.p.i = r.p.i := ⟨r, List.mem_of_getElem? hr, rfl⟩
  unfold valOf
  rw [dif_pos h]
  obtain ⟨h1, h2⟩ := h.choose_spec
  obtain ⟨t', ht'⟩ := List.mem_iff_getElem?.1 h1
  have := D.inj t' t _ r ht' hr h2
  subst this
  rw [hr] at ht'
  rw [← Option.some.inj ht']
noncomputable def VV (ops : List Oper) (rs : List Rc) : List (Env → Value) := (List.range ops.length).map fun i => fun g => ren g (valOf rs i)
theorem VV_at {i : Nat} (h : i < ops.length) : (VV ops rs)[i]? = some fun g => ren g (valOf rs i) := by simp [VV, h]
theorem VV_len : (VV ops rs).length = ops.length := by simp [VV]
theorem VVm_at {i : Nat} (h : i < ops.length) (g : Env) : ((VV ops rs).map (· g))[i]? = some (ren g (valOf rs i)) := by simp [VV, h]
open Classical in
noncomputable def plc (rs : List Rc) (t i : Nat) : Bool := decide (∃ (t' : Nat) (r : Rc), t' < t ∧ rs[t']? = some r ∧ r.p.i = i)
theorem plc_true {t i : Nat} : plc rs t i = true ↔ ∃ (t' : Nat) (r : Rc), t' < t ∧ rs[t']? = some r ∧ r.p.i = i := by unfold plc; simp
theorem Dr.after (D : Dr P rec ops n masks rs σ' A' B') {t j : Nat} {r : Rc} (hr : rs[t]? = some r) (hj : j < ops.length) (hp : preM masks j r.p.i = true) : plc rs t j = false := by
  cases h : plc rs t j with
  | false => rfl
  | true =>
    exfalso
    obtain ⟨t', r', ht, hr', rfl⟩ := plc_true.1 h
    rw [D.pre hr'] at hp
    obtain ⟨t2, r2, ht2, hr2, e⟩ := D.bef t' r' _ hr' hp
    have := D.inj t2 t r2 r hr2 hr e
    omega
theorem Dr.slotsAt (D : Dr P rec ops n masks rs σ' A' B') {E0 g : Env} (hs0 : SWf (ahF rs A' 0).nf (sgF rs σ' 0)) (hg : ∀ b, b < (ahF rs A' 0).nf → g b = E0 b) :
    ∀ t, t ≤ rs.length → ∀ s, s < n → Sx.look (slots n g (sgF rs σ' t)) s = Sx.look (slS (plc rs t) 0 ops ((VV ops rs).map (· g)) (slots n E0 (sgF rs σ' 0))) s := by
  intro t
  induction t with
  | zero =>
    intro _ s hs
    rw [look_slS, lastW_none ops 0 _ (fun j o _ _ => ?_), slots_ext hg hs0]
    · rfl
    · cases h : plc rs 0 (0 + j) with
      | false => rfl
      | true => obtain ⟨t', r, ht, _⟩ := plc_true.1 h; omega
  | succ t ih =>
    intro h s hs
    obtain ⟨r, hr⟩ := at_lt (rs := rs) (t := t) (by omega)
    have hst := D.step t r hr
    have IH := ih (by omega) s hs
    rw [look_slS, sgF_at hr] at IH
    rw [hst.σ, look_slS]
    have hil := D.ilt hr
    have ho := (D.ent t r hr).1
    have hput : Sx.look (slots n g (xput r.σ r.p.o.dst r.v)) s = if r.p.o.dst = some s then ren g r.v else Sx.look (slots n g r.σ) s := by
      rw [look_slots, if_pos hs]
      cases hd : r.p.o.dst with
      | none => simp only [xput, look_slots, if_pos hs]; simp
      | some d =>
        simp only [xput, Tr.get_put, Option.some.injEq, look_slots, if_pos hs]
        by_cases e : s = d
        · subst e; simp
        · rw [if_neg e, if_neg (Ne.symm e)]
    rw [hput]
    by_cases hd : r.p.o.dst = some s
    · rw [if_pos hd, lastW_at ops 0 r.p.i _ r.p.o (ren g r.v) ho hd (by rw [VVm_at hil, D.val hr]) ?_ ?_]
      · rfl
      · rw [Nat.zero_add]; exact plc_true.2 ⟨t, r, by omega, hr, rfl⟩
      · intro j oj hij hj hdj
        rw [Nat.zero_add]
        have hjl : j < ops.length := (List.getElem?_eq_some_iff.1 hj).1
        have hp := D.regf.conf r.p.i j r.p.o oj ho hj hij (.inl (by simp [touches, hd, hdj]))
        cases hpl : plc rs (t + 1) j with
        | false => rfl
        | true =>
          exfalso
          obtain ⟨t', r', ht, hr', e⟩ := plc_true.1 hpl
          have hne : t' ≠ t := by
            intro e2; subst e2
            rw [hr] at hr'; cases hr'
            omega
          have := D.after hr hjl hp
          rw [plc_true.2 ⟨t', r', by omega, hr', e⟩] at this
          cases this
    · rw [if_neg hd, IH]
      congr 1
      refine lastW_congr ops 0 _ _ rfl fun j oj hj hdj => ⟨?_, fun _ => rfl⟩
      rw [Nat.zero_add]
      have hne : j ≠ r.p.i := by
        rintro rfl
        rw [ho] at hj; cases hj
        exact hd hdj
      cases h1 : plc rs t j with
      | true =>
        obtain ⟨t', r', ht, hr', e⟩ := plc_true.1 h1
        exact (plc_true.2 ⟨t', r', by omega, hr', e⟩).symm
      | false =>
        cases h2 : plc rs (t + 1) j with
        | false => rfl
        | true =>
          obtain ⟨t', r', ht, hr', e⟩ := plc_true.1 h2
          by_cases e2 : t' = t
          · subst e2
            rw [hr] at hr'; cases hr'
            exact absurd e.symm hne
          · rw [plc_true.2 ⟨t', r', by omega, hr', e⟩] at h1; cases h1
theorem Dr.looks (D : Dr P rec ops n masks rs σ' A' B') {E0 g : Env} {S : Nat → Bool} {t : Nat} {r : Rc} (hs0 : SWf (ahF rs A' 0).nf (sgF rs σ' 0)) (hg : ∀ b, b < (ahF rs A' 0).nf → g b = E0 b) (hr : rs[t]? = some r) (hU : Ups ops (preM masks) r.p.i S) :
    ∀ s, s < n → s ∈ r.p.o.looksAt ops.toArray → Sx.look (slots n g r.σ) s = Sx.look (slS S 0 ops ((VV ops rs).map (· g)) (slots n E0 (sgF rs σ' 0))) s := by
  intro s hs hl
  have := D.slotsAt hs0 hg t (Nat.le_of_lt (lt_at hr)) s hs
  rw [sgF_at hr] at this
  rw [this, look_slS, look_slS]
  congr 1
  refine lastW_congr ops 0 _ _ rfl fun j oj hj hdj => ⟨?_, fun _ => rfl⟩
  rw [Nat.zero_add]
  have ho := (D.ent t r hr).1
  have hjl : j < ops.length := (List.getElem?_eq_some_iff.1 hj).1
  have htou : touches ops.toArray oj r.p.o = true := by simp [touches, hdj, hl]
  rcases Nat.lt_trichotomy j r.p.i with h | h | h
  · have hp := D.regf.conf j r.p.i oj r.p.o hj ho h (.inl htou)
    rw [hU.already j hp]
    rw [D.pre hr] at hp
    exact plc_true.2 (D.bef t r j hr hp)
  · subst h
    rw [hU.self]
    cases h1 : plc rs t r.p.i with
    | false => rfl
    | true =>
      obtain ⟨t', r', ht, hr', e⟩ := plc_true.1 h1
      have := D.inj t' t r' r hr' hr e
      omega
  · have hp := D.regf.conf r.p.i j r.p.o oj ho hj h (.inr htou)
    rw [hU.notYet j hjl hp]
    exact D.after hr hjl hp
end
end Go.Ex
namespace Go.Ex
open Go Go.Sx
section
variable {E E' E1 g : Env} {A A1 B : AH} {w w1 : World} {ob : AO} {c : Obj}
theorem Rel.env (h : Rel E A w) (he : ∀ b, b < A.nf → E' b = E b) : Rel E' A w := by
  refine ⟨fun b o hb => ?_, fun b b' o o' hb hb' e => ?_, h.wf, fun b hb => (he b (Nat.lt_of_lt_of_le hb h.low)).trans (h.glob b hb), h.low⟩
  · obtain ⟨c, h1, h2⟩ := h.obj b o hb
    have hw := h.wf b o hb
    rw [he b hw.1]
    exact ⟨c, h1, h2.ext he hw.2⟩
  · rw [he b (h.wf b o hb).1, he b' (h.wf b' o' hb').1] at e
    exact h.inj b b' o o' hb hb' e
theorem To.env (h : To E A w E1 A1 w1) (hr : Rel E1 A1 w1) (he : ∀ b, b < A1.nf → E' b = E1 b) : To E A w E' A1 w1 := by
  refine ⟨h.nf, fun b hb => (he b (Nat.lt_of_lt_of_le hb h.nf)).trans (h.ext b hb), h.os, h.tape, h.output, h.size, h.blk, fun b o hb => ?_⟩
  rw [he b (hr.wf b o hb).1]
  exact h.mine b o hb
theorem Rel.addAt (h : Rel g B w) (hw : w.heap[(g B.nf).blk]? = some c) (hl : Lies g (g B.nf) ob c) (hn : ob.Wf 0) (hfree : ∀ b o, B.get b = some o → (g b).blk ≠ (g B.nf).blk) : Rel g (B.add ob) w := by
  refine ⟨fun b o hb => ?_, fun b b' o o' hb hb' e => ?_, fun b o hb => ?_, h.glob, Nat.le_succ_of_le h.low⟩
  · rw [get_add] at hb
    split at hb
    · rename_i e; cases hb; rw [e]; exact ⟨c, hw, hl⟩
    · exact h.obj b o hb
  · rw [get_add] at hb hb'
    split at hb
    · rename_i e1
      split at hb'
      · rename_i e2; rw [e1, e2]
      · rw [e1] at e; exact absurd e.symm (hfree b' o' hb')
    · split at hb'
      · rename_i e2; rw [e2] at e; exact absurd e (hfree b o hb)
      · exact h.inj b b' o o' hb hb' e
  · rw [get_add] at hb
    split at hb
    · rename_i e; cases hb; subst e; exact ⟨by simp [AH.add], hn.mono (Nat.zero_le _)⟩
    · have := h.wf b o hb
      exact ⟨by simp [AH.add]; omega, this.2.mono (by simp [AH.add])⟩
theorem To.addAt {E0 : Env} {A0 : AH} {w0 : World} (h : To E0 A0 w0 g B w) (hnew : w0.heap.size ≤ (g B.nf).blk) : To E0 A0 w0 g (B.add ob) w := by
  refine ⟨Nat.le_succ_of_le h.nf, h.ext, h.os, h.tape, h.output, h.size, h.blk, fun b o hb => ?_⟩
  rw [get_add] at hb
  split at hb
  · rename_i e; subst e; exact .inr hnew
  · exact h.mine b o hb
theorem Rel.less {k : Nat} (h : Rel E A w) (hA : A.nf ≤ k) : Rel E ⟨A.h, k⟩ w :=
  ⟨h.obj, h.inj, fun b o hb => ⟨Nat.lt_of_lt_of_le (h.wf b o hb).1 hA, (h.wf b o hb).2.mono hA⟩, h.glob, Nat.le_trans h.low hA⟩
theorem Rel.none {k : Nat} (h : Rel E A w) (hk : GB ≤ k) : Rel E ⟨.e, k⟩ w :=
  ⟨fun b o hb => (by cases hb), fun b b' o o' hb => (by cases hb), fun b o hb => (by cases hb), h.glob, hk⟩
end
section
variable {P : Program} {rec : Rec} {ops : List Oper} {n : Nat} {masks : List Nat} {rs : List Rc} {σ' : Sl'} {A' B' : AH} {E0 g : Env} {A0 : AH} {w0 w : World} {S : Nat → Bool} {u t : Nat} {r : Rc}
structure Early (rs : List Rc) (S : Nat → Bool) (u t : Nat) (r : Rc) : Prop where
  at_ : rs[t]? = some r
  fl : r.p.k = .fl
  tk : r.tk = true
  up : S r.p.i = true
  seg : ∀ (x : Nat) (q : Rc), t ≤ x → x < u → rs[x]? = some q → q.p.k ≠ .ch
def AtF (rs : List Rc) (A' : AH) (g : Env) (w w0 : World) (B : AH) (t : Nat) (r : Rc) : Prop :=
  ∃ ob c, ahF rs A' (t + 1) = r.A.add ob ∧ ob.Wf 0 ∧ ob.ro = false ∧ w.heap[(g r.A.nf).blk]? = some c ∧ Lies g (g r.A.nf) ob c ∧ w0.heap.size ≤ (g r.A.nf).blk ∧ ∀ b o, B.get b = some o → (g b).blk ≠ (g r.A.nf).blk
structure MS (rs : List Rc) (A' B' : AH) (E0 : Env) (A0 : AH) (w0 : World) (S : Nat → Bool) (g : Env) (w : World) (u : Nat) : Prop where
  le : u ≤ rs.length
  cur1 : ∀ r, rs[u]? = some r → r.p.k = .ch ∧ S r.p.i = false
  cur2 : ∀ (t : Nat) (r : Rc), t < u → rs[t]? = some r → r.p.k = .ch → S r.p.i = true
  rel : Rel g (bhF rs B' u) w
  to : To E0 A0 w0 g (bhF rs B' u) w
  fl : ∀ (t : Nat) (r : Rc), Early rs S u t r → AtF rs A' g w w0 (bhF rs B' u) t r
  dist : ∀ (t : Nat) (r : Rc) (t' : Nat) (r' : Rc), Early rs S u t r → Early rs S u t' r' → t ≠ t' → (g r.A.nf).blk ≠ (g r'.A.nf).blk
theorem MS.bnd (h : MS rs A' B' E0 A0 w0 S g w u) : Bnd rs u := by
  rcases Nat.lt_or_ge u rs.length with h1 | h1
  · obtain ⟨r, hr⟩ := at_lt h1
    exact .inr ⟨r, hr, (h.cur1 r hr).1⟩
  · exact .inl (Nat.le_antisymm h.le h1)
theorem MS.chain (h : MS rs A' B' E0 A0 w0 S g w u) (D : Dr P rec ops n masks rs σ' A' B') (hd : ∀ j, S j = true → j < ops.length → ∀ k, preM masks j k = true → S k = true) {x : Nat} {q : Rc} (hq : rs[x]? = some q) (hk : q.p.k = .ch) (hS : S q.p.i = true) : x < u := by
  rcases Nat.lt_trichotomy x u with h1 | h1 | h1
  · exact h1
  · subst h1
    rw [(h.cur1 q hq).2] at hS; cases hS
  · have hul : u < rs.length := Nat.lt_trans h1 (lt_at hq)
    obtain ⟨ru, hru⟩ := at_lt hul
    obtain ⟨c1, c2⟩ := h.cur1 ru hru
    have hp := D.chord x u q ru hq hru h1 hk c1
    have := hd q.p.i hS (D.ilt hq) ru.p.i (by rw [D.pre hq]; exact hp)
    rw [c2] at this; cases this
theorem Dr.names (D : Dr P rec ops n masks rs σ' A' B') {t t' : Nat} {r r' : Rc} (hr : rs[t]? = some r) (hr' : rs[t']? = some r') (hk : r.p.k = .fl) (htk : r.tk = true) (hlt : t < t') : r.A.nf < r'.A.nf := by
  obtain ⟨ob, B, h1, _⟩ := D.made hr hk htk
  have h2 := D.mono (t := t + 1) (t' := t') (by omega) (Nat.le_of_lt (lt_at hr'))
  rw [h1, ahF_at hr'] at h2
  simp only [AH.add] at h2
  omega
theorem Dr.names_ne (D : Dr P rec ops n masks rs σ' A' B') {t t' : Nat} {r r' : Rc} (hr : rs[t]? = some r) (hr' : rs[t']? = some r') (hk : r.p.k = .fl) (htk : r.tk = true) (hk' : r'.p.k = .fl) (htk' : r'.tk = true) (hne : t ≠ t') : r.A.nf ≠ r'.A.nf := by
  rcases Nat.lt_or_ge t t' with h | h
  · exact Nat.ne_of_lt (D.names hr hr' hk htk h)
  · exact Ne.symm (Nat.ne_of_lt (D.names hr' hr hk' htk' (by omega)))
theorem MS.stab (h : MS rs A' B' E0 A0 w0 S g w u) (D : Dr P rec ops n masks rs σ' A' B') (hd : ∀ j, S j = true → j < ops.length → ∀ k, preM masks j k = true → S k = true) {g' : Env}
    (hg : ∀ b, b < (bhF rs B' u).nf → g' b = g b) (hf : ∀ (t : Nat) (r : Rc), rs[t]? = some r → r.p.k = .fl → r.tk = true → S r.p.i = true → g' r.A.nf = g r.A.nf) :
    ∀ k f, (VV ops rs)[k]? = some f → S k = true → f g' = f g := by
  intro k f hf' hS
  have hkl : k < ops.length := by have := (List.getElem?_eq_some_iff.1 hf').1; rwa [VV_len] at this
  rw [VV_at hkl] at hf'
  cases hf'
  obtain ⟨x, q, hq, rfl⟩ := D.all k hkl
  simp only [D.val hq]
  have num : nm q.v ≤ (bhF rs B' u).nf → ren g' q.v = ren g q.v := fun hn => ren_ext hg q.v hn
  have hst := D.step x q hq
  have quiet : (q.p.k = .pure ∨ q.p.k = .read) → ren g' q.v = ren g q.v := by
    intro hk
    by_cases hex : ∃ (j : Nat) (p : Rc), rs[j]? = some p ∧ p.p.k = .ch ∧ Nat.testBit p.p.m q.p.i = true ∧ j < u
    · obtain ⟨j, p, hp, hpk, hpm, hju⟩ := hex
      obtain ⟨t2, r2, ht2, hr2, e⟩ := D.bef j p _ hp hpm
      have := D.inj t2 x r2 q hr2 hq e
      subst this
      exact num (Nat.le_trans hst.nmv (D.below h.le (by omega) hju hp hpk))
    · obtain ⟨h1, _⟩ := D.chk x q u hq h.bnd hk
        (fun j p hp hpk hpm => h.chain D hd hp hpk (hd q.p.i hS hkl p.p.i (by rw [D.pre hq]; exact hpm)))
        (fun j p hp hpk hpm => by
          rcases Nat.lt_or_ge j u with h2 | h2
          · exact absurd ⟨j, p, hp, hpk, hpm, h2⟩ hex
          · exact h2)
      refine okv_ren (fun b hb => ?_) q.v h1
      rcases hb with hb | hb
      · exact hg b hb
      · obtain ⟨p, hp, hpk, htk, hpm, rfl⟩ := flNames_mem rs hb
        obtain ⟨y, hy⟩ := List.mem_iff_getElem?.1 hp
        exact hf y p hy hpk htk (hd q.p.i hS hkl p.p.i (by rw [D.pre hq]; exact hpm))
  cases hk : q.p.k with
  | pure => exact quiet (.inl hk)
  | read => exact quiet (.inr hk)
  | fl =>
    cases htk : q.tk with
    | false => rw [(hst.off htk).1]; rfl
    | true =>
      obtain ⟨ob, B, _, _, _, _, _, h1, _⟩ := D.made hq hk htk
      refine okv_ren (fun b hb => ?_) q.v h1
      rcases hb with hb | hb
      · omega
      · simp only [List.mem_singleton] at hb
        subst hb
        exact hf x q hq hk htk hS
  | ch => exact num (Nat.le_trans hst.nmv (D.below h.le (by omega) (h.chain D hd hq hk hS) hq hk))
theorem MS.join (h : MS rs A' B' E0 A0 w0 S g w u) (D : Dr P rec ops n masks rs σ' A' B') (hall : ∀ (t : Nat) (r : Rc), t < u → rs[t]? = some r → r.p.k = .fl → (∀ (x : Nat) (q : Rc), t ≤ x → x < u → rs[x]? = some q → q.p.k ≠ .ch) → S r.p.i = true) :
    Rel g (ahF rs A' u) w ∧ To E0 A0 w0 g (ahF rs A' u) w ∧ ∀ b o, (ahF rs A' u).get b = some o → (bhF rs B' u).get b = some o ∨ ∃ (t : Nat) (r : Rc), t < u ∧ Early rs S u t r ∧ b = r.A.nf := by
  obtain ⟨s, hsu, hs1, hs2⟩ := D.seg u h.le
  have key : ∀ d, s + d ≤ u → Rel g (ahF rs A' (s + d)) w ∧ To E0 A0 w0 g (ahF rs A' (s + d)) w ∧ ∀ b o, (ahF rs A' (s + d)).get b = some o → (bhF rs B' u).get b = some o ∨ ∃ (t : Nat) (r : Rc), t < s + d ∧ Early rs S u t r ∧ b = r.A.nf := by
    intro d
    induction d with
    | zero => intro _; rw [Nat.add_zero, hs1]; exact ⟨h.rel, h.to, fun b o hb => .inl hb⟩
    | succ d ih =>
      intro hd
      obtain ⟨i1, i2, i3⟩ := ih (by omega)
      obtain ⟨q, hq⟩ := at_lt (rs := rs) (t := s + d) (by have := h.le; omega)
      have hsg : ∀ (x : Nat) (p : Rc), s + d ≤ x → x < u → rs[x]? = some p → p.p.k ≠ .ch := fun x p hx hx' hp => hs2 x p (by omega) hx' hp
      have same : ahF rs A' (s + d + 1) = q.A → Rel g (ahF rs A' (s + (d + 1))) w ∧ To E0 A0 w0 g (ahF rs A' (s + (d + 1))) w ∧ ∀ b o, (ahF rs A' (s + (d + 1))).get b = some o → (bhF rs B' u).get b = some o ∨ ∃ (t : Nat) (r : Rc), t < s + (d + 1) ∧ Early rs S u t r ∧ b = r.A.nf := by
        intro e
        rw [ahF_at hq] at i1 i2 i3
        rw [show s + (d + 1) = s + d + 1 by omega, e]
        refine ⟨i1, i2, fun b o hb => ?_⟩
        rcases i3 b o hb with h3 | ⟨t, r, ht, h3⟩
        · exact .inl h3
        · exact .inr ⟨t, r, by omega, h3⟩
      have hst := D.step _ q hq
      cases hk : q.p.k with
      | pure => exact same (D.quiet hq (.inl hk))
      | read => exact same (D.quiet hq (.inr hk))
      | ch => exact absurd hk (hsg (s + d) q (Nat.le_refl _) (by omega) hq)
      | fl =>
        cases htk : q.tk with
        | false => exact same (hst.off htk).2
        | true =>
          have he : Early rs S u (s + d) q := ⟨hq, hk, htk, hall _ q (by omega) hq hk hsg, hsg⟩
          obtain ⟨ob, c, e, hw, hro, hc, hl, hnew, hfree⟩ := h.fl _ _ he
          rw [ahF_at hq] at i1 i2 i3
          rw [show s + (d + 1) = s + d + 1 by omega, e]
          refine ⟨i1.addAt hc hl hw fun b o hb => ?_, i2.addAt hnew, fun b o hb => ?_⟩
          · rcases i3 b o hb with h3 | ⟨t, r, ht, h3, rfl⟩
            · exact hfree b o h3
            · exact h.dist _ _ _ _ h3 he (by omega)
          · rw [get_add] at hb
            split at hb
            · rename_i e2; exact .inr ⟨s + d, q, by omega, he, e2⟩
            · rcases i3 b o hb with h3 | ⟨t, r, ht, h3⟩
              · exact .inl h3
              · exact .inr ⟨t, r, by omega, h3⟩
  have := key (u - s) (by omega)
  rw [show s + (u - s) = u by omega] at this
  exact this
end
end Go.Ex
namespace Go.Ex
open Go Go.Sx
section
variable {P : Program} {rec : Rec} {ops : List Oper} {n : Nat} {masks : List Nat} {rs : List Rc} {σ' : Sl'} {A' B' : AH} {E0 g : Env} {A0 : AH} {w0 w : World} {S : Nat → Bool} {u t : Nat} {r : Rc}
theorem xdo_oob {k : Nat} (hrec : RecOk P k rec) {o : Oper} {σ : Tr Value} {A A1 : AH} {v : Value} (hx : xdo P rec false o n σ A = some (v, A1)) (h : Rel g A w) (hs : SWf A.nf σ) {Nx : Value → World → Prop}
    (K : ∀ E1 w1, Rel E1 A1 w1 → To g A w E1 A1 w1 → nm v ≤ A1.nf → Nx (ren E1 v) w1) :
    notDefer o.op = true ∧ ((∃ v w', (execOp (ev n (slots n g σ)) o).run P w = .ok (.value v) w' ∧ Nx v w') ∨ (∃ w', (execOp (ev n (slots n g σ)) o).run P w = .ok .skip w' ∧ Nx undef w') ∨
      (∃ f args w', (execOp (ev n (slots n g σ)) o).run P w = .ok (.enter f args) w' ∧ CR P f args w' Nx)) := by
  unfold xdo at hx
  cases hxo : xop P o.type o.op (xev n σ) A with
  | none => rw [hxo] at hx; cases hx
  | some p =>
    obtain ⟨xr, A2⟩ := p
    refine ⟨xop_notDefer hxo, ?_⟩
    have hdoes := xop_sound (P := P) o.op g A A2 w (xev n σ) n (slots n g σ) xr o.dst o.type o.pos o.after o.guard h (xev_ok h hs) hxo
    rw [hxo] at hx
    cases xr with
    | val u =>
      cases hx
      obtain ⟨E1, w1, hr, h1, t1, hv⟩ := hdoes
      exact .inl ⟨_, w1, hr, K E1 w1 h1 t1 hv⟩
    | unit =>
      cases hx
      obtain ⟨E1, w1, hr, h1, t1, _⟩ := hdoes
      refine .inr (.inl ⟨w1, hr, ?_⟩)
      have := K E1 w1 h1 t1 (nm_undef _)
      rw [undef_ren] at this
      exact this
    | enter f args =>
      simp only at hx
      split at hx
      · rename_i v' A3 hc
        cases hx
        obtain ⟨E1, w1, hr, h1, t1, hv⟩ := hdoes
        have hcall : CallOk P f args A2 v A1 := hrec _ _ hc
        refine .inr (.inr ⟨f, _, w1, hr, CR.mono (hcall E1 w1 h1 hv) ?_⟩)
        rintro v2 w2 ⟨E2, rfl, h2, t2, hv2⟩
        exact K E2 w2 h2 (t1.trans t2) hv2
      · cases hx
    | yield l args => cases hx
theorem next_bnd (rs : List Rc) : ∀ d a, a + d = rs.length → ∃ u, a ≤ u ∧ u ≤ rs.length ∧ Bnd rs u ∧ ∀ (x : Nat) (q : Rc), a ≤ x → x < u → rs[x]? = some q → q.p.k ≠ .ch := by
  intro d
  induction d with
  | zero => intro a h; exact ⟨a, Nat.le_refl _, by omega, .inl (by omega), fun x q _ h => by omega⟩
  | succ d ih =>
    intro a h
    obtain ⟨r, hr⟩ := at_lt (rs := rs) (t := a) (by omega)
    by_cases hk : r.p.k = .ch
    · exact ⟨a, Nat.le_refl _, by omega, .inr ⟨r, hr, hk⟩, fun x q _ h => by omega⟩
    · obtain ⟨u, h1, h2, h3, h4⟩ := ih (a + 1) (by omega)
      refine ⟨u, by omega, h2, h3, fun x q hx hx' hq => ?_⟩
      by_cases e : x = a
      · subst e; rw [hr] at hq; cases hq; exact hk
      · exact h4 x q (by omega) hx' hq
theorem or_eq_true {S : Nat → Bool} {i j : Nat} : (S j || j == i) = true ↔ S j = true ∨ j = i := by simp
theorem MS.chainStep (h : MS rs A' B' E0 A0 w0 S g w u) (D : Dr P rec ops n masks rs σ' A' B') (hr : rs[t]? = some r) (hk : r.p.k = .ch) (hU : Ups ops (preM masks) r.p.i S) :
    u = t ∧ Rel g (ahF rs A' t) w ∧ ∀ E1 w1, Rel E1 (ahF rs A' (t + 1)) w1 → To g (ahF rs A' t) w E1 (ahF rs A' (t + 1)) w1 →
      ∃ g', (∃ u', MS rs A' B' E0 A0 w0 (fun j => S j || j == r.p.i) g' w1 u') ∧ (∀ b, b < (ahF rs A' (t + 1)).nf → g' b = E1 b) ∧ ∀ k f, (VV ops rs)[k]? = some f → S k = true → f g' = f g := by
  have hut : u = t := by
    rcases Nat.lt_trichotomy u t with h1 | h1 | h1
    · obtain ⟨q, hq⟩ := at_lt (Nat.lt_trans h1 (lt_at hr))
      obtain ⟨c1, c2⟩ := h.cur1 q hq
      have := hU.already q.p.i (by rw [D.pre hr]; exact D.chord t u r q hr hq h1 hk c1)
      rw [c2] at this; cases this
    · exact h1
    · have := h.cur2 t r h1 hr hk
      rw [hU.self] at this; cases this
  subst hut
  refine ⟨rfl, ?_⟩
  have htl := lt_at hr
  obtain ⟨j1, j2, j3⟩ := h.join D fun x q hx hq hqk hsg => hU.already q.p.i (by rw [D.pre hr]; exact D.flo x u q r hq hr hx hqk hk fun y p hy hy' hp => hsg y p (by omega) hy' hp)
  refine ⟨j1, fun E1 w1 r1 t1 => ?_⟩
  obtain ⟨u', hu1, hu2, hu3, hu4⟩ := next_bnd rs (rs.length - (u + 1)) (u + 1) (by omega)
  have hB : bhF rs B' u' = ahF rs A' (u + 1) := by
    rw [← D.ground hu1 hu2 hu4, (D.step u r hr).B, nextB_ch hk]
  classical
  obtain ⟨g', hg'⟩ : ∃ g' : Env, ∀ b, g' b = if ∃ (x : Nat) (q : Rc), Early rs S u x q ∧ u < x ∧ b = q.A.nf then g b else E1 b := ⟨_, fun _ => rfl⟩
  have late : ∀ (x : Nat) (q : Rc), Early rs S u x q → u < x → (ahF rs A' (u + 1)).nf ≤ q.A.nf := by
    intro x q hq hx
    have := D.mono (t := u + 1) (t' := x) (by omega) (Nat.le_of_lt (lt_at hq.at_))
    rwa [ahF_at hq.at_] at this
  have gE : ∀ b, b < (ahF rs A' (u + 1)).nf → g' b = E1 b := by
    intro b hb
    rw [hg', if_neg]
    rintro ⟨x, q, hq, hx, rfl⟩
    have := late x q hq hx
    omega
  have hnf : (ahF rs A' u).nf ≤ (ahF rs A' (u + 1)).nf := D.mono (by omega) (by omega)
  have gg : ∀ b, b < (ahF rs A' u).nf → g' b = g b := fun b hb => (gE b (by omega)).trans (t1.ext b hb)
  have ge : ∀ (x : Nat) (q : Rc), Early rs S u x q → u < x → g' q.A.nf = g q.A.nf := fun x q hq hx => by rw [hg', if_pos ⟨x, q, hq, hx, rfl⟩]
  have rg : Rel g' (ahF rs A' (u + 1)) w1 := r1.env gE
  have tg : To E0 A0 w0 g' (ahF rs A' (u + 1)) w1 := (j2.trans t1).env r1 gE
  -- early blocks of the new state
  have back : ∀ (x : Nat) (q : Rc), Early rs (fun j => S j || j == r.p.i) u' x q → Early rs S u x q ∧ u < x := by
    intro x q hq
    have hx : u < x := by
      rcases Nat.lt_or_ge u x with h1 | h1
      · exact h1
      · exact absurd hk (hq.seg u r h1 (by omega) hr)
    have hS : S q.p.i = true := by
      rcases or_eq_true.1 hq.up with h1 | h1
      · exact h1
      · have := D.inj x u q r hq.at_ hr h1
        omega
    exact ⟨⟨hq.at_, hq.fl, hq.tk, hS, fun y p hy hy' hp => by omega⟩, hx⟩
  have free : ∀ (x : Nat) (q : Rc), Early rs S u x q → u < x → ∀ b o, (ahF rs A' u).get b = some o → (g b).blk ≠ (g q.A.nf).blk := by
    intro x q hq hx b o hb
    rcases j3 b o hb with h1 | ⟨y, p, hy, hp, rfl⟩
    · obtain ⟨_, _, _, _, _, _, _, _, hfree⟩ := h.fl x q hq
      exact hfree b o h1
    · exact h.dist y p x q hp hq (by omega)
  refine ⟨g', ⟨u', hu2, fun q hq => ?_, fun x q hx hq hqk => ?_, by rw [hB]; exact rg, by rw [hB]; exact tg, fun x q hq => ?_, fun x q x' q' hq hq' hne => ?_⟩, gE, ?_⟩
  · have hqk : q.p.k = .ch := by
      rcases hu3 with h1 | ⟨q', hq', hk'⟩
      · have := lt_at hq; omega
      · rw [hq] at hq'; cases hq'; exact hk'
    refine ⟨hqk, ?_⟩
    have hp := D.chord u' u q r hq hr (by omega) hqk hk
    have h1 := hU.notYet q.p.i (D.ilt hq) (by rw [D.pre hq]; exact hp)
    have h2 : q.p.i ≠ r.p.i := fun e => by have := D.inj u' u q r hq hr e; omega
    simp [h1, h2]
  · rcases Nat.lt_trichotomy x u with h1 | h1 | h1
    · exact or_eq_true.2 (.inl (h.cur2 x q h1 hq hqk))
    · subst h1; rw [hr] at hq; cases hq; simp
    · exact absurd hqk (hu4 x q (by omega) hx hq)
  · obtain ⟨hq', hx⟩ := back x q hq
    obtain ⟨ob, c, e, hw, hro, hc, hl, hnew, hfree⟩ := h.fl x q hq'
    have hlt : (g q.A.nf).blk < w.heap.size := (Array.getElem?_eq_some_iff.1 hc).1
    have hgx := ge x q hq' hx
    refine ⟨ob, c, e, hw, hro, ?_, ?_, by rw [hgx]; exact hnew, fun b o hb => ?_⟩
    · rw [hgx]
      exact (t1.blk _ hlt fun b o hb _ => free x q hq' hx b o hb).trans hc
    · rw [hgx]; exact hl.ext (k := 0) (fun b hb => by omega) hw
    · rw [hB] at hb
      rw [hgx, gE b (r1.wf b o hb).1]
      rcases t1.mine b o hb with ⟨c', oc, hc', he, _⟩ | hs
      · rw [he]; exact free x q hq' hx c' oc hc'
      · omega
  · obtain ⟨h1, h2⟩ := back x q hq
    obtain ⟨h3, h4⟩ := back x' q' hq'
    rw [ge x q h1 h2, ge x' q' h3 h4]
    exact h.dist x q x' q' h1 h3 hne
  · refine h.stab D hU.down (fun b hb => gg b (Nat.lt_of_lt_of_le hb (D.bnf u h.le))) fun x q hq hqk htk hS => ?_
    rcases Nat.lt_trichotomy x u with h1 | h1 | h1
    · obtain ⟨ob, B, h2, _⟩ := D.made hq hqk htk
      have h3 := D.mono (t := x + 1) (t' := u) (by omega) h.le
      rw [h2] at h3
      exact gg _ (by simp only [AH.add] at h3; omega)
    · subst h1; rw [hr] at hq; cases hq; rw [hk] at hqk; cases hqk
    · exact ge x q ⟨hq, hqk, htk, hS, fun y p hy hy' hp => by omega⟩ h1
end
end Go.Ex
namespace Go.Ex
open Go Go.Sx
section
variable {P : Program} {rec : Rec} {ops : List Oper} {n : Nat} {masks : List Nat} {rs : List Rc} {σ' : Sl'} {A' B' : AH} {E0 g : Env} {A0 : AH} {w0 w w1 : World} {S : Nat → Bool} {u t : Nat} {r : Rc}
theorem MS.keep (h : MS rs A' B' E0 A0 w0 S g w u) (D : Dr P rec ops n masks rs σ' A' B') (hr : rs[t]? = some r) (hk : r.p.k ≠ .ch) (hf : r.p.k = .fl → r.tk = false) (k1 : Rel g (bhF rs B' u) w1) (k2 : To E0 A0 w0 g (bhF rs B' u) w1)
    (k3 : ∀ x, x < w.heap.size → (∀ b o, (bhF rs B' u).get b = some o → (g b).blk ≠ x) → w1.heap[x]? = w.heap[x]?) : MS rs A' B' E0 A0 w0 (fun j => S j || j == r.p.i) g w1 u := by
  have back : ∀ (x : Nat) (q : Rc), Early rs (fun j => S j || j == r.p.i) u x q → Early rs S u x q := by
    intro x q hq
    refine ⟨hq.at_, hq.fl, hq.tk, ?_, hq.seg⟩
    rcases or_eq_true.1 hq.up with h1 | h1
    · exact h1
    · have := D.inj x t q r hq.at_ hr h1
      subst this
      have e := hq.at_
      rw [hr] at e
      cases e
      have := hf hq.fl
      rw [hq.tk] at this; cases this
  refine ⟨h.le, fun q hq => ?_, fun x q hx hq hqk => or_eq_true.2 (.inl (h.cur2 x q hx hq hqk)), k1, k2, fun x q hq => ?_, fun x q x' q' hq hq' hne => h.dist x q x' q' (back x q hq) (back x' q' hq') hne⟩
  · obtain ⟨c1, c2⟩ := h.cur1 q hq
    refine ⟨c1, ?_⟩
    have : q.p.i ≠ r.p.i := fun e => by
      have := D.inj u t q r hq hr e
      subst this
      rw [hr] at hq; cases hq
      exact hk c1
    simp [c2, this]
  · obtain ⟨ob, c, e, hw, hro, hc, hl, hnew, hfree⟩ := h.fl x q (back x q hq)
    exact ⟨ob, c, e, hw, hro, (k3 _ (Array.getElem?_eq_some_iff.1 hc).1 hfree).trans hc, hl, hnew, hfree⟩
theorem MS.quietStep (h : MS rs A' B' E0 A0 w0 S g w u) (D : Dr P rec ops n masks rs σ' A' B') (hs0 : SWf (ahF rs A' 0).nf (sgF rs σ' 0)) (hr : rs[t]? = some r) (hk : r.p.k = .pure ∨ r.p.k = .read) (htk : r.tk = true) (hU : Ups ops (preM masks) r.p.i S) :
    notDefer r.p.o.op = true ∧ ∃ w1, (execOp (ev n (slots n g r.σ)) r.p.o).run P w = .ok (.value (ren g r.v)) w1 ∧ MS rs A' B' E0 A0 w0 (fun j => S j || j == r.p.i) g w1 u := by
  -- the heap in which it is evaluated
  obtain ⟨hh, hxq, hcase⟩ : ∃ hh, xq P r.p.o n r.σ hh = some r.v ∧ (hh = .e ∨ hh = (bhF rs B' u).h) := by
    rcases hk with hk | hk
    · have := (D.step t r hr).on htk
      unfold xone at this
      rw [show kindOf r.p.o.op = .pure from hk] at this
      obtain ⟨v, hv, e⟩ := map_some this
      simp only [Prod.mk.injEq] at e
      rw [e.1] at hv
      exact ⟨.e, hv, .inl rfl⟩
    · refine ⟨_, (D.chk t r u hr h.bnd (.inr hk) (fun j q hq hqk hm => ?_) (fun j q hq hqk hm => ?_)).2 hk htk, .inr rfl⟩
      · exact h.chain D hU.down hq hqk (hU.already q.p.i (by rw [D.pre hr]; exact hm))
      · rcases Nat.lt_or_ge j u with h2 | h2
        · have a1 := h.cur2 j q h2 hq hqk
          have a2 := hU.notYet q.p.i (D.ilt hq) (by rw [D.pre hq]; exact hm)
          rw [a1] at a2; cases a2
        · exact h2
  unfold xq at hxq
  split at hxq
  · rename_i v Bx hx
    cases hxq
    have hBx := quiet_heap hk hx
    subst hBx
    have hbig : (bhF rs B' u).nf ≤ BIG := Nat.le_trans (D.bnf u h.le) (D.bignf h.le)
    have hR : Rel g ⟨hh, BIG⟩ w := by
      rcases hcase with rfl | rfl
      · exact h.rel.none (Nat.le_trans h.rel.low hbig)
      · exact h.rel.less hbig
    have hsw : SWf BIG r.σ := by
      have := D.swf hs0 t (Nat.le_of_lt (lt_at hr))
      rw [sgF_at hr] at this
      exact this.mono (D.bignf (Nat.le_of_lt (lt_at hr)))
    have hdoes := xop_sound (P := P) r.p.o.op g ⟨hh, BIG⟩ ⟨hh, BIG⟩ w (xev n r.σ) n (slots n g r.σ) (.val r.v) r.p.o.dst r.p.o.type r.p.o.pos r.p.o.after r.p.o.guard hR (xev_ok hR hsw) hx
    obtain ⟨E1, w1, hrun, h1, t1, hv⟩ := hdoes
    refine ⟨xop_notDefer hx, w1, ?_, ?_⟩
    · have e : ren E1 r.v = ren g r.v := ren_ext t1.ext r.v hv
      have : XR.next E1 (.val r.v) = .value (ren g r.v) := by simp only [XR.next, e]
      rw [← this]
      exact hrun
    · refine h.keep D hr (by rcases hk with hk | hk <;> rw [hk] <;> simp) (by rcases hk with hk | hk <;> rw [hk] <;> simp) ?_ ?_ ?_
      · rcases hcase with rfl | rfl
        · exact ⟨fun b o hb => by
            obtain ⟨c, hc, hl⟩ := h.rel.obj b o hb
            exact ⟨c, (t1.blk _ (h.rel.lt hb) fun b' o' hb' => by cases hb').trans hc, hl⟩, h.rel.inj, h.rel.wf, h.rel.glob, h.rel.low⟩
        · exact ⟨fun b o hb => by
            obtain ⟨c, hc, hl⟩ := h1.obj b o hb
            have hw := h1.wf b o hb
            have e : E1 b = g b := t1.ext b hw.1
            rw [e] at hc hl
            exact ⟨c, hc, hl.ext (fun b' hb' => (t1.ext b' hb').symm) hw.2⟩, h.rel.inj, h.rel.wf, h.rel.glob, h.rel.low⟩
      · rcases hcase with rfl | rfl
        · exact ⟨h.to.nf, h.to.ext, t1.os.trans h.to.os, t1.tape.trans h.to.tape, t1.output.trans h.to.output, Nat.le_trans h.to.size t1.size,
            fun x hx hn => (t1.blk x (Nat.lt_of_lt_of_le hx h.to.size) fun b' o' hb' => by cases hb').trans (h.to.blk x hx hn), h.to.mine⟩
        · have T1 : To E0 A0 w0 g ⟨(bhF rs B' u).h, BIG⟩ w := ⟨Nat.le_trans h.to.nf hbig, h.to.ext, h.to.os, h.to.tape, h.to.output, h.to.size, h.to.blk, h.to.mine⟩
          have T2 := (T1.trans t1).env h1 fun b hb => (t1.ext b hb).symm
          exact ⟨h.to.nf, T2.ext, T2.os, T2.tape, T2.output, T2.size, T2.blk, T2.mine⟩
      · intro x hx hn
        refine t1.blk x hx fun b o hb _ => ?_
        rcases hcase with rfl | rfl
        · cases hb
        · exact hn b o hb
  · cases hxq
theorem MS.flStep (h : MS rs A' B' E0 A0 w0 S g w u) (D : Dr P rec ops n masks rs σ' A' B') (hs0 : SWf (ahF rs A' 0).nf (sgF rs σ' 0)) (hr : rs[t]? = some r) (hk : r.p.k = .fl) (htk : r.tk = true) (hU : Ups ops (preM masks) r.p.i S) :
    notDefer r.p.o.op = true ∧ ∃ w1 g', (execOp (ev n (slots n g r.σ)) r.p.o).run P w = .ok (.value (ren g' r.v)) w1 ∧ MS rs A' B' E0 A0 w0 (fun j => S j || j == r.p.i) g' w1 u ∧ ∀ k f, (VV ops rs)[k]? = some f → S k = true → f g' = f g := by
  have htl := lt_at hr
  -- it does not stand ahead of an operation on memory that has come up
  have hsg : ∀ (x : Nat) (q : Rc), t ≤ x → x < u → rs[x]? = some q → q.p.k ≠ .ch := by
    intro x
    induction x using Nat.strongRecOn with
    | _ x ih =>
      intro q hx hxu hq hqk
      have hne : t ≠ x := by rintro rfl; rw [hr] at hq; cases hq; rw [hk] at hqk; cases hqk
      have hp := D.flo t x r q hr hq (by omega) hk hqk fun y p hy hy' hp => ih y hy' p (by omega) (by omega) hp
      have a1 := h.cur2 x q hxu hq hqk
      have a2 := hU.notYet q.p.i (D.ilt hq) (by rw [D.pre hq]; exact hp)
      rw [a1] at a2; cases a2
  have hlow : (bhF rs B' u).nf ≤ r.A.nf := by
    have := D.low h.le (Nat.le_of_lt htl) hsg
    rwa [ahF_at hr] at this
  obtain ⟨ob, B, e1, hx, rfl, hw0, hro, hok, hnm⟩ := D.made hr hk htk
  have hGB : GB ≤ r.A.nf := Nat.le_trans h.rel.low hlow
  have hR : Rel g ⟨.e, r.A.nf⟩ w := h.rel.none hGB
  have hsw : SWf r.A.nf r.σ := by
    have := D.swf hs0 t (Nat.le_of_lt htl)
    rwa [sgF_at hr, ahF_at hr] at this
  have hdoes := xop_sound (P := P) r.p.o.op g ⟨.e, r.A.nf⟩ _ w (xev n r.σ) n (slots n g r.σ) (.val r.v) r.p.o.dst r.p.o.type r.p.o.pos r.p.o.after r.p.o.guard hR (xev_ok hR hsw) hx
  obtain ⟨E1, w1, hrun, h1, t1, hv⟩ := hdoes
  have hgetN : ((⟨.e, r.A.nf⟩ : AH).add ob).get r.A.nf = some ob := by rw [get_add, if_pos rfl]
  obtain ⟨c, hc, hl⟩ := h1.obj _ _ hgetN
  have hnew : w.heap.size ≤ (E1 r.A.nf).blk := by
    rcases t1.mine _ _ hgetN with ⟨c', oc, hc', _⟩ | hs
    · cases hc'
    · exact hs
  have keepw : ∀ x, x < w.heap.size → w1.heap[x]? = w.heap[x]? := fun x hx => t1.blk x hx fun b' o' hb' => by cases hb'
  have gne : ∀ b, b ≠ r.A.nf → upE g r.A.nf (E1 r.A.nf) b = g b := fun b hb => upE_ne g _ hb
  have glt : ∀ b, b < (bhF rs B' u).nf → upE g r.A.nf (E1 r.A.nf) b = g b := fun b hb => gne b (by omega)
  -- other new blocks have other names
  have gfl : ∀ (x : Nat) (q : Rc), rs[x]? = some q → q.p.k = .fl → q.tk = true → S q.p.i = true → upE g r.A.nf (E1 r.A.nf) q.A.nf = g q.A.nf := by
    intro x q hq hqk hqt hS
    refine gne _ ?_
    refine D.names_ne hq hr hqk hqt hk htk fun e => ?_
    subst e
    rw [hr] at hq; cases hq
    rw [hU.self] at hS; cases hS
  refine ⟨xop_notDefer hx, w1, upE g r.A.nf (E1 r.A.nf), ?_, ?_, h.stab D hU.down glt gfl⟩
  · have e : ren E1 r.v = ren (upE g r.A.nf (E1 r.A.nf)) r.v := okv_ren (fun b hb => by
      rcases hb with hb | hb
      · omega
      · simp only [List.mem_singleton] at hb
        subst hb
        rw [upE_self]) r.v hok
    have : XR.next E1 (.val r.v) = .value (ren (upE g r.A.nf (E1 r.A.nf)) r.v) := by simp only [XR.next, e]
    rw [← this]
    exact hrun
  · have rel1 : Rel (upE g r.A.nf (E1 r.A.nf)) (bhF rs B' u) w1 := by
      refine Rel.env (E := g) ⟨fun b o hb => ?_, h.rel.inj, h.rel.wf, h.rel.glob, h.rel.low⟩ glt
      obtain ⟨c', hc', hl'⟩ := h.rel.obj b o hb
      exact ⟨c', (keepw _ (h.rel.lt hb)).trans hc', hl'⟩
    have hA0 : A0.nf ≤ (bhF rs B' u).nf := h.to.nf
    refine ⟨h.le, fun q hq => ?_, fun x q hx hq hqk => or_eq_true.2 (.inl (h.cur2 x q hx hq hqk)), rel1, ?_, fun x q hq => ?_, fun x q x' q' hq hq' hne => ?_⟩
    · obtain ⟨c1, c2⟩ := h.cur1 q hq
      refine ⟨c1, ?_⟩
      have : q.p.i ≠ r.p.i := fun e => by
        have := D.inj u t q r hq hr e
        subst this
        rw [hr] at hq; cases hq
        rw [hk] at c1; cases c1
      simp [c2, this]
    · refine ⟨h.to.nf, fun b hb => (glt b (by omega)).trans (h.to.ext b hb), t1.os.trans h.to.os, t1.tape.trans h.to.tape, t1.output.trans h.to.output, Nat.le_trans h.to.size t1.size,
        fun x hx hn => (keepw x (Nat.lt_of_lt_of_le hx h.to.size)).trans (h.to.blk x hx hn), fun b o hb => ?_⟩
      rw [glt b (h.rel.wf b o hb).1]
      exact h.to.mine b o hb
    · by_cases hxt : x = t
      · subst hxt
        have e := hq.at_
        rw [hr] at e
        cases e
        refine ⟨ob, c, e1, hw0, hro, by rw [upE_self]; exact hc, by rw [upE_self]; exact hl.ext (k := 0) (fun b hb => by omega) hw0, by rw [upE_self]; exact Nat.le_trans h.to.size hnew, fun b o hb => ?_⟩
        rw [upE_self, glt b (h.rel.wf b o hb).1]
        have := h.rel.lt hb
        omega
      · have hS : S q.p.i = true := by
          rcases or_eq_true.1 hq.up with h2 | h2
          · exact h2
          · exact absurd (D.inj x t q r hq.at_ hr h2) hxt
        obtain ⟨ob', c', e', hw', hro', hc', hl', hnew', hfree'⟩ := h.fl x q ⟨hq.at_, hq.fl, hq.tk, hS, hq.seg⟩
        have hgx := gfl x q hq.at_ hq.fl hq.tk hS
        refine ⟨ob', c', e', hw', hro', by rw [hgx]; exact (keepw _ (Array.getElem?_eq_some_iff.1 hc').1).trans hc', by rw [hgx]; exact hl'.ext (k := 0) (fun b hb => by omega) hw', by rw [hgx]; exact hnew', fun b o hb => ?_⟩
        rw [hgx, glt b (h.rel.wf b o hb).1]
        exact hfree' b o hb
    · have old : ∀ (y : Nat) (p : Rc), Early rs (fun j => S j || j == r.p.i) u y p → y ≠ t → Early rs S u y p := by
        intro y p hp hy
        refine ⟨hp.at_, hp.fl, hp.tk, ?_, hp.seg⟩
        rcases or_eq_true.1 hp.up with h2 | h2
        · exact h2
        · exact absurd (D.inj y t p r hp.at_ hr h2) hy
      have lt_old : ∀ (y : Nat) (p : Rc), Early rs S u y p → (g p.A.nf).blk < w.heap.size := by
        intro y p hp
        obtain ⟨_, c', _, _, _, hc', _⟩ := h.fl y p hp
        exact (Array.getElem?_eq_some_iff.1 hc').1
      by_cases hx1 : x = t
      · have hx2 : x' ≠ t := fun e => hne (hx1.trans e.symm)
        have o2 := old x' q' hq' hx2
        have := lt_old x' q' o2
        subst hx1
        have e := hq.at_
        rw [hr] at e
        cases e
        rw [upE_self, gfl x' q' o2.at_ o2.fl o2.tk o2.up]
        omega
      · have o1 := old x q hq hx1
        by_cases hx2 : x' = t
        · have := lt_old x q o1
          subst hx2
          have e := hq'.at_
          rw [hr] at e
          cases e
          rw [upE_self, gfl x q o1.at_ o1.fl o1.tk o1.up]
          omega
        · have o2 := old x' q' hq' hx2
          rw [gfl x q o1.at_ o1.fl o1.tk o1.up, gfl x' q' o2.at_ o2.fl o2.tk o2.up]
          exact h.dist x q x' q' o1 o2 hne
theorem xreg_ok (hm : P.follows .mixedOrders = true) : RegOk P (xreg P) := by
  intro k rec hrec q ops n σ A σ' A' hx E w r id hq h hs ds Q K
  obtain ⟨masks, rs, B', D, hsg0, hah0⟩ := xreg_dr hx
  have hs0 : SWf (ahF rs A' 0).nf (sgF rs σ' 0) := by rw [hsg0, hah0]; exact hs
  have hgE : ∀ {S g w1 u}, MS rs A' B' E A w S g w1 u → ∀ b, b < (ahF rs A' 0).nf → g b = E b := fun hM b hb => hM.to.ext b (by rw [hah0] at hb; exact hb)
  obtain ⟨u0, hu1, hu2, hu3, hu4⟩ := next_bnd rs rs.length 0 (by omega)
  have hb0 : bhF rs B' u0 = A := by rw [← D.ground hu1 hu2 hu4, ← D.same, hah0]
  have e0 : slots n E σ = slots n E (sgF rs σ' 0) := by rw [hsg0]
  rw [e0]
  refine rgdS (Γ := Env) hm (preM masks) D.regf (VV ops rs) VV_len (fun S g w1 => ∃ u, MS rs A' B' E A w S g w1 u) E ?_ ?_ ?_
  · refine ⟨u0, hu2, fun r hr => ⟨?_, rfl⟩, fun t r ht hr hk => absurd hk (hu4 t r (Nat.zero_le _) ht hr), by rw [hb0]; exact h.drew.1, by rw [hb0]; exact h.drew.2, fun t r he => ?_, fun t r t' r' he => ?_⟩
    · rcases hu3 with h1 | ⟨r', hr', hk⟩
      · have := lt_at hr; omega
      · rw [hr] at hr'; cases hr'; exact hk
    · exact absurd he.up (by simp)
    · exact absurd he.up (by simp)
  · rintro i o v S g w1 ho hv hU ⟨u, hM⟩
    have hil : i < ops.length := (List.getElem?_eq_some_iff.1 ho).1
    obtain ⟨t, rc, hr, rfl⟩ := D.all i hil
    have hro := (D.ent t rc hr).1
    rw [ho] at hro
    cases hro
    rw [VV_at hil] at hv
    cases hv
    refine ⟨slots n g rc.σ, D.looks hs0 (hgE hM) hr hU, ?_⟩
    have htl := lt_at hr
    have hst := D.step t rc hr
    have hsw : SWf rc.A.nf rc.σ := by
      have := D.swf hs0 t (Nat.le_of_lt htl)
      rwa [sgF_at hr, ahF_at hr] at this
    simp only [D.val hr]
    -- the guard
    have htaken : takenB ops.toArray n (slots n g rc.σ) rc.p.o.guard = rc.tk := by
      have hbig : (bhF rs B' u).nf ≤ BIG := Nat.le_trans (D.bnf u hM.le) (D.bignf hM.le)
      have hsb : SWf BIG rc.σ := by
        have := D.bignf (Nat.le_of_lt htl)
        rw [ahF_at hr] at this
        exact hsw.mono this
      rw [hst.tk]
      exact xtaken_eq (A := ⟨(bhF rs B' u).h, BIG⟩) (hM.rel.less hbig) hsb ops rc.p.o.guard
    cases htk : rc.tk with
    | false =>
      refine .inr ⟨htaken.trans htk, ?_⟩
      obtain ⟨hv, hA⟩ := hst.off htk
      by_cases hk : rc.p.k = .ch
      · obtain ⟨rfl, hrel, hnext⟩ := hM.chainStep D hr hk hU
        have hAA : ahF rs A' (u + 1) = ahF rs A' u := by rw [hA, ahF_at hr]
        obtain ⟨g', hM', hgg, hstab⟩ := hnext g w1 (by rw [hAA]; exact hrel) (by rw [hAA]; exact To.refl _ _ _)
        exact ⟨g', hM', by rw [hv, undef_ren], hstab⟩
      · exact ⟨g, ⟨u, hM.keep D hr hk (fun _ => htk) hM.rel hM.to fun x _ _ => rfl⟩, by rw [hv, undef_ren], fun _ _ _ _ => rfl⟩
    | true =>
      have htaken := htaken.trans htk
      cases hk : rc.p.k with
      | pure =>
        obtain ⟨hnd, w2, hrun, hM'⟩ := hM.quietStep D hs0 hr (.inl hk) htk hU
        exact .inl ⟨htaken, hnd, .inl ⟨_, w2, hrun, g, ⟨u, hM'⟩, rfl, fun _ _ _ _ => rfl⟩⟩
      | read =>
        obtain ⟨hnd, w2, hrun, hM'⟩ := hM.quietStep D hs0 hr (.inr hk) htk hU
        exact .inl ⟨htaken, hnd, .inl ⟨_, w2, hrun, g, ⟨u, hM'⟩, rfl, fun _ _ _ _ => rfl⟩⟩
      | fl =>
        obtain ⟨hnd, w2, g', hrun, hM', hstab⟩ := hM.flStep D hs0 hr hk htk hU
        exact .inl ⟨htaken, hnd, .inl ⟨_, w2, hrun, g', ⟨u, hM'⟩, rfl, hstab⟩⟩
      | ch =>
        obtain ⟨rfl, hrel, hnext⟩ := hM.chainStep D hr hk hU
        have hon := hst.on htk
        unfold xone at hon
        rw [show kindOf rc.p.o.op = .ch from hk] at hon
        simp only at hon
        rw [ahF_at hr] at hrel
        obtain ⟨hnd, hob⟩ := xdo_oob hrec hon hrel hsw (Nx := fun v' w' => ∃ g', (∃ u, MS rs A' B' E A w (fun j => S j || j == rc.p.i) g' w' u) ∧ v' = ren g' rc.v ∧ ∀ k f, (VV ops rs)[k]? = some f → S k = true → f g' = f g) (fun E1 w2 h1 t1 hv => by
          obtain ⟨g', hM', hgg, hstab⟩ := hnext E1 w2 h1 (by rw [ahF_at hr]; exact t1)
          exact ⟨g', hM', (ren_ext hgg rc.v hv).symm, hstab⟩)
        exact .inl ⟨htaken, hnd, hob⟩
  · rintro S g w1 hall ⟨u, hM⟩
    have hu : u = rs.length := by
      rcases Nat.lt_or_ge u rs.length with h1 | h1
      · obtain ⟨rc, hr⟩ := at_lt h1
        have := (hM.cur1 rc hr).2
        rw [hall _ (D.ilt hr)] at this; cases this
      · exact Nat.le_antisymm hM.le h1
    subst hu
    obtain ⟨j1, j2, _⟩ := hM.join D fun t rc _ hr _ _ => hall _ (D.ilt hr)
    rw [ahF_end (Nat.le_refl _)] at j1 j2
    have hend : sgF rs σ' rs.length = σ' := by unfold sgF; rw [List.getElem?_eq_none (Nat.le_refl _)]
    have hsw := D.swf hs0 rs.length (Nat.le_refl _)
    rw [hend, ahF_end (Nat.le_refl _)] at hsw
    have := K g w1 j1 j2 hsw
    have hfr : Fr n (slots n g σ') ds = Fr n (slS (fun _ => true) 0 ops ((VV ops rs).map (· g)) (slots n E (sgF rs σ' 0))) ds := by
      refine Fr_ext' ds fun s hsn => ?_
      have h1 := D.slotsAt hs0 (hgE hM) rs.length (Nat.le_refl _) s hsn
      rw [hend] at h1
      rw [h1, look_slS, look_slS]
      congr 1
      refine lastW_congr ops 0 _ _ rfl fun j oj hj _ => ⟨?_, fun _ => rfl⟩
      rw [Nat.zero_add]
      obtain ⟨t, rc, hr, e⟩ := D.all j (List.getElem?_eq_some_iff.1 hj).1
      exact plc_true.2 ⟨t, rc, lt_at hr, hr, e⟩
    rw [← hfr]
    exact this
end
end Go.Ex
namespace Go.Ex
open Go Go.Sx
noncomputable section
def isTrue : Option Out → Bool
  | some (.call (.bool true) _) => true
  | _ => false
def AH.none : AH := ⟨.e, GB⟩
def E00 : Env := fun b => ⟨b, 0, 0⟩
theorem rel_none (w : World) : Rel E00 AH.none w :=
  ⟨fun b o hb => (by cases hb), fun b b' o o' hb => (by cases hb), fun b o hb => (by cases hb), fun b _ => rfl, Nat.le_refl _⟩
theorem To.chg {E E' : Env} {A A' : AH} {w w' : World} (h : To E A w E' A' w') (hA : ∀ b o, A.get b = some o → o.ro = true) : Chg [] w w' :=
  ⟨h.os, h.tape, h.output, h.size, fun x hx _ => h.blk x hx fun b o hb hr => by rw [hA b o hb] at hr; cases hr⟩
theorem closed_true {P : Program} (hm : P.follows .mixedOrders = true) {k : Nat} {f : FuncId} (h : isTrue (run P (xreg P) k (.call f [] AH.none)) = true) (w : World) : CR P f #[] w (fun v w' => v = .bool true ∧ Chg [] w w') := by
  unfold isTrue at h
  split at h
  · rename_i A' hr
    have hc : CallOk P f [] AH.none (.bool true) A' := run_sound (xreg_ok hm) k _ _ hr
    refine CR.mono (hc E00 w (rel_none w) (by simp [nmL])) ?_
    rintro v w' ⟨E', rfl, _, t, _⟩
    exact ⟨rfl, t.chg fun b o hb => by cases hb⟩
  · cases h
end
end Go.Ex
namespace Go.Ex
open Go Go.Sx
noncomputable section
def AH.glob : List (Nat × List Value) → AH
  | [] => AH.none
  | (g, cs) :: l => (AH.glob l).set g (.cells cs 0 Option.none true)
theorem glob_get : ∀ (l : List (Nat × List Value)) (b : Nat) (o : AO), (AH.glob l).get b = some o → ∃ p ∈ l, b = p.1 ∧ o = .cells p.2 0 Option.none true
  | [], b, o, h => by cases h
  | (g, cs) :: l, b, o, h => by
    rw [AH.glob, get_set] at h
    split at h
    · rename_i e; cases h; exact ⟨(g, cs), List.mem_cons_self .., e, rfl⟩
    · obtain ⟨p, hp, h1⟩ := glob_get l b o h
      exact ⟨p, List.mem_cons_of_mem _ hp, h1⟩
theorem glob_nf : ∀ l : List (Nat × List Value), (AH.glob l).nf = GB
  | [] => rfl
  | (g, cs) :: l => glob_nf l
def GlobOk (w : World) (p : Nat × List Value) : Prop := p.1 < GB ∧ nmL p.2 = 0 ∧ p.2 ≠ [] ∧ ∀ j u, p.2[j]? = some u → w.cell? ⟨p.1, j, none⟩ = some u
theorem rel_glob {l : List (Nat × List Value)} {w : World} (h : ∀ p ∈ l, GlobOk w p) : Rel E00 (AH.glob l) w := by
  refine ⟨fun b o hb => ?_, fun b b' o o' hb hb' e => e, fun b o hb => ?_, fun b _ => rfl, by rw [glob_nf]; exact Nat.le_refl _⟩
  · obtain ⟨p, hp, rfl, rfl⟩ := glob_get l b o hb
    obtain ⟨h1, h2, h3, h4⟩ := h p hp
    obtain ⟨u, hu⟩ : ∃ u, p.2[0]? = some u := by
      cases hc : p.2 with
      | nil => exact absurd hc h3
      | cons u us => exact ⟨u, rfl⟩
    have hc := h4 0 u hu
    obtain ⟨arr, T', mk, hh⟩ : ∃ arr T' mk, w.heap[p.1]? = some (.cells arr T' mk) := by
      simp only [World.cell?] at hc
      split at hc
      · rename_i a b c hx; exact ⟨_, _, _, hx⟩
      · cases hc
    refine ⟨_, hh, arr, T', mk, rfl, fun j v hv => ?_⟩
    have := h4 j v hv
    rw [cell_of_row w p.1 j arr T' mk hh] at this
    have hz : ren E00 v = v := ren_id v (by have := nmL_le.1 (by omega : nmL p.2 ≤ 0) v (List.mem_of_getElem? hv); omega) E00
    rw [hz]
    simpa [E00] using this
  · obtain ⟨p, hp, rfl, rfl⟩ := glob_get l b o hb
    obtain ⟨h1, h2, h3, h4⟩ := h p hp
    rw [glob_nf]
    exact ⟨h1, by simp only [AO.Wf]; omega⟩
theorem closed_glob {P : Program} (hm : P.follows .mixedOrders = true) {l : List (Nat × List Value)} {k : Nat} {f : FuncId} (h : isTrue (run P (xreg P) k (.call f [] (AH.glob l))) = true) (w : World) (hg : ∀ p ∈ l, GlobOk w p) :
    CR P f #[] w (fun v w' => v = .bool true ∧ Chg [] w w') := by
  unfold isTrue at h
  split at h
  · rename_i A' hr
    have hc : CallOk P f [] (AH.glob l) (.bool true) A' := run_sound (xreg_ok hm) k _ _ hr
    refine CR.mono (hc E00 w (rel_glob hg) (by simp [nmL])) ?_
    rintro v w' ⟨E', rfl, _, t, _⟩
    exact ⟨rfl, t.chg fun b o hb => by obtain ⟨p, _, _, rfl⟩ := glob_get l b o hb; rfl⟩
  · cases h
theorem arr_cells {P : Program} {H : Type} {enc : TypeId × Value → H} {w : World} {base : Nat} {sp : Nat → Bool} {hd : Bool} {fuel : Nat} {t e : TypeId} {n : Nat} {k : IntKind} {cs : List Value} {pl : List MemPlace} {xs : List Int}
    (ht : P.underlying t = some (.array n e)) (he : P.underlying e = some (.int k)) (hc : P.cellsOf e = 1) (h : DataW.trod enc P w base sp hd fuel t cs = some (.agg (xs.map fun x => .lit (.int k x)), pl)) (hx : xs.length = n) :
    ∀ (j : Nat) (x : Int), xs[j]? = some x → cs[j]? = some (.int k x) := by
  obtain ⟨ys, m, rfl, hy, hl, hn, hel⟩ := DataW.trod_array ht h
  simp only [Prod.mk.injEq, DataW.agg.injEq] at hy
  intro j x hj
  have hjn : j < n := by have := (List.getElem?_eq_some_iff.1 hj).1; omega
  have h1 := hel j hjn
  rw [hc, Nat.mul_one] at h1
  obtain ⟨y, hy1⟩ : ∃ y, ys[j]? = some y := ⟨_, List.getElem?_eq_getElem (by omega)⟩
  rw [hy1] at h1
  obtain ⟨q, e1, e2, _⟩ := DataW.trod_int he h1
  have h2 : (ys.map (·.1))[j]? = some (.lit (.int k x)) := by rw [← hy.1]; simp [hj]
  rw [List.getElem?_map, hy1] at h2
  simp only [Option.map_some, e2, Option.some.injEq] at h2
  have h3 : q = x := by
    have := h2
    simp only [DataW.lit.injEq, Lit.int.injEq, true_and] at this
    exact this
  subst h3
  have h4 : ((cs.drop j).take 1)[0]? = some (.int k q) := by rw [e1]; rfl
  simpa [List.getElem?_take] using h4
end
end Go.Ex
namespace Go.Ex
open Go Go.Sx
noncomputable section
def eseq : List (Value × Value × Nat) → List (Value × Value × Nat) → Bool
  | [], [] => true
  | (a, b, c) :: l, (a', b', c') :: l' => veq a a' && (veq b b' && (Nat.beq c c' && eseq l l'))
  | _, _ => false
theorem eseq_eq : ∀ l l' : List (Value × Value × Nat), eseq l l' = true → l = l'
  | [], [], _ => rfl
  | (a, b, c) :: l, (a', b', c') :: l', h => by
    simp only [eseq, Bool.and_eq_true] at h
    rw [veq_eq _ _ h.1, veq_eq _ _ h.2.1, Nat.eq_of_beq_eq_true h.2.2.1, eseq_eq _ _ h.2.2.2]
  | [], _ :: _, h => by simp [eseq] at h
  | _ :: _, [], h => by simp [eseq] at h
def opeq : Option Nat → Option Nat → Bool
  | none, none => true
  | some a, some b => Nat.beq a b
  | _, _ => false
theorem opeq_eq : ∀ a b : Option Nat, opeq a b = true → a = b
  | none, none, _ => rfl
  | some a, some b, h => by rw [Nat.eq_of_beq_eq_true h]
  | none, some _, h => by cases h
  | some _, none, h => by cases h
def beqB : Bool → Bool → Bool
  | true, b => b
  | false, b => !b
theorem beqB_eq : ∀ a b : Bool, beqB a b = true → a = b
  | true, true, _ => rfl
  | false, false, _ => rfl
def holds : Option AO → AO → Bool
  | some (.cells cs T op ro), .cells cs' T' op' ro' => Nat.beq T T' && (opeq op op' && (beqB ro ro' && veqL cs cs'))
  | some (.map es c), .map es' c' => Nat.beq c c' && eseq es es'
  | _, _ => false
theorem holds_eq : ∀ (a : Option AO) (o : AO), holds a o = true → a = some o
  | some (.cells cs T op ro), .cells cs' T' op' ro', h => by
    simp only [holds, Bool.and_eq_true] at h
    rw [Nat.eq_of_beq_eq_true h.1, opeq_eq _ _ h.2.1, beqB_eq _ _ h.2.2.1, veqL_eq _ _ h.2.2.2]
  | some (.map es c), .map es' c', h => by
    simp only [holds, Bool.and_eq_true] at h
    rw [Nat.eq_of_beq_eq_true h.1, eseq_eq _ _ h.2]
  | none, _, h => by simp [holds] at h
  | some (.loop ..), _, h => by simp [holds] at h
  | some (.done ..), _, h => by simp [holds] at h
  | some (.miter ..), _, h => by simp [holds] at h
  | some .dfr, _, h => by simp [holds] at h
  | some (.cells ..), .map .., h => by simp [holds] at h
  | some (.cells ..), .loop .., h => by simp [holds] at h
  | some (.cells ..), .done .., h => by simp [holds] at h
  | some (.cells ..), .miter .., h => by simp [holds] at h
  | some (.cells ..), .dfr, h => by simp [holds] at h
  | some (.map ..), .cells .., h => by simp [holds] at h
  | some (.map ..), .loop .., h => by simp [holds] at h
  | some (.map ..), .done .., h => by simp [holds] at h
  | some (.map ..), .miter .., h => by simp [holds] at h
  | some (.map ..), .dfr, h => by simp [holds] at h
def holdsL (A : AH) : List (Nat × AO) → Bool
  | [] => true
  | (b, o) :: l => holds (A.get b) o && holdsL A l
theorem holdsL_mem {A : AH} : ∀ {l : List (Nat × AO)}, holdsL A l = true → ∀ p ∈ l, A.get p.1 = some p.2
  | (b, o) :: l, h, p, hp => by
    simp only [holdsL, Bool.and_eq_true] at h
    rcases List.mem_cons.1 hp with rfl | hp
    · exact holds_eq _ _ h.1
    · exact holdsL_mem h.2 p hp
def putsL (t : Tr PO) : List (Nat × AO) → Tr PO
  | [] => t
  | (b, o) :: l => (putsL t l).put b (some (PO.of o))
theorem putsL_get (t : Tr PO) (n n' : Nat) : ∀ (l : List (Nat × AO)) (b : Nat) (o : AO), (⟨putsL t l, n⟩ : AH).get b = some o → (b, o) ∈ l ∨ ((∀ p ∈ l, p.1 ≠ b) ∧ (⟨t, n'⟩ : AH).get b = some o)
  | [], b, o, h => .inr ⟨fun p hp => (by cases hp), h⟩
  | (b', o') :: l, b, o, h => by
    rw [putsL, AH.get_mk (n' := n), PO.to_of] at h
    split at h
    · rename_i e; cases h; subst e; exact .inl (List.mem_cons_self ..)
    · rename_i e
      rcases putsL_get t n n' l b o h with h1 | ⟨h1, h2⟩
      · exact .inl (List.mem_cons_of_mem _ h1)
      · refine .inr ⟨fun p hp => ?_, h2⟩
        rcases List.mem_cons.1 hp with rfl | hp
        · exact Ne.symm e
        · exact h1 p hp
def putsC (t : Tr PO) : List (Nat × Option AO) → Tr PO
  | [] => t
  | (b, o) :: l => (putsC t l).put b (match o with | some o => some (PO.of o) | none => none)
theorem putsC_get (t : Tr PO) (n n' : Nat) : ∀ (l : List (Nat × Option AO)) (b : Nat) (o : AO), (⟨putsC t l, n⟩ : AH).get b = some o → (b, some o) ∈ l ∨ ((∀ p ∈ l, p.1 ≠ b) ∧ (⟨t, n'⟩ : AH).get b = some o)
  | [], b, o, h => .inr ⟨fun p hp => (by cases hp), h⟩
  | (b', o') :: l, b, o, h => by
    have key : b ≠ b' → (⟨putsC t l, n⟩ : AH).get b = some o → (b, some o) ∈ (b', o') :: l ∨ ((∀ p ∈ (b', o') :: l, p.1 ≠ b) ∧ (⟨t, n'⟩ : AH).get b = some o) := fun e h => by
      rcases putsC_get t n n' l b o h with h1 | ⟨h1, h2⟩
      · exact .inl (List.mem_cons_of_mem _ h1)
      · refine .inr ⟨fun p hp => ?_, h2⟩
        rcases List.mem_cons.1 hp with rfl | hp
        · exact Ne.symm e
        · exact h1 p hp
    cases o' with
    | some o' =>
      simp only [putsC] at h
      rw [AH.get_mk (n' := n), PO.to_of] at h
      split at h
      · rename_i e; cases h; subst e; exact .inl (List.mem_cons_self ..)
      · rename_i e; exact key e h
    | none =>
      have h' : ((⟨putsC t l, n⟩ : AH).strike b').get b = some o := h
      rw [get_strike] at h'
      split at h'
      · cases h'
      · rename_i e; exact key e h'
structure Ent where
  f : Nat
  nf : Nat
  args : List Value
  pre : List (Nat × AO)
  v : Value
  chg : List (Nat × Option AO)
  nf' : Nat
def hasN (b : Nat) : List (Nat × Option AO) → Bool
  | [] => false
  | (b', _) :: l => Nat.beq b b' || hasN b l
theorem hasN_mem {b : Nat} : ∀ {l : List (Nat × Option AO)}, hasN b l = true → ∃ o, (b, o) ∈ l
  | (b', o) :: l, h => by
    simp only [hasN, Bool.or_eq_true] at h
    rcases h with h | h
    · have := Nat.eq_of_beq_eq_true h; subst this; exact ⟨o, List.mem_cons_self ..⟩
    · obtain ⟨o', h'⟩ := hasN_mem h; exact ⟨o', List.mem_cons_of_mem _ h'⟩
def holdsU (A : AH) (chg : List (Nat × Option AO)) : List (Nat × AO) → Bool
  | [] => true
  | (b, o) :: l => (hasN b chg || holds (A.get b) o) && holdsU A chg l
theorem holdsU_mem {A : AH} {chg : List (Nat × Option AO)} : ∀ {l : List (Nat × AO)}, holdsU A chg l = true → ∀ p ∈ l, (∃ o, (p.1, o) ∈ chg) ∨ A.get p.1 = some p.2
  | (b, o) :: l, h, p, hp => by
    simp only [holdsU, Bool.and_eq_true, Bool.or_eq_true] at h
    rcases List.mem_cons.1 hp with rfl | hp
    · exact h.1.imp hasN_mem (holds_eq _ _)
    · exact holdsU_mem h.2 p hp
def holdsC (A : AH) : List (Nat × Option AO) → Bool
  | [] => true
  | (b, some o) :: l => holds (A.get b) o && holdsC A l
  | (_, none) :: l => holdsC A l
theorem holdsC_mem {A : AH} : ∀ {l : List (Nat × Option AO)}, holdsC A l = true → ∀ b o, (b, some o) ∈ l → A.get b = some o
  | (b', some o') :: l, h, b, o, hp => by
    simp only [holdsC, Bool.and_eq_true] at h
    rcases List.mem_cons.1 hp with e | hp
    · cases e; exact holds_eq _ _ h.1
    · exact holdsC_mem h.2 b o hp
  | (b', none) :: l, h, b, o, hp => by
    simp only [holdsC] at h
    rcases List.mem_cons.1 hp with e | hp
    · cases e
    · exact holdsC_mem h b o hp
def Ent.start (e : Ent) : AH := ⟨putsL .e e.pre, e.nf⟩
def Ent.chk (e : Ent) : Option Out → Bool
  | some (.call v A) => veq v e.v && (Nat.beq A.nf e.nf' && (holdsC A e.chg && holdsU A e.chg e.pre))
  | _ => false
def Ent.use (e : Ent) (f : FuncId) (args : List Value) (A : AH) : Option Out :=
  cond (Nat.beq f e.f) (cond (Nat.beq A.nf e.nf) (cond (veqL args e.args) (cond (holdsL A e.pre) (some (.call e.v ⟨putsC A.h e.chg, e.nf'⟩)) none) none) none) none
def EntOk (P : Program) (e : Ent) : Prop := ∃ A1 : AH, CallOk P e.f e.args e.start e.v A1 ∧ A1.nf = e.nf' ∧ (∀ b o, (b, some o) ∈ e.chg → A1.get b = some o) ∧ ∀ p ∈ e.pre, (∃ o, (p.1, o) ∈ e.chg) ∨ A1.get p.1 = some p.2
abbrev Tab := Tr Ent
def TabOk (P : Program) (t : Tab) : Prop := ∀ k e, t.get k = some e → EntOk P e
theorem use_sound {P : Program} {e : Ent} (he : EntOk P e) {f : FuncId} {args : List Value} {A A' : AH} {v : Value} (h : e.use f args A = some (.call v A')) : CallOk P f args A v A' := by
  unfold Ent.use at h
  cases h1 : Nat.beq f e.f with
  | false => rw [h1] at h; cases h
  | true =>
  cases h2 : Nat.beq A.nf e.nf with
  | false => rw [h1, h2] at h; cases h
  | true =>
  cases h3 : veqL args e.args with
  | false => rw [h1, h2, h3] at h; cases h
  | true =>
  cases h4 : holdsL A e.pre with
  | false => rw [h1, h2, h3, h4] at h; cases h
  | true =>
  rw [h1, h2, h3, h4] at h
  simp only [cond_true, Option.some.injEq, Out.call.injEq] at h
  obtain ⟨rfl, rfl⟩ := h
  have g1 := Nat.eq_of_beq_eq_true h1
  have g2 := Nat.eq_of_beq_eq_true h2
  have g3 := veqL_eq _ _ h3
  have g4 := holdsL_mem h4
  subst g1 g3
  obtain ⟨A1, hc, hn, hchg, hpre⟩ := he
  have hst : ∀ b o, e.start.get b = some o → (b, o) ∈ e.pre := by
    intro b o hb
    rcases putsL_get .e e.nf 0 e.pre b o hb with h | ⟨_, h⟩
    · exact h
    · cases h
  have hsub : ∀ b o, e.start.get b = some o → A.get b = some o := fun b o hb => g4 _ (hst b o hb)
  intro E w hR hargs
  have hR0 : Rel E e.start w := ⟨fun b o hb => hR.obj b o (hsub b o hb), fun b b' o o' hb hb' e1 => hR.inj b b' o o' (hsub b o hb) (hsub b' o' hb') e1, fun b o hb => by
    have := hR.wf b o (hsub b o hb)
    rw [g2] at this
    exact this, hR.glob, by have := hR.low; rw [g2] at this; exact this⟩
  refine CR.mono (hc E w hR0 (by rw [← show A.nf = e.start.nf from g2]; exact hargs)) ?_
  rintro v' w' ⟨E', rfl, hR1, t1, hv⟩
  have hnf : A.nf ≤ A1.nf := by rw [g2]; exact t1.nf
  have hext : ∀ b, b < A.nf → E' b = E b := fun b hb => t1.ext b (by show b < e.nf; omega)
  -- where a name of the new state comes from
  have src : ∀ b o, (⟨putsC A.h e.chg, e.nf'⟩ : AH).get b = some o → A1.get b = some o ∨ (A.get b = some o ∧ ∀ o', e.start.get b ≠ some o') := by
    intro b o hb
    rcases putsC_get A.h e.nf' A.nf e.chg b o hb with h | ⟨h, hA⟩
    · exact .inl (hchg b o h)
    · have hA : A.get b = some o := hA
      by_cases hx : ∃ o', e.start.get b = some o'
      · obtain ⟨o', hx⟩ := hx
        have e1 := hsub b o' hx
        rw [hA] at e1
        cases e1
        rcases hpre _ (hst b o hx) with ⟨o2, h2⟩ | h2
        · exact absurd rfl (h _ h2)
        · exact .inl h2
      · exact .inr ⟨hA, fun o' h' => hx ⟨o', h'⟩⟩
  have sep : ∀ b o, A.get b = some o → (∀ o', e.start.get b ≠ some o') → ∀ b1 o1, A1.get b1 = some o1 → (E' b1).blk ≠ (E b).blk := by
    intro b o hb hnot b1 o1 h1 heq
    rcases t1.mine b1 o1 h1 with ⟨c, oc, hcc, e1, _⟩ | hs
    · have : b = c := hR.inj b c o oc hb (hsub c oc hcc) (by rw [← heq, e1])
      subst this
      exact hnot oc hcc
    · have := hR.lt hb
      omega
  refine ⟨E', rfl, ⟨?_, ?_, ?_, hR1.glob, ?_⟩, ⟨?_, hext, t1.os, t1.tape, t1.output, t1.size, ?_, ?_⟩, ?_⟩
  · intro b o hb
    rcases src b o hb with h | ⟨h, hnot⟩
    · exact hR1.obj b o h
    · obtain ⟨c, hc1, hl⟩ := hR.obj b o h
      have hbn := (hR.wf b o h).1
      rw [hext b hbn]
      refine ⟨c, (t1.blk _ (hR.lt h) fun b1 o1 h1 _ e1 => ?_).trans hc1, hl.ext hext (hR.wf b o h).2⟩
      have := hR.inj b1 b o1 o (hsub b1 o1 h1) h e1
      subst this
      exact hnot o1 h1
  · intro b b' o o' hb hb' heq
    rcases src b o hb with h | ⟨h, hnot⟩
    · rcases src b' o' hb' with h' | ⟨h', hnot'⟩
      · exact hR1.inj b b' o o' h h' heq
      · rw [hext b' (hR.wf b' o' h').1] at heq
        exact absurd heq (sep b' o' h' hnot' b o h)
    · rw [hext b (hR.wf b o h).1] at heq
      rcases src b' o' hb' with h' | ⟨h', hnot'⟩
      · exact absurd heq.symm (sep b o h hnot b' o' h')
      · rw [hext b' (hR.wf b' o' h').1] at heq
        exact hR.inj b b' o o' h h' heq
  · intro b o hb
    show b < e.nf' ∧ o.Wf e.nf'
    rw [← hn]
    rcases src b o hb with h | ⟨h, _⟩
    · exact hR1.wf b o h
    · exact ⟨Nat.lt_of_lt_of_le (hR.wf b o h).1 hnf, (hR.wf b o h).2.mono hnf⟩
  · show GB ≤ e.nf'
    rw [← hn]; exact hR1.low
  · show A.nf ≤ e.nf'
    rw [← hn]; exact hnf
  · exact fun x hx hno => t1.blk x hx fun b o hb => hno b o (hsub b o hb)
  · intro b o hb
    rcases src b o hb with h | ⟨h, _⟩
    · rcases t1.mine b o h with ⟨c, oc, hcc, e1, e2⟩ | hs
      · exact .inl ⟨c, oc, hsub c oc hcc, e1, e2⟩
      · exact .inr hs
    · exact .inl ⟨b, o, h, by rw [hext b (hR.wf b o h).1], id⟩
  · show nm e.v ≤ e.nf'
    rw [← hn]; exact hv
def tcall (P : Program) (tab : Tab) (rec : Rec) (f : FuncId) (args : List Value) (A : AH) : Option Out := match tab.get A.nf with
  | none => sCall P rec f args A
  | some e => match e.use f args A with
    | some o => some o
    | none => sCall P rec f args A
def stepT (P : Program) (tab : Tab) (reg : Reg) (rec : Rec) : Job → Option Out
  | .call f args A => tcall P tab rec f args A
  | .yield l args A => sYield rec l args A
  | .rounds c q n σ ds A => sRounds rec c q n σ ds A
  | .code c q n σ ds A => sCode P reg rec c q n σ ds A
def runT (P : Program) (tab : Tab) (reg : Reg) (k : Nat) : Rec := Nat.rec (motive := fun _ => Rec) (fun _ => none) (fun _ ih j => stepT P tab reg ih j) k
theorem stepT_sound {P : Program} {tab : Tab} (ht : TabOk P tab) {k : Nat} {rec : Rec} {reg : Reg} (hreg : RegOk P reg) (hrec : RecOk P k rec) : RecOk P (k + 1) (stepT P tab reg rec) := by
  intro j o h
  have key : ∀ o, step P reg rec j = some o → JobOk P (k + 1) j o := fun o h => step_sound hreg hrec j o h
  cases j with
  | call f args A =>
    simp only [stepT, tcall] at h
    split at h
    · exact key o h
    · rename_i e he
      split at h
      · rename_i o' ho
        cases h
        cases o with
        | code e σ ds A => trivial
        | call v A' => exact use_sound (ht _ _ he) ho
      · exact key o h
  | yield l args A => exact key o h
  | rounds c q n σ ds A => exact key o h
  | code c q n σ ds A => exact key o h
theorem runT_sound {P : Program} {tab : Tab} (ht : TabOk P tab) {reg : Reg} (hreg : RegOk P reg) : ∀ k, RecOk P k (runT P tab reg k)
  | 0 => fun j o h => by cases h
  | k + 1 => fun j o h => stepT_sound ht hreg (runT_sound ht hreg k) j o h
theorem ent_ok {P : Program} (hm : P.follows .mixedOrders = true) {tab : Tab} (ht : TabOk P tab) (e : Ent) (k : Nat) (h : e.chk (runT P tab (xreg P) k (.call e.f e.args e.start)) = true) : EntOk P e := by
  unfold Ent.chk at h
  split at h
  · rename_i v A hr
    simp only [Bool.and_eq_true] at h
    have := veq_eq _ _ h.1
    subst this
    exact ⟨A, runT_sound ht (xreg_ok hm) k _ _ hr, Nat.eq_of_beq_eq_true h.2.1, holdsC_mem h.2.2.1, holdsU_mem h.2.2.2⟩
  · cases h
theorem tab_nil (P : Program) : TabOk P .e := fun k e h => by rw [Tr.get_e] at h; cases h
theorem tab_put {P : Program} {t : Tab} {e : Ent} (ht : TabOk P t) (he : EntOk P e) (k : Nat) : TabOk P (t.put k (some e)) := by
  intro k' e' h
  rw [Tr.get_put] at h
  split at h
  · cases h; exact he
  · exact ht k' e' h
theorem tab_true {P : Program} (hm : P.follows .mixedOrders = true) {tab : Tab} (ht : TabOk P tab) {k : Nat} {f : FuncId} (h : isTrue (runT P tab (xreg P) k (.call f [] AH.none)) = true) (w : World) : CR P f #[] w (fun v w' => v = .bool true ∧ Chg [] w w') := by
  unfold isTrue at h
  split at h
  · rename_i A' hr
    have hc : CallOk P f [] AH.none (.bool true) A' := runT_sound ht (xreg_ok hm) k _ _ hr
    refine CR.mono (hc E00 w (rel_none w) (by simp [nmL])) ?_
    rintro v w' ⟨E', rfl, _, t, _⟩
    exact ⟨rfl, t.chg fun b o hb => by cases hb⟩
  · cases h
theorem tab_glob {P : Program} (hm : P.follows .mixedOrders = true) {tab : Tab} (ht : TabOk P tab) {l : List (Nat × List Value)} {k : Nat} {f : FuncId} (h : isTrue (runT P tab (xreg P) k (.call f [] (AH.glob l))) = true) (w : World) (hg : ∀ p ∈ l, GlobOk w p) :
    CR P f #[] w (fun v w' => v = .bool true ∧ Chg [] w w') := by
  unfold isTrue at h
  split at h
  · rename_i A' hr
    have hc : CallOk P f [] (AH.glob l) (.bool true) A' := runT_sound ht (xreg_ok hm) k _ _ hr
    refine CR.mono (hc E00 w (rel_glob hg) (by simp [nmL])) ?_
    rintro v w' ⟨E', rfl, _, t, _⟩
    exact ⟨rfl, t.chg fun b o hb => by obtain ⟨p, _, _, rfl⟩ := glob_get l b o hb; rfl⟩
  · cases h
end
end Go.Ex
namespace Go.Ex
open Go Go.Sx
noncomputable section
def AH.globN (l : List (Nat × List Value)) (nf : Nat) : AH := ⟨(AH.glob l).h, nf⟩
def EN (e : Nat → Nm) : Env := fun b => if b < GB then ⟨b, 0, 0⟩ else e b
theorem rel_globN {l : List (Nat × List Value)} {w : World} {nf : Nat} {e : Nat → Nm} (h : ∀ p ∈ l, GlobOk w p) (hn : GB ≤ nf) : Rel (EN e) (AH.globN l nf) w := by
  have h0 := rel_glob h
  have hget : ∀ b, (AH.globN l nf).get b = (AH.glob l).get b := fun b => rfl
  have hlt : ∀ b o, (AH.glob l).get b = some o → b < GB ∧ ∃ p ∈ l, o = .cells p.2 0 Option.none true := fun b o hb => by
    obtain ⟨p, hp, rfl, rfl⟩ := glob_get l b o hb
    exact ⟨(h p hp).1, p, hp, rfl⟩
  have hE : ∀ b, b < GB → EN e b = E00 b := fun b hb => by simp [EN, hb, E00]
  refine ⟨fun b o hb => ?_, fun b b' o o' hb hb' he => ?_, fun b o hb => ?_, fun b hb => by simp [EN, hb], hn⟩
  · have hb' : (AH.glob l).get b = some o := hb
    obtain ⟨h1, p, hp, rfl⟩ := hlt b _ hb'
    obtain ⟨c, hc, hl⟩ := h0.obj b _ hb'
    rw [hE b h1]
    refine ⟨c, hc, Lies.ext (k := GB) (fun x hx => hE x hx) ?_ hl⟩
    have := (h0.wf b _ hb').2
    rwa [glob_nf] at this
  · have h1 := (hlt b o hb).1
    have h2 := (hlt b' o' hb').1
    rw [hE b h1, hE b' h2] at he
    exact h0.inj b b' o o' hb hb' he
  · have h1 := h0.wf b o hb
    rw [glob_nf] at h1
    exact ⟨Nat.lt_of_lt_of_le h1.1 hn, h1.2.mono hn⟩
theorem tab_args {P : Program} (hm : P.follows .mixedOrders = true) {tab : Tab} (ht : TabOk P tab) {l : List (Nat × List Value)} {k nf : Nat} {f : FuncId} {args : List Value} (h : isTrue (runT P tab (xreg P) k (.call f args (AH.globN l nf))) = true)
    (w : World) (hg : ∀ p ∈ l, GlobOk w p) (hn : GB ≤ nf) (ha : nmL args ≤ nf) (e : Nat → Nm) : CR P f (args.map (ren (EN e))).toArray w (fun v w' => v = .bool true ∧ Chg [] w w') := by
  unfold isTrue at h
  split at h
  · rename_i A' hr
    have hc : CallOk P f args (AH.globN l nf) (.bool true) A' := runT_sound ht (xreg_ok hm) k _ _ hr
    refine CR.mono (hc (EN e) w (rel_globN hg hn) ha) ?_
    rintro v w' ⟨E', rfl, _, t, _⟩
    exact ⟨rfl, t.chg fun b o hb => by obtain ⟨p, _, _, rfl⟩ := glob_get l b o hb; rfl⟩
  · cases h
end
end Go.Ex
namespace Go.Sx
open Go
section
variable {P : Program} {w : World} {t e : TypeId} {k : IntKind} {by_ : Nat} {z : Value}
theorem run_eqInt (d : Nat) (he : P.underlying e = some (.int k)) (a b : Int) : (Op.equalIn (d + 1) e (.int k a) (.int k b)).run P w = .ok (a == b) w := by
  simp [Op.equalIn, run_underlying he]
theorem run_eqBool (d : Nat) (he : P.underlying t = some .bool) (a b : Bool) : (Op.equalIn (d + 1) t (.bool a) (.bool b)).run P w = .ok (a == b) w := by
  simp [Op.equalIn, run_underlying he]
theorem run_part (he : P.underlying e = some (.int k)) (xs : Array Value) (i : Nat) (v : Value) (h : xs[i]? = some v) : (part e xs i).run P w = .ok v w := by
  simp [part, run_isAgg he, isAggD, h]
theorem run_eqArr4 (ht : P.underlying t = some (.array 4 e)) (he : P.underlying e = some (.int k)) (hi : TI P e 1 by_ z) (a0 a1 a2 a3 b0 b1 b2 b3 : Int) :
    (Op.equal t (.agg #[.int k a0, .int k a1, .int k a2, .int k a3]) (.agg #[.int k b0, .int k b1, .int k b2, .int k b3])).run P w = .ok (decide ([a0, a1, a2, a3] = [b0, b1, b2, b3])) w := by
  have p : ∀ (x0 x1 x2 x3 : Value), (part e #[x0, x1, x2, x3] 0).run P w = .ok x0 w ∧ (part e #[x0, x1, x2, x3] 1).run P w = .ok x1 w ∧ (part e #[x0, x1, x2, x3] 2).run P w = .ok x2 w ∧ (part e #[x0, x1, x2, x3] 3).run P w = .ok x3 w := fun x0 x1 x2 x3 =>
    ⟨run_part he _ _ _ rfl, run_part he _ _ _ rfl, run_part he _ _ _ rfl, run_part he _ _ _ rfl⟩
  have q := fun a b => run_eqInt (P := P) (w := w) 9998 he a b
  simp only [Nat.reduceAdd] at q
  show (Op.equalIn 10000 t _ _).run P w = _
  unfold Op.equalIn
  simp only [Sem.run_bind, run_underlying ht, Result.andThen_ok, hi.size, Std.Legacy.Range.forIn_eq_forIn_range', Std.Legacy.Range.size]
  simp only [show List.range' 0 ((4 - 0 + 1 - 1) / 1) 1 = [0, 1, 2, 3] from rfl, List.forIn_cons, List.forIn_nil, Sem.run_bind, Nat.mul_one, (p _ _ _ _).1, (p _ _ _ _).2.1, (p _ _ _ _).2.2.1, (p _ _ _ _).2.2.2, Result.andThen_ok, q]
  by_cases h0 : a0 = b0
  · by_cases h1 : a1 = b1
    · by_cases h2 : a2 = b2
      · by_cases h3 : a3 = b3
        · simp [h0, h1, h2, h3, p, q, Result.andThen]
        · simp [h0, h1, h2, h3, p, q, Result.andThen]
      · simp [h0, h1, h2, p, q, Result.andThen]
    · simp [h0, h1, p, q, Result.andThen]
  · simp [h0, p, q, Result.andThen]
end
section
variable {r : Option Nat} {P : Program} {ops : Array Oper} {Q : Exit → Act → World → Prop} {rest : List Oper} {n : Nat} {s : List (Nat × Value)} {ds : List Deferred} {w : World}
variable {d : Nat} {dd : Option Nat} {ty t t' e : TypeId} {pos : String} {af : Array Edge} {g : Option (Nat × Bool)} {x y : Operand} {k : IntKind} {by_ : Nat} {z : Value} {a0 a1 a2 a3 b0 b1 b2 b3 : Int} {c : Bool}
theorem run_eqGuard_agg (op : BinOp) (hgd : P.eqGuardType P.depth t = false) (xs ys : Array Value) : (eqGuard op t x y (.agg xs) (.agg ys)).run P w = .ok () w := by
  unfold eqGuard
  cases op <;> simp [hgd, program, Sem.run]
theorem neArr_r (hx : ev n s x = .agg #[.int k a0, .int k a1, .int k a2, .int k a3]) (hy : ev n s y = .agg #[.int k b0, .int k b1, .int k b2, .int k b3]) (ht : P.underlying t = some (.array 4 e)) (he : P.underlying e = some (.int k)) (hi : TI P e 1 by_ z)
    (hgd : P.eqGuardType P.depth t = false) (hc : (!decide ([a0, a1, a2, a3] = [b0, b1, b2, b3])) = c) :
    (execOp (ev n s) ⟨dd, .binOp .neq t x y t', ty, pos, af, g⟩).run P w = .ok (.value (.bool c)) w := by
  subst hc
  have h := run_eqArr4 (P := P) (w := w) ht he hi a0 a1 a2 a3 b0 b1 b2 b3
  simp only [execOp, hx, hy, Sem.run_bind, run_eqGuard_agg .neq hgd, Result.andThen_ok]
  simp only [binOp, Sem.run_bind, h, Result.andThen_ok, Sem.run_pure]
theorem neBool_r {a b : Bool} (hx : ev n s x = .bool a) (hy : ev n s y = .bool b) (ht : P.underlying t = some .bool) (hc : (!(a == b)) = c) :
    (execOp (ev n s) ⟨dd, .binOp .neq t x y t', ty, pos, af, g⟩).run P w = .ok (.value (.bool c)) w := by
  subst hc
  have h1 : (Op.equal t (.bool a) (.bool b)).run P w = .ok (a == b) w := run_eqBool 9999 ht a b
  have h2 : (eqGuard .neq t x y (.bool a) (.bool b)).run P w = .ok () w := rfl
  simp only [execOp, hx, hy, Sem.run_bind, h2, Result.andThen_ok]
  simp only [binOp, Sem.run_bind, h1, Result.andThen_ok, Sem.run_pure]
theorem neBool {a b : Bool} (hg : takenB ops n s g = true) (hx : ev n s x = .bool a) (hy : ev n s y = .bool b) (ht : P.underlying t = some .bool) (hc : (!(a == b)) = c) (K : WL r P ops Q rest (Fr n ((d, .bool c) :: s) ds) w) :
    WL r P ops Q (⟨some d, .binOp .neq t x y t', ty, pos, af, g⟩ :: rest) (Fr n s ds) w := pv hg rfl (neBool_r hx hy ht hc) K
theorem eqBool_r {a b : Bool} (hx : ev n s x = .bool a) (hy : ev n s y = .bool b) (ht : P.underlying t = some .bool) (hc : (a == b) = c) :
    (execOp (ev n s) ⟨dd, .binOp .eql t x y t', ty, pos, af, g⟩).run P w = .ok (.value (.bool c)) w := by
  subst hc
  have h1 : (Op.equal t (.bool a) (.bool b)).run P w = .ok (a == b) w := run_eqBool 9999 ht a b
  have h2 : (eqGuard .eql t x y (.bool a) (.bool b)).run P w = .ok () w := rfl
  simp only [execOp, hx, hy, Sem.run_bind, h2, Result.andThen_ok]
  simp only [binOp, Sem.run_bind, h1, Result.andThen_ok, Sem.run_pure]
theorem eqBool {a b : Bool} (hg : takenB ops n s g = true) (hx : ev n s x = .bool a) (hy : ev n s y = .bool b) (ht : P.underlying t = some .bool) (hc : (a == b) = c) (K : WL r P ops Q rest (Fr n ((d, .bool c) :: s) ds) w) :
    WL r P ops Q (⟨some d, .binOp .eql t x y t', ty, pos, af, g⟩ :: rest) (Fr n s ds) w := pv hg rfl (eqBool_r hx hy ht hc) K
theorem neArr (hg : takenB ops n s g = true) (hx : ev n s x = .agg #[.int k a0, .int k a1, .int k a2, .int k a3]) (hy : ev n s y = .agg #[.int k b0, .int k b1, .int k b2, .int k b3]) (ht : P.underlying t = some (.array 4 e)) (he : P.underlying e = some (.int k)) (hi : TI P e 1 by_ z)
    (hgd : P.eqGuardType P.depth t = false) (hc : (!decide ([a0, a1, a2, a3] = [b0, b1, b2, b3])) = c) (K : WL r P ops Q rest (Fr n ((d, .bool c) :: s) ds) w) :
    WL r P ops Q (⟨some d, .binOp .neq t x y t', ty, pos, af, g⟩ :: rest) (Fr n s ds) w := pv hg rfl (neArr_r hx hy ht he hi hgd hc) K
end
section
variable {w w' : World} {bs : List (World × List Nat)} {L : List Res} {b : Nat} {T : TypeId} {cs : List Value}
theorem St.roCells {w0 : World} (h : St bs L w) (hb : (w0, []) ∈ bs) (h0 : (blk b T cs).holds w0) {o : Nat} {vs : List Value} (hv : (cs.drop o).take vs.length = vs) : ∀ j u, vs[j]? = some u → w.cell? ⟨b, o + j, none⟩ = some u := by
  intro j u hj
  refine h.cellB hb (blk_cell h0 (o := o + j) ?_) List.not_mem_nil
  rw [← hv, List.getElem?_take] at hj
  split at hj
  · simpa using hj
  · cases hj
theorem St.roCell {w0 : World} (h : St bs L w) (hb : (w0, []) ∈ bs) (h0 : (blk b T cs).holds w0) {o : Nat} {u : Value} (hv : cs[o]? = some u) : w.cell? ⟨b, o, none⟩ = some u := h.cellB hb (blk_cell h0 hv) List.not_mem_nil
theorem St.addBlk (h : St bs L w) (hc : Chg [] w w') (hn : w.heap.size ≤ b) (hb : (blk b T cs).holds w') : St bs (blk b T cs :: L) w' :=
  h.addNew hc (fun x hx => by simp [blk] at hx; omega) (by simp [blk]) (fun x hx => by
    simp only [blk, List.mem_singleton] at hx
    subst hx
    exact (Array.getElem?_eq_some_iff.1 (show w'.heap[x]? = _ from hb)).1) hb
end
theorem cp_at {z : Value} {pre news : List Value} {m : Nat} : setAt (pre ++ List.replicate (news.length + m) z) pre.length news = pre ++ news ++ List.replicate m z := by
  simp [setAt, List.drop_append]
theorem sl_at (b l n : Nat) : Value.slice (some ⟨b, 0 + l * 1, none⟩) (l + n - l) (l + n - l) = .slice (some ⟨b, l, none⟩) n n := by simp
end Go.Sx
namespace Go.Sx
open Go
section
variable {H : Type} {enc : TypeId × Value → H} {P : Program} {w : World} {sp : Nat → Bool} {hd : Bool} {t e : TypeId} {fuel : Nat} {v : Value} {cs : List Value} {x : DataW H × List MemPlace} {k : IntKind}
theorem spot_none {a : Addr} {u : Value} (h : w.cell? a = some u) : a.spot = none := by
  unfold World.cell? at h
  split at h
  · split at h
    · cases h
    · rename_i hs
      cases hq : a.spot with
      | none => rfl
      | some q => rw [hq] at hs; simp at hs
  · cases h
theorem Sl.of_trod {α : Type} [Inhabited α] {sz : Nat} {E : World → α → List Value → Prop} (ht : P.underlying t = some (.slice e)) (hc : P.cellsOf e = sz) (hp : 0 < sz)
    (hE : ∀ n cs y, DataW.trod enc P w 0 sp hd n e cs = some y → ∃ x : α, E w x cs) (h : DataW.trod enc P w 0 sp hd fuel t cs = some x) : ∃ v xs, cs = [v] ∧ Sl sz E (fun _ => True) w v xs := by
  rcases Go.Deep.open_slice ht h with ⟨h0, _⟩ | ⟨a, len, cap, m, n, D, Pl, rfl, _, hl, hm, hmm, _, hx⟩
  · exact ⟨_, [], h0, Sl.nil _ _ _ _⟩
  · rw [hc] at hx
    have hlm : len ≤ m := by rw [hmm]; split <;> omega
    obtain ⟨X, hX⟩ := Go.Deep.choose_lt (α := α) (n := len) (p := fun i x => ∃ cs', w.cells? 0 (a.add (i * sz)) sz = some cs' ∧ E w x cs') (fun i hi => by
      obtain ⟨cs', h1, h2⟩ := hx i (by omega)
      obtain ⟨y, hy⟩ := hE _ _ _ h2
      exact ⟨y, cs', h1, hy⟩)
    refine ⟨_, (List.range len).map X, rfl, some a, cap, by simp, by simp; exact hl, hm, fun i y hi => ?_⟩
    have hlt : i < len := by have := (List.getElem?_eq_some_iff.1 hi).1; simpa using this
    have hy : y = X i := by
      rw [List.getElem?_map, List.getElem?_range hlt] at hi
      simpa using hi.symm
    subst hy
    obtain ⟨cs', h1, h2⟩ := hX i hlt
    obtain ⟨_, hlen, hcell⟩ := World.cells?_some h1
    have hsp : a.spot = none := by
      obtain ⟨cs0, q1, _⟩ := hX 0 (by omega)
      obtain ⟨_, q2, q3⟩ := World.cells?_some q1
      have h3 := q3 0 hp
      have : cs0[0]? = some cs0[0] := List.getElem?_eq_getElem (by omega)
      rw [this] at h3
      have := spot_none h3
      simpa [Addr.add] using this
    obtain ⟨b, o, s⟩ := a
    simp only at hsp
    subst hsp
    refine ⟨b, o, cs', rfl, trivial, hlen, h2, fun j u hj => ?_⟩
    have hj' : j < sz := by have := (List.getElem?_eq_some_iff.1 hj).1; omega
    have := hcell j hj'
    rw [hj] at this
    rw [Addr.add_lit, Addr.add_lit] at this
    exact this
theorem InK.of_wf {n : Int} (h : (Lit.int k n).wf = true) : InK k n := by
  simp only [Lit.wf, Bool.and_eq_true, decide_eq_true_eq] at h
  exact h
theorem Ints.of_trod (ht : P.underlying t = some (.slice e)) (he : P.underlying e = some (.int k)) (hc : P.cellsOf e = 1) (h : DataW.trod enc P w 0 sp hd fuel t cs = some x) : ∃ v xs, cs = [v] ∧ Ints k (fun _ => True) w v xs :=
  Sl.of_trod (α := Int) ht hc (by decide) (fun n cs y hy => by
    obtain ⟨m, h1, _, h3⟩ := DataW.trod_int he hy
    exact ⟨m, h1, InK.of_wf h3⟩) h
theorem int_of_trod (he : P.underlying e = some (.int k)) (h : DataW.trod enc P w 0 sp hd fuel e cs = some x) : ∃ n, cs = [.int k n] ∧ InK k n := by
  obtain ⟨m, h1, _, h3⟩ := DataW.trod_int he h
  exact ⟨m, h1, InK.of_wf h3⟩
theorem fields_of_trod {fs : Array Field} (ht : P.underlying t = some (.struct fs)) (h : DataW.trod enc P w 0 sp hd fuel t cs = some x) : cs.length = P.cellsOf t ∧ ∀ f ∈ fs.toList, ∃ n y, DataW.trod enc P w 0 sp hd n f.type ((cs.drop f.offset).take (P.cellsOf f.type)) = some y := by
  cases fuel with
  | zero => simp [DataW.trod] at h
  | succ n =>
    unfold DataW.trod at h
    rw [ht] at h
    simp only at h
    split at h
    · rename_i hl
      refine ⟨hl, fun f hf => ?_⟩
      obtain ⟨i, hi⟩ := List.getElem?_of_mem hf
      cases hm : (fs.toList.mapM fun f => DataW.trod enc P w 0 sp hd n f.type ((cs.drop f.offset).take (P.cellsOf f.type))) with
      | none => rw [hm] at h; simp at h
      | some ys =>
        have := mapM_some_get hm i f hi
        have hlen := mapM_some_length hm
        have hlt : i < ys.length := by rw [hlen]; exact (List.getElem?_eq_some_iff.1 hi).1
        rw [List.getElem?_eq_getElem hlt] at this
        exact ⟨n, _, this⟩
    · simp at h
end
end Go.Sx
