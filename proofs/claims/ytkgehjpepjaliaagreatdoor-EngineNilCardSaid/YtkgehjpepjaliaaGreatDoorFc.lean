/- Plain lemmas: rules for walking through code, one for each operation, over any program; an evaluator of closed calls with its soundness; and plain mathematics. No conditions. -/
import Derived.Test.YtkgehjpepjaliaaGreatDoorFb
import Derived.OpenShut
import Derived.Test.YtkgehjpepjaliaaGreatDoorFa
import Derived.ProofKit
import Derived.Deep.Slices
set_option linter.unusedVariables false
set_option linter.unusedSectionVars false
set_option linter.unusedSimpArgs false
namespace Go.Ex
open Go Go.Sx
noncomputable section
def gb (t : Tr Nat) (k : Nat) : Nat := match t.get k with
  | some m => m
  | none => 0
def addB (t : Tr Nat) (k j : Nat) : Tr Nat := t.put k (some (gb t k ||| 2 ^ j))
def sub (a b : Nat) : Bool := Nat.beq (a &&& b) a
def maskE (ms : Tr Nat) (j : Nat) : List Edge → Nat → Option Nat
  | [], acc => some acc
  | e :: es, acc => bif Region.binds .any e then (bif Nat.blt e.on j then maskE ms j es (acc ||| (2 ^ e.on ||| gb ms e.on)) else none) else maskE ms j es acc
def lookN (wr : Tr Nat) : List Nat → Nat → Nat
  | [], a => a
  | t :: ts, a => lookN wr ts (a ||| gb wr t)
def addAll (j : Nat) : List Nat → Tr Nat → Tr Nat
  | [], rd => rd
  | t :: ts, rd => addAll j ts (addB rd t j)
def dstB (wr rd : Tr Nat) : Option Nat → Nat
  | some d => gb wr d ||| gb rd d
  | none => 0
def addD (wr : Tr Nat) (j : Nat) : Option Nat → Tr Nat
  | some d => addB wr d j
  | none => wr
def scan (ops : List Oper) : List Oper → Nat → Tr Nat → Tr Nat → Tr Nat → Option (List Nat)
  | [], _, _, _, _ => some []
  | o :: l, j, ms, wr, rd => match maskE ms j o.after.toList 0 with
    | some m => bif !isSelect o.op && sub (lookN wr (o.looksAt ops.toArray) 0 ||| dstB wr rd o.dst) m then
        (match scan ops l (j + 1) (ms.put j (some m)) (addD wr j o.dst) (addAll j (o.looksAt ops.toArray) rd) with
        | some r => some (m :: r)
        | none => none) else none
    | none => none
def preM (masks : List Nat) (j i : Nat) : Bool := Nat.testBit ((masks[j]?).getD 0) i
theorem sub_bit {a b : Nat} (h : sub a b = true) {i : Nat} (hi : Nat.testBit a i = true) : Nat.testBit b i = true := by
  have := Nat.eq_of_beq_eq_true h
  rw [← this, Nat.testBit_and] at hi
  simp at hi
  exact hi.2
theorem gb_put (t : Tr Nat) (k k' m : Nat) : gb (t.put k (some m)) k' = if k' = k then m else gb t k' := by
  unfold gb
  rw [Tr.get_put]
  by_cases h : k' = k
  · rw [if_pos h, if_pos h]
  · rw [if_neg h, if_neg h]
theorem bit_or {a b i : Nat} : Nat.testBit (a ||| b) i = true ↔ Nat.testBit a i = true ∨ Nat.testBit b i = true := by rw [Nat.testBit_or]; simp
theorem bit_pow {j i : Nat} : Nat.testBit (2 ^ j) i = true ↔ j = i := by rw [Nat.testBit_two_pow]; simp
theorem gb_addB (t : Tr Nat) (k j k' i : Nat) : Nat.testBit (gb (addB t k j) k') i = true ↔ Nat.testBit (gb t k') i = true ∨ (k' = k ∧ i = j) := by
  unfold addB
  rw [gb_put]
  split
  · rename_i h; subst h
    rw [bit_or, bit_pow]
    constructor
    · rintro (h | h)
      · exact .inl h
      · exact .inr ⟨rfl, h.symm⟩
    · rintro (h | ⟨_, h⟩)
      · exact .inl h
      · exact .inr h.symm
  · rename_i h
    constructor
    · exact .inl
    · rintro (h1 | ⟨h1, _⟩)
      · exact h1
      · exact absurd h1 h
theorem maskE_sound {ms : Tr Nat} {j : Nat} : ∀ (es : List Edge) (acc m : Nat), maskE ms j es acc = some m →
    (∀ i, Nat.testBit m i = true → Nat.testBit acc i = true ∨ ∃ e ∈ es, Region.binds .any e = true ∧ e.on < j ∧ (e.on = i ∨ Nat.testBit (gb ms e.on) i = true)) ∧ (∀ e ∈ es, Region.binds .any e = true → e.on < j) := by
  intro es
  induction es with
  | nil => intro acc m h; cases h; exact ⟨fun i hi => .inl hi, fun e he => by cases he⟩
  | cons e es ih =>
    intro acc m h
    simp only [maskE] at h
    cases hb : Region.binds .any e with
    | false =>
      rw [hb] at h
      obtain ⟨h1, h2⟩ := ih acc m h
      refine ⟨fun i hi => ?_, fun e' he' hb' => ?_⟩
      · rcases h1 i hi with h3 | ⟨e', he', h3⟩
        · exact .inl h3
        · exact .inr ⟨e', List.mem_cons_of_mem _ he', h3⟩
      · rcases List.mem_cons.1 he' with rfl | he'
        · rw [hb] at hb'; cases hb'
        · exact h2 e' he' hb'
    | true =>
      rw [hb] at h
      simp only [cond_true] at h
      cases hl : Nat.blt e.on j with
      | false => rw [hl] at h; cases h
      | true =>
        rw [hl] at h
        simp only [cond_true] at h
        have hlt : e.on < j := by simpa [Nat.blt, Nat.lt_iff_add_one_le] using hl
        obtain ⟨h1, h2⟩ := ih _ m h
        refine ⟨fun i hi => ?_, fun e' he' hb' => ?_⟩
        · rcases h1 i hi with h3 | ⟨e', he', h3⟩
          · rw [bit_or, bit_or, bit_pow] at h3
            rcases h3 with h3 | h3 | h3
            · exact .inl h3
            · exact .inr ⟨e, List.mem_cons_self .., hb, hlt, .inl h3⟩
            · exact .inr ⟨e, List.mem_cons_self .., hb, hlt, .inr h3⟩
          · exact .inr ⟨e', List.mem_cons_of_mem _ he', h3⟩
        · rcases List.mem_cons.1 he' with rfl | he'
          · exact hlt
          · exact h2 e' he' hb'
theorem lookN_bit {wr : Tr Nat} {i : Nat} : ∀ (ts : List Nat) (a : Nat), Nat.testBit (lookN wr ts a) i = true ↔ Nat.testBit a i = true ∨ ∃ t ∈ ts, Nat.testBit (gb wr t) i = true := by
  intro ts
  induction ts with
  | nil => intro a; simp [lookN]
  | cons t ts ih =>
    intro a
    rw [lookN, ih, bit_or]
    constructor
    · rintro ((h | h) | ⟨u, hu, h⟩)
      · exact .inl h
      · exact .inr ⟨t, List.mem_cons_self .., h⟩
      · exact .inr ⟨u, List.mem_cons_of_mem _ hu, h⟩
    · rintro (h | ⟨u, hu, h⟩)
      · exact .inl (.inl h)
      · rcases List.mem_cons.1 hu with rfl | hu
        · exact .inl (.inr h)
        · exact .inr ⟨u, hu, h⟩
theorem addAll_bit {j t i : Nat} : ∀ (ts : List Nat) (rd : Tr Nat), Nat.testBit (gb (addAll j ts rd) t) i = true ↔ Nat.testBit (gb rd t) i = true ∨ (t ∈ ts ∧ i = j) := by
  intro ts
  induction ts with
  | nil => intro rd; simp [addAll]
  | cons u ts ih =>
    intro rd
    rw [addAll, ih, gb_addB]
    constructor
    · rintro ((h | ⟨rfl, h⟩) | ⟨h1, h2⟩)
      · exact .inl h
      · exact .inr ⟨List.mem_cons_self .., h⟩
      · exact .inr ⟨List.mem_cons_of_mem _ h1, h2⟩
    · rintro (h | ⟨h1, h2⟩)
      · exact .inl (.inl h)
      · rcases List.mem_cons.1 h1 with rfl | h1
        · exact .inl (.inr ⟨rfl, h2⟩)
        · exact .inr ⟨h1, h2⟩
theorem scan_spec (ops : List Oper) : ∀ (l : List Oper) (j : Nat) (Mp : List Nat) (ms wr rd : Tr Nat) (r : List Nat), scan ops l j ms wr rd = some r → ops.drop j = l → Mp.length = j → (∀ i, i < j → gb ms i = (Mp[i]?).getD 0) →
    (∀ i x t, i < j → ops[i]? = some x → x.dst = some t → Nat.testBit (gb wr t) i = true) → (∀ i x t, i < j → ops[i]? = some x → t ∈ x.looksAt ops.toArray → Nat.testBit (gb rd t) i = true) →
    r.length = l.length ∧ ∀ k o, l[k]? = some o →
      (∀ i, preM (Mp ++ r) (j + k) i = true → ∃ e ∈ o.after, Region.binds .any e = true ∧ e.on < j + k ∧ (e.on = i ∨ preM (Mp ++ r) e.on i = true)) ∧ isSelect o.op = false ∧ (∀ e ∈ o.after, Region.binds .any e = true → e.on < j + k) ∧
      (∀ i x, i < j + k → ops[i]? = some x → (touches ops.toArray x o = true ∨ touches ops.toArray o x = true) → preM (Mp ++ r) (j + k) i = true) := by
  intro l
  induction l with
  | nil => intro j Mp ms wr rd r h _ _ _ _ _; cases h; exact ⟨rfl, fun k o hk => by simp at hk⟩
  | cons o l ih =>
    intro j Mp ms wr rd r h hdrop hMp hms hwr hrd
    simp only [scan] at h
    have hoj : ops[j]? = some o := by
      have := congrArg List.head? hdrop
      simpa using this
    have hdrop' : ops.drop (j + 1) = l := by
      have := congrArg List.tail hdrop
      simpa [List.tail_drop] using this
    split at h
    · rename_i m hm
      cases hb : (!isSelect o.op && sub (lookN wr (o.looksAt ops.toArray) 0 ||| dstB wr rd o.dst) m) with
      | false => rw [hb] at h; cases h
      | true =>
        rw [hb] at h
        simp only [cond_true] at h
        split at h
        · rename_i r' hr'
          cases h
          rw [Bool.and_eq_true] at hb
          obtain ⟨hsel, hsub⟩ := hb
          have hsel : isSelect o.op = false := by simpa using hsel
          obtain ⟨hm1, hm2⟩ := maskE_sound _ _ _ hm
          have IH := ih (j + 1) (Mp ++ [m]) (ms.put j (some m)) (addD wr j o.dst) (addAll j (o.looksAt ops.toArray) rd) r' hr' hdrop' (by simp [hMp]) (fun i hi => by
              rw [gb_put]
              by_cases e : i = j
              · subst e; rw [if_pos rfl, List.getElem?_append_right (by omega)]; simp [hMp]
              · rw [if_neg e, hms i (by omega), List.getElem?_append_left (by omega)])
            (fun i x t hi hx ht => by
              by_cases e : i = j
              · subst e
                have : x = o := Option.some.inj (hx.symm.trans hoj)
                subst this
                rw [ht, addD, gb_addB]; exact .inr ⟨rfl, rfl⟩
              · have := hwr i x t (by omega) hx ht
                cases hd : o.dst with
                | none => rw [addD]; exact this
                | some d => rw [addD, gb_addB]; exact .inl this)
            (fun i x t hi hx ht => by
              rw [addAll_bit]
              by_cases e : i = j
              · subst e
                have : x = o := Option.some.inj (hx.symm.trans hoj)
                subst this
                exact .inr ⟨ht, rfl⟩
              · exact .inl (hrd i x t (by omega) hx ht))
          have hcat : Mp ++ [m] ++ r' = Mp ++ (m :: r') := by simp
          rw [hcat] at IH
          have hpj : ∀ i, preM (Mp ++ (m :: r')) j i = Nat.testBit m i := by
            intro i
            unfold preM
            rw [List.getElem?_append_right (by omega), hMp]
            simp
          have hplt : ∀ k i, k < j → preM (Mp ++ (m :: r')) k i = Nat.testBit (gb ms k) i := by
            intro k i hk
            unfold preM
            rw [List.getElem?_append_left (by omega), hms k hk]
          refine ⟨by simp [IH.1], fun k o' hk => ?_⟩
          cases k with
          | succ k =>
            have := IH.2 k o' (by simpa using hk)
            rw [show j + 1 + k = j + (k + 1) by omega] at this
            exact this
          | zero =>
            simp at hk
            subst hk
            rw [Nat.add_zero]
            refine ⟨fun i hi => ?_, hsel, fun e he hb => hm2 e (by simpa using he) hb, fun i x hi hx ht => ?_⟩
            · rw [hpj] at hi
              rcases hm1 i hi with h0 | ⟨e, he, hb, hlt, h3⟩
              · simp at h0
              · refine ⟨e, by simpa using he, hb, hlt, ?_⟩
                rcases h3 with h3 | h3
                · exact .inl h3
                · exact .inr (by rw [hplt e.on i hlt]; exact h3)
            · rw [hpj]
              refine sub_bit hsub ?_
              rw [bit_or, lookN_bit]
              rcases ht with ht | ht
              · unfold touches at ht
                cases hxd : x.dst with
                | none => rw [hxd] at ht; cases ht
                | some d =>
                  rw [hxd] at ht
                  have hw := hwr i x d hi hx hxd
                  rcases Bool.or_eq_true_iff.1 ht with h1 | h1
                  · exact .inl (.inr ⟨d, by simpa using h1, hw⟩)
                  · have : o.dst = some d := by simpa using h1
                    rw [this, dstB, bit_or]
                    exact .inr (.inl hw)
              · unfold touches at ht
                cases hod : o.dst with
                | none => rw [hod] at ht; cases ht
                | some d =>
                  rw [hod] at ht
                  rw [dstB, bit_or]
                  rcases Bool.or_eq_true_iff.1 ht with h1 | h1
                  · exact .inr (.inr (hrd i x d hi hx (by simpa using h1)))
                  · have : x.dst = some d := by simpa using h1
                    exact .inr (.inl (hwr i x d hi hx this))
        · cases h
    · cases h
theorem scan_sound {ops : List Oper} {masks : List Nat} (h : scan ops ops 0 .e .e .e = some masks) : RegF ops (preM masks) ∧ masks.length = ops.length := by
  have := scan_spec ops ops 0 [] .e .e .e masks h rfl rfl (fun i hi => by omega) (fun i x t hi => by omega) (fun i x t hi => by omega)
  simp only [List.nil_append, Nat.zero_add] at this
  obtain ⟨h1, h2⟩ := this
  refine ⟨⟨fun j o hj i hi => (h2 j o hj).1 i hi, fun o ho => ?_, fun j o hj e he hb => (h2 j o hj).2.2.1 e he hb, fun i j x y hx hy hij ht => (h2 j y hy).2.2.2 i x hij hx ht⟩, h1⟩
  obtain ⟨j, hj⟩ := List.mem_iff_getElem?.1 ho
  exact (h2 j o hj).2.1
end
end Go.Ex
namespace Go.Ex
open Go Go.Sx
noncomputable section
inductive Cls where
  | pure
  | read
  | fl
  | ch
def kindOf : Op → Cls
  | .move _ => .pure
  | .assign _ => .pure
  | .pick .. => .pure
  | .build .. => .pure
  | .nilCheck _ => .pure
  | .binOp .. => .pure
  | .unOp .. => .pure
  | .makeInterface .. => .pure
  | .makeFunc .. => .pure
  | .slice .. => .pure
  | .fieldAddr .. => .pure
  | .field .. => .pure
  | .indexAddr .. => .pure
  | .index .. => .pure
  | .extract .. => .pure
  | .load .. => .read
  | .lookup .. => .read
  | .convert .. => .read
  | .call ⟨.builtin .len, _, _⟩ => .read
  | .call ⟨.builtin .cap, _, _⟩ => .pure
  | .call ⟨.builtin .min, _, _⟩ => .pure
  | .call ⟨.builtin .max, _, _⟩ => .pure
  | .alloc _ => .fl
  | .makeSlice .. => .fl
  | .makeMap .. => .fl
  | _ => .ch
def BIG : Nat := 4611686018427387904
mutual
def okv (k : Nat) (fs : List Nat) : Value → Bool
  | .pointer (some a) => Nat.blt a.block k || fs.any (Nat.beq a.block)
  | .slice (some a) _ _ => Nat.blt a.block k || fs.any (Nat.beq a.block)
  | .map (some r) => Nat.blt r k || fs.any (Nat.beq r)
  | .chan (some r) => Nat.blt r k || fs.any (Nat.beq r)
  | .func fn fi ca => (match fn with | .yield l => Nat.blt l k || fs.any (Nat.beq l) | _ => true) && okvA k fs fi && okvA k fs ca
  | .iface _ v => okv k fs v
  | .agg cs => okvA k fs cs
  | .tuple cs => okvA k fs cs
  | .pointer none => true
  | .slice none _ _ => true
  | .map none => true
  | .chan none => true
  | .bool _ => true
  | .int _ _ => true
  | .float _ _ => true
  | .complex _ _ _ => true
  | .string _ => true
  | .nilFunc => true
  | .nilIface => true
termination_by structural x => x
def okvA (k : Nat) (fs : List Nat) : Array Value → Bool
  | ⟨l⟩ => okvL k fs l
termination_by structural x => x
def okvL (k : Nat) (fs : List Nat) : List Value → Bool
  | [] => true
  | v :: l => okv k fs v && okvL k fs l
termination_by structural x => x
end
mutual
def veq : Value → Value → Bool
  | .pointer (some ⟨b, o, none⟩), .pointer (some ⟨b', o', none⟩) => Nat.beq b b' && Nat.beq o o'
  | .slice (some ⟨b, o, none⟩) m c, .slice (some ⟨b', o', none⟩) m' c' => Nat.beq b b' && Nat.beq o o' && Nat.beq m m' && Nat.beq c c'
  | .map (some r), .map (some r') => Nat.beq r r'
  | .agg cs, .agg cs' => veqA cs cs'
  | .func (.func f) fi ca, .func (.func f') fi' ca' => Nat.beq f f' && veqA fi fi' && veqA ca ca'
  | .iface t v, .iface t' v' => Nat.beq t t' && veq v v'
  | .tuple cs, .tuple cs' => veqA cs cs'
  | .pointer none, .pointer none => true
  | .slice none m c, .slice none m' c' => Nat.beq m m' && Nat.beq c c'
  | .map none, .map none => true
  | .bool b, .bool b' => b == b'
  | .int k x, .int k' x' => decide (k = k') && decide (x = x')
  | .string s, .string s' => decide (s.data.toList = s'.data.toList)
  | .nilFunc, .nilFunc => true
  | .nilIface, .nilIface => true
  | _, _ => false
termination_by structural x => x
def veqA : Array Value → Array Value → Bool
  | ⟨l⟩, ⟨l'⟩ => veqL l l'
termination_by structural x => x
def veqL : List Value → List Value → Bool
  | [], [] => true
  | v :: l, v' :: l' => veq v v' && veqL l l'
  | _, _ => false
termination_by structural x => x
end
structure Pl where
  i : Nat
  o : Oper
  m : Nat
def pick (want : Nat) : List Oper → List Nat → Nat → List Pl
  | o :: l, m :: ms, j => bif Nat.testBit want j then ⟨j, o, m⟩ :: pick want l ms (j + 1) else pick want l ms (j + 1)
  | _, _, _ => []
def chains : List Oper → List Nat → Nat → List Pl
  | o :: l, m :: ms, j => match kindOf o.op with
    | .ch => ⟨j, o, m⟩ :: chains l ms (j + 1)
    | _ => chains l ms (j + 1)
  | _, _, _ => []
def plan (ops : List Oper) (masks : List Nat) : List Pl → Nat → List Pl
  | c :: cs, placed => pick (c.m ^^^ (c.m &&& placed)) ops masks 0 ++ c :: plan ops masks cs (placed ||| (c.m ||| 2 ^ c.i))
  | [], placed => pick ((2 ^ ops.length - 1) ^^^ ((2 ^ ops.length - 1) &&& placed)) ops masks 0
def nextCh (f : Nat) : List Pl → Bool
  | [] => true
  | p :: l => match kindOf p.o.op with
    | .ch => Nat.testBit p.m f
    | _ => nextCh f l
def plOk (all : Nat) : List Pl → Nat → Nat → Bool
  | [], pl, _ => Nat.beq pl all
  | p :: l, pl, cb => !Nat.testBit pl p.i && sub p.m pl && (match kindOf p.o.op with
      | .ch => sub cb p.m && plOk all l (pl ||| 2 ^ p.i) (cb ||| 2 ^ p.i)
      | .fl => nextCh p.i l && plOk all l (pl ||| 2 ^ p.i) cb
      | _ => plOk all l (pl ||| 2 ^ p.i) cb)
section
variable (P : Program)
def xq (o : Oper) (n : Nat) (σ : Sl') (h : Tr PO) : Option Value := match xop P o.type o.op (xev n σ) ⟨h, BIG⟩ with
  | some (.val v, _) => some v
  | _ => none
def xfl (o : Oper) (n : Nat) (σ : Sl') (A : AH) : Option (Value × AH) := match xop P o.type o.op (xev n σ) ⟨.e, A.nf⟩ with
  | some (.val v, B) => match B.get A.nf with
    | some ob => some (v, A.add ob)
    | none => none
  | _ => none
def xone (rec : Rec) (o : Oper) (n : Nat) (σ : Sl') (A B : AH) : Option (Value × AH) := match kindOf o.op with
  | .pure => (xq P o n σ .e).map fun v => (v, A)
  | .read => (xq P o n σ B.h).map fun v => (v, A)
  | .fl => xfl P o n σ A
  | .ch => xdo P rec false o n σ A
structure Rc where
  p : Pl
  σ : Sl'
  A : AH
  B : AH
  v : Value
  tk : Bool
def nextB (o : Oper) (A' B : AH) : AH := match kindOf o.op with
  | .ch => A'
  | _ => B
def xp1 (rec : Rec) (ops : List Oper) (n : Nat) : List Pl → Sl' → AH → AH → Option (List Rc × Sl' × AH × AH)
  | [], σ, A, B => some ([], σ, A, B)
  | p :: l, σ, A, B => match (bif xtaken ops n σ p.o.guard then (xone P rec p.o n σ A B).map fun x => (x, true) else some ((undef, A), false)) with
    | some ((v, A'), tk) => bif Nat.ble (nm v) A'.nf && Nat.ble A.nf A'.nf then (match xp1 rec ops n l (xput σ p.o.dst v) A' (nextB p.o A' B) with
      | some (rs, z) => some (⟨p, σ, A, B, v, tk⟩ :: rs, z)
      | none => none) else none
    | none => none
def hsOf : List Rc → Nat → AH → List (Nat × AH)
  | [], cb, Bf => [(cb, Bf)]
  | r :: rs, cb, Bf => match kindOf r.p.o.op with
    | .ch => (cb, r.B) :: hsOf rs (cb ||| 2 ^ r.p.i) Bf
    | _ => hsOf rs cb Bf
def waiters (k : Nat) : List Pl → Nat
  | [] => 0
  | p :: l => match kindOf p.o.op with
    | .ch => bif Nat.testBit p.m k then 2 ^ p.i ||| waiters k l else waiters k l
    | _ => waiters k l
def chAll : List Pl → Nat
  | [] => 0
  | p :: l => match kindOf p.o.op with
    | .ch => 2 ^ p.i ||| chAll l
    | _ => chAll l
def quietPl : List Pl → Bool
  | [] => true
  | p :: l => match kindOf p.o.op with
    | .ch => false
    | .fl => false
    | _ => quietPl l
def flNames (m : Nat) : List Rc → List Nat
  | [] => []
  | r :: rs => match kindOf r.p.o.op with
    | .fl => bif r.tk && Nat.testBit m r.p.i then r.A.nf :: flNames m rs else flNames m rs
    | _ => flNames m rs
def chkQ (rd : Bool) (n : Nat) (r : Rc) (fs : List Nat) (mk wk : Nat) : List (Nat × AH) → Bool
  | [] => true
  | (cb, H) :: l => (bif sub mk cb && Nat.beq (wk &&& cb) 0 then
      okv H.nf fs r.v && (bif rd && r.tk then (match xq P r.p.o n r.σ H.h with
        | some v => veq v r.v
        | none => false) else true)
    else true) && chkQ rd n r fs mk wk l
def chkAll (n : Nat) (hs : List (Nat × AH)) (pln : List Pl) (all : List Rc) : List Rc → Bool
  | [] => true
  | r :: rs => (match kindOf r.p.o.op with
      | .pure => chkQ P false n r (flNames r.p.m all) (r.p.m &&& chAll pln) (waiters r.p.i pln) hs
      | .read => chkQ P true n r (flNames r.p.m all) (r.p.m &&& chAll pln) (waiters r.p.i pln) hs
      | _ => true) && chkAll n hs pln all rs
def xreg : Reg := fun rec q ops n σ A => match scan ops ops 0 .e .e .e with
  | some masks => bif plOk (2 ^ ops.length - 1) (plan ops masks (chains ops masks 0) 0) 0 0 then
      (match xp1 P rec ops n (plan ops masks (chains ops masks 0) 0) σ A A with
      | some (rs, σ', A', B') => bif Nat.ble A'.nf BIG && (quietPl (plan ops masks (chains ops masks 0) 0) || chkAll P n (hsOf rs 0 B') (plan ops masks (chains ops masks 0) 0) rs rs) then some (σ', A') else none
      | none => none) else none
  | none => none
end
end
end Go.Ex
namespace Go.Ex
open Go Go.Sx
theorem okb {k b : Nat} {fs : List Nat} (h : (Nat.blt b k || fs.any (Nat.beq b)) = true) : b < k ∨ b ∈ fs := by
  rcases Bool.or_eq_true_iff.1 h with h | h
  · exact .inl (by simpa [Nat.blt, Nat.lt_iff_add_one_le] using h)
  · obtain ⟨x, hx, e⟩ := List.any_eq_true.1 h
    have := Nat.eq_of_beq_eq_true e
    subst this
    exact .inr hx
mutual
theorem okv_ren {k : Nat} {fs : List Nat} {E E' : Env} (h : ∀ b, b < k ∨ b ∈ fs → E' b = E b) : ∀ v : Value, okv k fs v = true → ren E' v = ren E v
  | .pointer (some a), hn => by simp only [okv] at hn; simp only [ren, renAd, h a.block (okb hn)]
  | .slice (some a) _ _, hn => by simp only [okv] at hn; simp only [ren, renAd, renCap, h a.block (okb hn)]
  | .map (some r), hn => by simp only [okv] at hn; simp only [ren, h r (okb hn)]
  | .chan (some r), hn => by simp only [okv] at hn; simp only [ren, h r (okb hn)]
  | .func fn fi ca, hn => by
    simp only [okv, Bool.and_eq_true] at hn
    simp only [ren]
    rw [okvA_ren h fi hn.1.2, okvA_ren h ca hn.2]
    have : renFn E' fn = renFn E fn := by
      cases fn <;> simp only [renFn]
      rename_i l
      rw [h l (okb hn.1.1)]
    rw [this]
  | .iface t v, hn => by simp only [okv] at hn; simp only [ren, okv_ren h v hn]
  | .agg cs, hn => by simp only [okv] at hn; simp only [ren, okvA_ren h cs hn]
  | .tuple cs, hn => by simp only [okv] at hn; simp only [ren, okvA_ren h cs hn]
  | .pointer none, _ => rfl
  | .slice none _ _, _ => rfl
  | .map none, _ => rfl
  | .chan none, _ => rfl
  | .bool _, _ => rfl
  | .int _ _, _ => rfl
  | .float _ _, _ => rfl
  | .complex _ _ _, _ => rfl
  | .string _, _ => rfl
  | .nilFunc, _ => rfl
  | .nilIface, _ => rfl
theorem okvA_ren {k : Nat} {fs : List Nat} {E E' : Env} (h : ∀ b, b < k ∨ b ∈ fs → E' b = E b) : ∀ a : Array Value, okvA k fs a = true → renA E' a = renA E a
  | ⟨l⟩, hn => by simp only [okvA] at hn; simp only [renA, okvL_ren h l hn]
theorem okvL_ren {k : Nat} {fs : List Nat} {E E' : Env} (h : ∀ b, b < k ∨ b ∈ fs → E' b = E b) : ∀ l : List Value, okvL k fs l = true → renL E' l = renL E l
  | [], _ => rfl
  | v :: l, hn => by simp only [okvL, Bool.and_eq_true] at hn; simp only [renL, okv_ren h v hn.1, okvL_ren h l hn.2]
end
theorem beq2 {a b : Nat} (h : Nat.beq a b = true) : a = b := Nat.eq_of_beq_eq_true h
theorem ba_ext {s s' : ByteArray} (h : s.data.toList = s'.data.toList) : s = s' := by
  cases s; cases s'
  simp only at h
  congr 1
  exact Array.ext' h
mutual
theorem veq_eq : ∀ v v' : Value, veq v v' = true → v = v'
  | .pointer (some ⟨b, o, none⟩), v', h => by
    cases v' <;> try (simp [veq] at h; done)
    rename_i p
    cases p with
    | none => simp [veq] at h
    | some a =>
      obtain ⟨b', o', sp⟩ := a
      cases sp with
      | some _ => simp [veq] at h
      | none => simp only [veq, Bool.and_eq_true] at h; rw [beq2 h.1, beq2 h.2]
  | .pointer (some ⟨b, o, some _⟩), v', h => by simp [veq] at h
  | .slice (some ⟨b, o, none⟩) m c, v', h => by
    cases v' <;> try (simp [veq] at h; done)
    rename_i p m' c'
    cases p with
    | none => simp [veq] at h
    | some a =>
      obtain ⟨b', o', sp⟩ := a
      cases sp with
      | some _ => simp [veq] at h
      | none => simp only [veq, Bool.and_eq_true] at h; rw [beq2 h.1.1.1, beq2 h.1.1.2, beq2 h.1.2, beq2 h.2]
  | .slice (some ⟨b, o, some _⟩) m c, v', h => by simp [veq] at h
  | .map (some r), v', h => by
    cases v' <;> try (simp [veq] at h; done)
    rename_i p
    cases p with
    | none => simp [veq] at h
    | some r' => simp only [veq] at h; rw [beq2 h]
  | .agg cs, v', h => by
    cases v' <;> try (simp [veq] at h; done)
    simp only [veq] at h; rw [veqA_eq _ _ h]
  | .tuple cs, v', h => by
    cases v' <;> try (simp [veq] at h; done)
    simp only [veq] at h; rw [veqA_eq _ _ h]
  | .pointer none, v', h => by
    cases v' <;> try (simp [veq] at h; done)
    rename_i p
    cases p with
    | none => rfl
    | some a => simp [veq] at h
  | .slice none m c, v', h => by
    cases v' <;> try (simp [veq] at h; done)
    rename_i p m' c'
    cases p with
    | none => simp only [veq, Bool.and_eq_true] at h; rw [beq2 h.1, beq2 h.2]
    | some a => simp [veq] at h
  | .map none, v', h => by
    cases v' <;> try (simp [veq] at h; done)
    rename_i p
    cases p with
    | none => rfl
    | some a => simp [veq] at h
  | .bool b, v', h => by
    cases v' <;> try (simp [veq] at h; done)
    simp only [veq] at h
    simpa using h
  | .int k x, v', h => by
    cases v' <;> try (simp [veq] at h; done)
    simp only [veq, Bool.and_eq_true, decide_eq_true_eq] at h
    rw [h.1, h.2]
  | .string s, v', h => by
    cases v' <;> try (simp [veq] at h; done)
    simp only [veq, decide_eq_true_eq] at h
    rw [ba_ext h]
  | .nilFunc, v', h => by cases v' <;> first | rfl | (simp [veq] at h; done)
  | .nilIface, v', h => by cases v' <;> first | rfl | (simp [veq] at h; done)
  | .chan _, v', h => by simp [veq] at h
  | .func fn fi ca, v', h => by
    cases v' <;> try (simp [veq] at h; done)
    rename_i fn' fi' ca'
    cases fn <;> try (simp [veq] at h; done)
    cases fn' <;> try (simp [veq] at h; done)
    simp only [veq, Bool.and_eq_true] at h
    rw [beq2 h.1.1, veqA_eq _ _ h.1.2, veqA_eq _ _ h.2]
  | .iface t v, v', h => by
    cases v' <;> try (simp [veq] at h; done)
    simp only [veq, Bool.and_eq_true] at h
    rw [beq2 h.1, veq_eq _ _ h.2]
  | .float .., v', h => by simp [veq] at h
  | .complex .., v', h => by simp [veq] at h
theorem veqA_eq : ∀ a a' : Array Value, veqA a a' = true → a = a'
  | ⟨l⟩, ⟨l'⟩, h => by simp only [veqA] at h; rw [veqL_eq l l' h]
theorem veqL_eq : ∀ l l' : List Value, veqL l l' = true → l = l'
  | [], [], _ => rfl
  | [], _ :: _, h => by simp [veqL] at h
  | _ :: _, [], h => by simp [veqL] at h
  | v :: l, v' :: l', h => by simp only [veqL, Bool.and_eq_true] at h; rw [veq_eq v v' h.1, veqL_eq l l' h.2]
end
section
variable {P : Program} {A A' : AH} {r : XR} {ρ : Rho} {ty : TypeId} {op : Op} {v : Value}
theorem bifT {α : Type} {c : Bool} {x : Option α} {y : α} (h : (bif c then x else none) = some y) : c = true ∧ x = some y := by
  cases c with
  | false => cases h
  | true => exact ⟨rfl, h⟩
theorem bifF {α : Type} {c : Bool} {x : Option α} {y : α} (h : (bif c then none else x) = some y) : c = false ∧ x = some y := by
  cases c with
  | true => cases h
  | false => exact ⟨rfl, h⟩
theorem xconv_heap {s d : TypeId} {x : Value} (h : xconv P s d x A = some (r, A')) : A' = A := by
  unfold xconv at h
  split at h
  · cases h; rfl
  · cases h; rfl
  · split at h
    · cases h; rfl
    · split at h
      · obtain ⟨q, _, e⟩ := map_some h; cases e; rfl
      · cases h
    · cases h
  · cases h
theorem xbuiltin_heap {b : Builtin} {vs : List Value} {T : List TypeId} (hb : b = .len ∨ b = .cap ∨ b = .min ∨ b = .max) (h : xbuiltin P b vs T A = some (r, A')) : A' = A := by
  rcases hb with rfl | rfl | rfl | rfl
  · simp only [xbuiltin, xb_len] at h
    repeat' split at h
    all_goals first
      | (cases h; done)
      | (cases h; rfl)
  · simp only [xbuiltin, xb_cap] at h
    repeat' split at h
    all_goals first
      | (cases h; done)
      | (have h := (bifF h).2; cases h; rfl)
  · simp only [xbuiltin, xb_min] at h
    repeat' split at h
    all_goals first
      | (cases h; done)
      | (obtain ⟨q, _, e⟩ := map_some h; cases e; rfl)
  · simp only [xbuiltin, xb_max] at h
    repeat' split at h
    all_goals first
      | (cases h; done)
      | (obtain ⟨q, _, e⟩ := map_some h; cases e; rfl)
theorem quiet_heap (hk : kindOf op = .pure ∨ kindOf op = .read) (h : xop P ty op ρ A = some (r, A')) : A' = A := by
  cases op with
  | call c =>
    obtain ⟨ce, az, T⟩ := c
    cases ce with
    | builtin b =>
      simp only [xop, xo_call, xo_bi] at h
      split at h
      · exact xbuiltin_heap (by cases b <;> simp [kindOf] at hk <;> simp) h
      · cases h
    | value f => simp [kindOf] at hk
    | invoke x name => simp [kindOf] at hk
  | convert s d x =>
    simp only [xop, xo_convert] at h
    split at h
    · exact xconv_heap h
    · cases h
  | _ => first
    | (simp [kindOf] at hk; done)
    | (simp only [xop, xo_move, xo_assign, xo_pick, xo_build, xo_nilCheck, xo_binOp, xo_unOp, xo_makeInterface, xo_makeFunc, xo_slice, xo_fieldAddr, xo_field, xo_indexAddr, xo_index, xo_extract, xo_load, xo_lookup] at h
       repeat' split at h
       all_goals first
        | (cases h; done)
        | (cases h; rfl)
        | (obtain ⟨q, _, e⟩ := map_some h; cases e; rfl)
        | (have h := (bifT h).2; cases h; rfl)
        | (have h := (bifT h).2; obtain ⟨q, _, e⟩ := map_some h; cases e; rfl))
theorem fl_shape {N : Nat} {B : AH} (hk : kindOf op = .fl) (h : xop P ty op ρ ⟨.e, N⟩ = some (.val v, B)) : ∃ ob : AO, B = (⟨.e, N⟩ : AH).add ob ∧ ob.Wf 0 ∧ ob.ro = false ∧ okv 0 [N] v = true ∧ nm v ≤ N + 1 := by
  have hN : Nat.beq N N = true := by simp
  cases op with
  | alloc t =>
    simp only [xop, xo_alloc] at h
    obtain ⟨z, hz, e⟩ := map_some h
    cases e
    obtain ⟨i, _, _, h0, _⟩ := tz_some hz
    exact ⟨_, rfl, by simp only [AO.Wf]; have := nm0_cells h0; omega, rfl, by simp [ptr, okv, hN], by simp [ptr, nm]⟩
  | makeSlice t l c =>
    simp only [xop, xo_makeSlice] at h
    split at h
    · split at h
      · rename_i z _ _ _ _ hz
        obtain ⟨_, h⟩ := bifT h
        cases h
        obtain ⟨i, _, _, h0, _⟩ := tz_some hz
        refine ⟨_, rfl, ?_, rfl, by simp [okv, hN], by simp [nm]⟩
        simp only [AO.Wf]
        have := rep_closed (nm0_cells h0)
        rw [this]
        exact Nat.le_refl _
      · cases h
    · cases h
  | makeMap t r =>
    simp only [xop, xo_makeMap] at h
    split at h
    · cases h
      exact ⟨_, rfl, fun e he => by simp at he, rfl, by simp [okv, hN], by simp [nm]⟩
    · cases h
  | call c =>
    obtain ⟨ce, az, T⟩ := c
    cases ce with
    | builtin b => cases b <;> simp [kindOf] at hk
    | value f => simp [kindOf] at hk
    | invoke x name => simp [kindOf] at hk
  | _ => simp [kindOf] at hk
end
end Go.Ex
namespace Go.Ex
open Go Go.Sx
abbrev Pl.k (p : Pl) : Cls := kindOf p.o.op
def Right (ops : List Oper) (masks : List Nat) (p : Pl) : Prop := ops[p.i]? = some p.o ∧ masks[p.i]? = some p.m
theorem pick_right (ops0 : List Oper) (masks0 : List Nat) (want : Nat) : ∀ (ops : List Oper) (masks : List Nat) (j : Nat), (∀ k, ops[k]? = ops0[j + k]?) → (∀ k, masks[k]? = masks0[j + k]?) → ∀ p ∈ pick want ops masks j, Right ops0 masks0 p := by
  intro ops
  induction ops with
  | nil => intro masks j _ _ p hp; cases masks <;> simp [pick] at hp
  | cons o l ih =>
    intro masks j h1 h2 p hp
    cases masks with
    | nil => simp [pick] at hp
    | cons m ms =>
      have i1 : ∀ k, l[k]? = ops0[j + 1 + k]? := fun k => by have := h1 (k + 1); rw [show j + 1 + k = j + (k + 1) by omega, ← this]; simp
      have i2 : ∀ k, ms[k]? = masks0[j + 1 + k]? := fun k => by have := h2 (k + 1); rw [show j + 1 + k = j + (k + 1) by omega, ← this]; simp
      simp only [pick] at hp
      cases hb : Nat.testBit want j with
      | false => rw [hb] at hp; exact ih ms (j + 1) i1 i2 p hp
      | true =>
        rw [hb] at hp
        simp only [cond_true, List.mem_cons] at hp
        rcases hp with rfl | hp
        · exact ⟨(h1 0).symm.trans rfl, (h2 0).symm.trans rfl⟩
        · exact ih ms (j + 1) i1 i2 p hp
theorem chains_right (ops0 : List Oper) (masks0 : List Nat) : ∀ (ops : List Oper) (masks : List Nat) (j : Nat), (∀ k, ops[k]? = ops0[j + k]?) → (∀ k, masks[k]? = masks0[j + k]?) → ∀ p ∈ chains ops masks j, Right ops0 masks0 p := by
  intro ops
  induction ops with
  | nil => intro masks j _ _ p hp; cases masks <;> simp [chains] at hp
  | cons o l ih =>
    intro masks j h1 h2 p hp
    cases masks with
    | nil => simp [chains] at hp
    | cons m ms =>
      have i1 : ∀ k, l[k]? = ops0[j + 1 + k]? := fun k => by have := h1 (k + 1); rw [show j + 1 + k = j + (k + 1) by omega, ← this]; simp
      have i2 : ∀ k, ms[k]? = masks0[j + 1 + k]? := fun k => by have := h2 (k + 1); rw [show j + 1 + k = j + (k + 1) by omega, ← this]; simp
      simp only [chains] at hp
      split at hp
      · simp only [List.mem_cons] at hp
        rcases hp with rfl | hp
        · exact ⟨(h1 0).symm.trans rfl, (h2 0).symm.trans rfl⟩
        · exact ih ms (j + 1) i1 i2 p hp
      · exact ih ms (j + 1) i1 i2 p hp
theorem plan_right {ops : List Oper} {masks : List Nat} : ∀ (cs : List Pl) (placed : Nat), (∀ p ∈ cs, Right ops masks p) → ∀ p ∈ plan ops masks cs placed, Right ops masks p := by
  intro cs
  induction cs with
  | nil => intro placed _ p hp; exact pick_right ops masks _ ops masks 0 (by simp) (by simp) p hp
  | cons c cs ih =>
    intro placed h p hp
    simp only [plan, List.mem_append, List.mem_cons] at hp
    rcases hp with hp | rfl | hp
    · exact pick_right ops masks _ ops masks 0 (by simp) (by simp) p hp
    · exact h p (List.mem_cons_self ..)
    · exact ih _ (fun q hq => h q (List.mem_cons_of_mem _ hq)) p hp
theorem nextCh_spec {f : Nat} : ∀ (l : List Pl) (u : Nat) (p : Pl), nextCh f l = true → l[u]? = some p → p.k = .ch → (∀ (x : Nat) (q : Pl), x < u → l[x]? = some q → q.k ≠ .ch) → Nat.testBit p.m f = true := by
  intro l
  induction l with
  | nil => intro u p _ h; simp at h
  | cons q l ih =>
    intro u p h hu hk hn
    simp only [nextCh] at h
    cases u with
    | zero =>
      simp at hu
      subst hu
      split at h
      · exact h
      · rename_i hx; exact absurd hk hx
    | succ u =>
      split at h
      · rename_i hx; exact absurd hx (hn 0 q (by omega) rfl)
      · exact ih u p h (by simpa using hu) hk fun x r hx hr => hn (x + 1) r (by omega) (by simpa using hr)
theorem plOk_spec {all : Nat} : ∀ (l : List Pl) (pl cb : Nat), plOk all l pl cb = true →
    (∀ (t : Nat) (p : Pl), l[t]? = some p → Nat.testBit pl p.i = false ∧ (∀ k, Nat.testBit p.m k = true → Nat.testBit pl k = true ∨ ∃ (t' : Nat) (p' : Pl), t' < t ∧ l[t']? = some p' ∧ p'.i = k) ∧ (∀ (t' : Nat) (p' : Pl), t' < t → l[t']? = some p' → p'.i ≠ p.i) ∧
      (p.k = .ch → (∀ k, Nat.testBit cb k = true → Nat.testBit p.m k = true) ∧ ∀ (t' : Nat) (p' : Pl), t' < t → l[t']? = some p' → p'.k = .ch → Nat.testBit p.m p'.i = true) ∧
      (p.k = .fl → ∀ (u : Nat) (q : Pl), t < u → l[u]? = some q → q.k = .ch → (∀ (x : Nat) (r : Pl), t < x → x < u → l[x]? = some r → r.k ≠ .ch) → Nat.testBit q.m p.i = true)) ∧
    (∀ k, Nat.testBit all k = true → Nat.testBit pl k = true ∨ ∃ (t : Nat) (p : Pl), l[t]? = some p ∧ p.i = k) := by
  intro l
  induction l with
  | nil =>
    intro pl cb h
    have := Nat.eq_of_beq_eq_true h
    subst this
    exact ⟨fun t p hp => by simp at hp, fun k hk => .inl hk⟩
  | cons q l ih =>
    intro pl cb h
    simp only [plOk, Bool.and_eq_true] at h
    obtain ⟨⟨h1, h2⟩, h3⟩ := h
    have h1 : Nat.testBit pl q.i = false := by simpa using h1
    have key : ∀ cb', plOk all l (pl ||| 2 ^ q.i) cb' = true → (q.k = .ch → cb' = cb ||| 2 ^ q.i) → (q.k ≠ .ch → cb' = cb) → (q.k = .ch → sub cb q.m = true) → (q.k = .fl → nextCh q.i l = true) →
        (∀ (t : Nat) (p : Pl), (q :: l)[t]? = some p → Nat.testBit pl p.i = false ∧ (∀ k, Nat.testBit p.m k = true → Nat.testBit pl k = true ∨ ∃ (t' : Nat) (p' : Pl), t' < t ∧ (q :: l)[t']? = some p' ∧ p'.i = k) ∧ (∀ (t' : Nat) (p' : Pl), t' < t → (q :: l)[t']? = some p' → p'.i ≠ p.i) ∧
          (p.k = .ch → (∀ k, Nat.testBit cb k = true → Nat.testBit p.m k = true) ∧ ∀ (t' : Nat) (p' : Pl), t' < t → (q :: l)[t']? = some p' → p'.k = .ch → Nat.testBit p.m p'.i = true) ∧
          (p.k = .fl → ∀ (u : Nat) (q' : Pl), t < u → (q :: l)[u]? = some q' → q'.k = .ch → (∀ (x : Nat) (r : Pl), t < x → x < u → (q :: l)[x]? = some r → r.k ≠ .ch) → Nat.testBit q'.m p.i = true)) ∧
        (∀ k, Nat.testBit all k = true → Nat.testBit pl k = true ∨ ∃ (t : Nat) (p : Pl), (q :: l)[t]? = some p ∧ p.i = k) := by
      intro cb' h4 hc1 hc2 hs hf
      obtain ⟨IH1, IH2⟩ := ih _ _ h4
      refine ⟨fun t p hp => ?_, fun k hk => ?_⟩
      · cases t with
        | zero =>
          simp at hp
          subst hp
          refine ⟨h1, fun k hk => .inl (sub_bit h2 hk), fun t' p' ht => by omega, fun hk => ⟨fun k hk' => sub_bit (hs hk) hk', fun t' p' ht => by omega⟩, fun hk u q' hu hq' hk' hn => ?_⟩
          cases u with
          | zero => omega
          | succ u => exact nextCh_spec l u q' (hf hk) (by simpa using hq') hk' fun x r hx hr => hn (x + 1) r (by omega) (by omega) (by simpa using hr)
        | succ t =>
          obtain ⟨g1, g2, g3, g4, g5⟩ := IH1 t p (by simpa using hp)
          have g1' : Nat.testBit pl p.i = false ∧ q.i ≠ p.i := by
            have hn : ¬ (Nat.testBit pl p.i = true ∨ Nat.testBit (2 ^ q.i) p.i = true) := by
              rw [← bit_or, g1]; simp
            refine ⟨?_, fun e => hn (.inr (bit_pow.2 e))⟩
            cases hb : Nat.testBit pl p.i with
            | false => rfl
            | true => exact absurd (.inl hb) hn
          refine ⟨g1'.1, fun k hk => ?_, fun t' p' ht hp' => ?_, fun hk => ⟨fun k hk' => ?_, fun t' p' ht hp' hk' => ?_⟩, fun hk u q' hu hq' hk' hn => ?_⟩
          · rcases g2 k hk with h5 | ⟨t', p', ht, hp', e⟩
            · rw [bit_or, bit_pow] at h5
              rcases h5 with h5 | h5
              · exact .inl h5
              · exact .inr ⟨0, q, by omega, rfl, h5⟩
            · exact .inr ⟨t' + 1, p', by omega, by simpa using hp', e⟩
          · cases t' with
            | zero => simp at hp'; subst hp'; exact g1'.2
            | succ t' => exact g3 t' p' (by omega) (by simpa using hp')
          · refine (g4 hk).1 k ?_
            by_cases hq : q.k = .ch
            · rw [hc1 hq, bit_or]; exact .inl hk'
            · rw [hc2 hq]; exact hk'
          · cases t' with
            | zero =>
              simp at hp'
              subst hp'
              refine (g4 hk).1 q.i ?_
              rw [hc1 hk', bit_or, bit_pow]
              exact .inr rfl
            | succ t' => exact (g4 hk).2 t' p' (by omega) (by simpa using hp') hk'
          · cases u with
            | zero => omega
            | succ u => exact g5 hk u q' (by omega) (by simpa using hq') hk' fun x r hx hx' hr => hn (x + 1) r (by omega) (by omega) (by simpa using hr)
      · rcases IH2 k hk with h5 | ⟨t, p, hp, e⟩
        · rw [bit_or, bit_pow] at h5
          rcases h5 with h5 | h5
          · exact .inl h5
          · exact .inr ⟨0, q, rfl, h5⟩
        · exact .inr ⟨t + 1, p, by simpa using hp, e⟩
    split at h3
    · rename_i hk
      rw [Bool.and_eq_true] at h3
      exact key _ h3.2 (fun _ => rfl) (fun h => absurd hk h) (fun _ => h3.1) (fun h => by rw [show q.k = .ch from hk] at h; cases h)
    · rename_i hk
      rw [Bool.and_eq_true] at h3
      exact key _ h3.2 (fun h => by rw [show q.k = .fl from hk] at h; cases h) (fun _ => rfl) (fun h => by rw [show q.k = .fl from hk] at h; cases h) (fun _ => h3.1)
    · rename_i hk1 hk2
      exact key _ h3 (fun h => absurd h hk1) (fun _ => rfl) (fun h => absurd h hk1) (fun h => absurd h hk2)
section
variable {P : Program} {rec : Rec} {ops : List Oper} {n : Nat}
def sgF (rs : List Rc) (z : Sl') (t : Nat) : Sl' := match rs[t]? with
  | some r => r.σ
  | none => z
def ahF (rs : List Rc) (z : AH) (t : Nat) : AH := match rs[t]? with
  | some r => r.A
  | none => z
def bhF (rs : List Rc) (z : AH) (t : Nat) : AH := match rs[t]? with
  | some r => r.B
  | none => z
structure StepF (P : Program) (rec : Rec) (ops : List Oper) (n : Nat) (r : Rc) (σ1 : Sl') (A1 B1 : AH) : Prop where
  σ : σ1 = xput r.σ r.p.o.dst r.v
  nmv : nm r.v ≤ A1.nf
  nf : r.A.nf ≤ A1.nf
  B : B1 = nextB r.p.o A1 r.B
  tk : r.tk = xtaken ops n r.σ r.p.o.guard
  off : r.tk = false → r.v = undef ∧ A1 = r.A
  on : r.tk = true → xone P rec r.p.o n r.σ r.A r.B = some (r.v, A1)
theorem xp1_spec : ∀ (l : List Pl) (σ : Sl') (A B : AH) (rs : List Rc) (σ' : Sl') (A' B' : AH), xp1 P rec ops n l σ A B = some (rs, σ', A', B') →
    rs.map (·.p) = l ∧ sgF rs σ' 0 = σ ∧ ahF rs A' 0 = A ∧ bhF rs B' 0 = B ∧ ∀ (t : Nat) (r : Rc), rs[t]? = some r → StepF P rec ops n r (sgF rs σ' (t + 1)) (ahF rs A' (t + 1)) (bhF rs B' (t + 1)) := by
  intro l
  induction l with
  | nil =>
    intro σ A B rs σ' A' B' h
    cases h
    exact ⟨rfl, rfl, rfl, rfl, fun t r hr => by simp at hr⟩
  | cons p l ih =>
    intro σ A B rs σ' A' B' h
    simp only [xp1] at h
    split at h
    · rename_i v A1 tk hx
      obtain ⟨hb, h⟩ := bifT h
      split at h
      · rename_i rs1 z hz
        cases h
        obtain ⟨h1, h2, h3, h4, h5⟩ := ih _ _ _ _ _ _ _ hz
        rw [Bool.and_eq_true] at hb
        have hst : StepF P rec ops n ⟨p, σ, A, B, v, tk⟩ (sgF rs1 σ' 0) (ahF rs1 A' 0) (bhF rs1 B' 0) := by
          rw [h2, h3, h4]
          refine ⟨rfl, Nat.le_of_ble_eq_true hb.1, Nat.le_of_ble_eq_true hb.2, rfl, ?_, ?_, ?_⟩
          · simp only
            cases ht : xtaken ops n σ p.o.guard with
            | true =>
              rw [ht] at hx
              simp only [cond_true] at hx
              obtain ⟨y, _, e⟩ := map_some hx
              cases e; rfl
            | false => rw [ht] at hx; cases hx; rfl
          · intro ht
            simp only at ht
            subst ht
            cases ht : xtaken ops n σ p.o.guard with
            | true =>
              rw [ht] at hx
              simp only [cond_true] at hx
              obtain ⟨y, _, e⟩ := map_some hx
              cases e
            | false => rw [ht] at hx; cases hx; exact ⟨rfl, rfl⟩
          · intro ht
            simp only at ht
            subst ht
            cases ht : xtaken ops n σ p.o.guard with
            | true =>
              rw [ht] at hx
              simp only [cond_true] at hx
              obtain ⟨y, hy, e⟩ := map_some hx
              cases e; exact hy
            | false => rw [ht] at hx; cases hx
        refine ⟨by simp [h1], rfl, rfl, rfl, fun t r hr => ?_⟩
        cases t with
        | zero => simp at hr; subst hr; exact hst
        | succ t => exact h5 t r (by simpa using hr)
      · cases h
    · cases h
def Bnd (rs : List Rc) (u : Nat) : Prop := u = rs.length ∨ ∃ r, rs[u]? = some r ∧ r.p.k = .ch
theorem hsOf_spec {Bf : AH} : ∀ (rs : List Rc) (cb u : Nat), Bnd rs u → ∃ cb', (cb', bhF rs Bf u) ∈ hsOf rs cb Bf ∧ ∀ k, Nat.testBit cb' k = true ↔ Nat.testBit cb k = true ∨ ∃ (t : Nat) (r : Rc), t < u ∧ rs[t]? = some r ∧ r.p.k = .ch ∧ r.p.i = k := by
  intro rs
  induction rs with
  | nil =>
    intro cb u hu
    rcases hu with rfl | ⟨r, hr, _⟩
    · exact ⟨cb, by simp [hsOf, bhF], fun k => ⟨.inl, fun h => by rcases h with h | ⟨t, r, ht, _⟩; exact h; simp at ht⟩⟩
    · simp at hr
  | cons q rs ih =>
    intro cb u hu
    cases u with
    | zero =>
      rcases hu with h | ⟨r, hr, hk⟩
      · simp at h
      · simp at hr
        subst hr
        refine ⟨cb, ?_, fun k => ⟨.inl, fun h => by rcases h with h | ⟨t, r, ht, _⟩; exact h; omega⟩⟩
        simp only [hsOf]
        rw [show kindOf q.p.o.op = .ch from hk]
        simp [bhF]
    | succ u =>
      have hu' : Bnd rs u := by
        rcases hu with h | ⟨r, hr, hk⟩
        · exact .inl (by simpa using h)
        · exact .inr ⟨r, by simpa using hr, hk⟩
      by_cases hq : q.p.k = .ch
      · obtain ⟨cb', h1, h2⟩ := ih (cb ||| 2 ^ q.p.i) u hu'
        refine ⟨cb', ?_, fun k => ?_⟩
        · simp only [hsOf]
          rw [show kindOf q.p.o.op = .ch from hq]
          exact List.mem_cons_of_mem _ h1
        · rw [h2, bit_or, bit_pow]
          constructor
          · rintro ((h | h) | ⟨t, r, ht, hr, h⟩)
            · exact .inl h
            · exact .inr ⟨0, q, by omega, rfl, hq, h⟩
            · exact .inr ⟨t + 1, r, by omega, by simpa using hr, h⟩
          · rintro (h | ⟨t, r, ht, hr, hk, h⟩)
            · exact .inl (.inl h)
            · cases t with
              | zero => simp at hr; subst hr; exact .inl (.inr h)
              | succ t => exact .inr ⟨t, r, by omega, by simpa using hr, hk, h⟩
      · obtain ⟨cb', h1, h2⟩ := ih cb u hu'
        refine ⟨cb', ?_, fun k => ?_⟩
        · simp only [hsOf]
          exact h1
        · rw [h2]
          constructor
          · rintro (h | ⟨t, r, ht, hr, h⟩)
            · exact .inl h
            · exact .inr ⟨t + 1, r, by omega, by simpa using hr, h⟩
          · rintro (h | ⟨t, r, ht, hr, hk, h⟩)
            · exact .inl h
            · cases t with
              | zero => simp at hr; subst hr; exact absurd hk hq
              | succ t => exact .inr ⟨t, r, by omega, by simpa using hr, hk, h⟩
theorem waiters_bit {k j : Nat} : ∀ (l : List Pl), Nat.testBit (waiters k l) j = true ↔ ∃ p ∈ l, p.k = .ch ∧ Nat.testBit p.m k = true ∧ p.i = j := by
  intro l
  induction l with
  | nil => simp [waiters]
  | cons r l ih =>
    simp only [waiters]
    split
    · rename_i hk
      cases hb : Nat.testBit r.m k with
      | true =>
        simp only [cond_true, bit_or, bit_pow, ih, List.mem_cons]
        constructor
        · rintro (h | ⟨q, hq, h⟩)
          · exact ⟨r, .inl rfl, hk, hb, h⟩
          · exact ⟨q, .inr hq, h⟩
        · rintro ⟨q, rfl | hq, h⟩
          · exact .inl h.2.2
          · exact .inr ⟨q, hq, h⟩
      | false =>
        simp only [cond_false, ih, List.mem_cons]
        constructor
        · rintro ⟨q, hq, h⟩; exact ⟨q, .inr hq, h⟩
        · rintro ⟨q, rfl | hq, h⟩
          · rw [hb] at h; simp at h
          · exact ⟨q, hq, h⟩
    · rename_i hk
      rw [ih]
      simp only [List.mem_cons]
      constructor
      · rintro ⟨q, hq, h⟩; exact ⟨q, .inr hq, h⟩
      · rintro ⟨q, rfl | hq, h⟩
        · exact absurd h.1 hk
        · exact ⟨q, hq, h⟩
theorem chAll_bit {j : Nat} : ∀ (l : List Pl), Nat.testBit (chAll l) j = true ↔ ∃ p ∈ l, p.k = .ch ∧ p.i = j := by
  intro l
  induction l with
  | nil => simp [chAll]
  | cons r l ih =>
    simp only [chAll]
    split
    · rename_i hk
      simp only [bit_or, bit_pow, ih, List.mem_cons]
      constructor
      · rintro (h | ⟨q, hq, h⟩)
        · exact ⟨r, .inl rfl, hk, h⟩
        · exact ⟨q, .inr hq, h⟩
      · rintro ⟨q, rfl | hq, h⟩
        · exact .inl h.2
        · exact .inr ⟨q, hq, h⟩
    · rename_i hk
      rw [ih]
      simp only [List.mem_cons]
      constructor
      · rintro ⟨q, hq, h⟩; exact ⟨q, .inr hq, h⟩
      · rintro ⟨q, rfl | hq, h⟩
        · exact absurd h.1 hk
        · exact ⟨q, hq, h⟩
theorem quietPl_spec : ∀ (l : List Pl), quietPl l = true → ∀ p ∈ l, p.k ≠ .ch ∧ p.k ≠ .fl := by
  intro l
  induction l with
  | nil => intro _ p hp; cases hp
  | cons r l ih =>
    intro h p hp
    simp only [quietPl] at h
    split at h
    · cases h
    · cases h
    · rename_i h1 h2
      rcases List.mem_cons.1 hp with rfl | hp
      · exact ⟨h1, h2⟩
      · exact ih h p hp
theorem flNames_mem {m b : Nat} : ∀ (rs : List Rc), b ∈ flNames m rs → ∃ r ∈ rs, r.p.k = .fl ∧ r.tk = true ∧ Nat.testBit m r.p.i = true ∧ r.A.nf = b := by
  intro rs
  induction rs with
  | nil => simp [flNames]
  | cons r rs ih =>
    intro h
    simp only [flNames] at h
    have up : (∃ q ∈ rs, q.p.k = .fl ∧ q.tk = true ∧ Nat.testBit m q.p.i = true ∧ q.A.nf = b) → ∃ q ∈ r :: rs, q.p.k = .fl ∧ q.tk = true ∧ Nat.testBit m q.p.i = true ∧ q.A.nf = b := fun ⟨q, hq, h⟩ => ⟨q, List.mem_cons_of_mem _ hq, h⟩
    split at h
    · rename_i hk
      cases hb : (r.tk && Nat.testBit m r.p.i) with
      | false => rw [hb] at h; exact up (ih h)
      | true =>
        rw [hb] at h
        simp only [cond_true, List.mem_cons] at h
        rw [Bool.and_eq_true] at hb
        rcases h with h | h
        · exact ⟨r, List.mem_cons_self .., hk, hb.1, hb.2, h.symm⟩
        · exact up (ih h)
    · exact up (ih h)
theorem chkQ_spec {rd : Bool} {r : Rc} {fs : List Nat} {mk wk : Nat} : ∀ (hs : List (Nat × AH)), chkQ P rd n r fs mk wk hs = true → ∀ cb H, (cb, H) ∈ hs → sub mk cb = true → wk &&& cb = 0 →
    okv H.nf fs r.v = true ∧ (rd = true → r.tk = true → ∃ v, xq P r.p.o n r.σ H.h = some v ∧ v = r.v) := by
  intro hs
  induction hs with
  | nil => intro _ cb H h; cases h
  | cons x hs ih =>
    obtain ⟨cb0, H0⟩ := x
    intro h cb H hm h1 h2
    simp only [chkQ, Bool.and_eq_true] at h
    rcases List.mem_cons.1 hm with e | hm
    · cases e
      have h3 := h.1
      have hb : (sub mk cb0 && Nat.beq (wk &&& cb0) 0) = true := by rw [h1, h2]; rfl
      rw [hb] at h3
      simp only [cond_true, Bool.and_eq_true] at h3
      refine ⟨h3.1, fun hr ht => ?_⟩
      have h4 := h3.2
      rw [hr, ht] at h4
      simp only [Bool.and_self, cond_true] at h4
      split at h4
      · rename_i v hv; exact ⟨v, hv, veq_eq _ _ h4⟩
      · cases h4
    · exact ih h.2 cb H hm h1 h2
theorem chkAll_spec {hs : List (Nat × AH)} {pln : List Pl} {all : List Rc} : ∀ (rs : List Rc), chkAll P n hs pln all rs = true → ∀ r ∈ rs, (r.p.k = .pure → chkQ P false n r (flNames r.p.m all) (r.p.m &&& chAll pln) (waiters r.p.i pln) hs = true) ∧
    (r.p.k = .read → chkQ P true n r (flNames r.p.m all) (r.p.m &&& chAll pln) (waiters r.p.i pln) hs = true) := by
  intro rs
  induction rs with
  | nil => intro _ r hr; cases hr
  | cons q rs ih =>
    intro h r hr
    simp only [chkAll, Bool.and_eq_true] at h
    rcases List.mem_cons.1 hr with rfl | hr
    · have h1 := h.1
      exact ⟨fun hk => by rw [show kindOf r.p.o.op = .pure from hk] at h1; exact h1, fun hk => by rw [show kindOf r.p.o.op = .read from hk] at h1; exact h1⟩
    · exact ih h.2 r hr
end
end Go.Ex
namespace Go.Ex
open Go Go.Sx
structure Dr (P : Program) (rec : Rec) (ops : List Oper) (n : Nat) (masks : List Nat) (rs : List Rc) (σ' : Sl') (A' B' : AH) : Prop where
  regf : RegF ops (preM masks)
  len : rs.length = ops.length
  ent : ∀ (t : Nat) (r : Rc), rs[t]? = some r → Right ops masks r.p
  bef : ∀ (t : Nat) (r : Rc) (k : Nat), rs[t]? = some r → Nat.testBit r.p.m k = true → ∃ (t' : Nat) (r' : Rc), t' < t ∧ rs[t']? = some r' ∧ r'.p.i = k
  inj : ∀ (t t' : Nat) (r r' : Rc), rs[t]? = some r → rs[t']? = some r' → r.p.i = r'.p.i → t = t'
  all : ∀ i, i < ops.length → ∃ (t : Nat) (r : Rc), rs[t]? = some r ∧ r.p.i = i
  chord : ∀ (t t' : Nat) (r r' : Rc), rs[t]? = some r → rs[t']? = some r' → t' < t → r.p.k = .ch → r'.p.k = .ch → Nat.testBit r.p.m r'.p.i = true
  flo : ∀ (t u : Nat) (r r' : Rc), rs[t]? = some r → rs[u]? = some r' → t < u → r.p.k = .fl → r'.p.k = .ch → (∀ (x : Nat) (q : Rc), t < x → x < u → rs[x]? = some q → q.p.k ≠ .ch) → Nat.testBit r'.p.m r.p.i = true
  step : ∀ (t : Nat) (r : Rc), rs[t]? = some r → StepF P rec ops n r (sgF rs σ' (t + 1)) (ahF rs A' (t + 1)) (bhF rs B' (t + 1))
  same : ahF rs A' 0 = bhF rs B' 0
  big : A'.nf ≤ BIG
  chk : ∀ (t : Nat) (r : Rc) (u : Nat), rs[t]? = some r → Bnd rs u → (r.p.k = .pure ∨ r.p.k = .read) → (∀ (j : Nat) (q : Rc), rs[j]? = some q → q.p.k = .ch → Nat.testBit r.p.m q.p.i = true → j < u) →
    (∀ (j : Nat) (q : Rc), rs[j]? = some q → q.p.k = .ch → Nat.testBit q.p.m r.p.i = true → u ≤ j) →
    okv (bhF rs B' u).nf (flNames r.p.m rs) r.v = true ∧ (r.p.k = .read → r.tk = true → xq P r.p.o n r.σ (bhF rs B' u).h = some r.v)
mutual
theorem okv_nm (k : Nat) (fs : List Nat) : ∀ v : Value, nm v ≤ k → okv k fs v = true
  | .pointer (some a), hn => by simp only [nm] at hn; simp only [okv, Bool.or_eq_true]; exact .inl (blt_true (by omega))
  | .slice (some a) _ _, hn => by simp only [nm] at hn; simp only [okv, Bool.or_eq_true]; exact .inl (blt_true (by omega))
  | .map (some r), hn => by simp only [nm] at hn; simp only [okv, Bool.or_eq_true]; exact .inl (blt_true (by omega))
  | .chan (some r), hn => by simp only [nm] at hn; simp only [okv, Bool.or_eq_true]; exact .inl (blt_true (by omega))
  | .func fn fi ca, hn => by
    simp only [nm, Nat.max_le] at hn
    simp only [okv, Bool.and_eq_true]
    refine ⟨⟨?_, okvA_nm k fs fi hn.2.1⟩, okvA_nm k fs ca hn.2.2⟩
    cases fn <;> try rfl
    rename_i l
    simp only [Bool.or_eq_true]
    exact .inl (blt_true (by have := hn.1; simp at this; omega))
  | .iface t v, hn => by simp only [nm] at hn; simp only [okv]; exact okv_nm k fs v hn
  | .agg cs, hn => by simp only [nm] at hn; simp only [okv]; exact okvA_nm k fs cs hn
  | .tuple cs, hn => by simp only [nm] at hn; simp only [okv]; exact okvA_nm k fs cs hn
  | .pointer none, _ => rfl
  | .slice none _ _, _ => rfl
  | .map none, _ => rfl
  | .chan none, _ => rfl
  | .bool _, _ => rfl
  | .int _ _, _ => rfl
  | .float _ _, _ => rfl
  | .complex _ _ _, _ => rfl
  | .string _, _ => rfl
  | .nilFunc, _ => rfl
  | .nilIface, _ => rfl
theorem okvA_nm (k : Nat) (fs : List Nat) : ∀ a : Array Value, nmA a ≤ k → okvA k fs a = true
  | ⟨l⟩, hn => by simp only [nmA] at hn; simp only [okvA]; exact okvL_nm k fs l hn
theorem okvL_nm (k : Nat) (fs : List Nat) : ∀ l : List Value, nmL l ≤ k → okvL k fs l = true
  | [], _ => rfl
  | v :: l, hn => by simp only [nmL, Nat.max_le] at hn; simp only [okvL, Bool.and_eq_true]; exact ⟨okv_nm k fs v hn.1, okvL_nm k fs l hn.2⟩
end
theorem xreg_dr {P : Program} {rec : Rec} {q : Bool} {ops : List Oper} {n : Nat} {σ σ' : Sl'} {A A' : AH} (h : xreg P rec q ops n σ A = some (σ', A')) :
    ∃ masks rs B', Dr P rec ops n masks rs σ' A' B' ∧ sgF rs σ' 0 = σ ∧ ahF rs A' 0 = A := by
  unfold xreg at h
  split at h
  · rename_i masks hsc
    obtain ⟨hpl, h⟩ := bifT h
    split at h
    · rename_i rs σ1 A1 B1 hx
      obtain ⟨hc, h⟩ := bifT h
      cases h
      rw [Bool.and_eq_true] at hc
      obtain ⟨hR, hlm⟩ := scan_sound hsc
      obtain ⟨h1, h2, h3, h4, h5⟩ := xp1_spec _ _ _ _ _ _ _ _ hx
      obtain ⟨p1, p2⟩ := plOk_spec _ _ _ hpl
      have hright := plan_right (ops := ops) (masks := masks) (chains ops masks 0) 0 (chains_right ops masks ops masks 0 (by simp) (by simp))
      rw [← h1] at p1 p2 hright hc
      have get : ∀ (t : Nat) (r : Rc), rs[t]? = some r → (rs.map (·.p))[t]? = some r.p := fun t r hr => by rw [List.getElem?_map, hr]; rfl
      have got : ∀ (t : Nat) (p : Pl), (rs.map (·.p))[t]? = some p → ∃ r, rs[t]? = some r ∧ r.p = p := fun t p hp => by
        rw [List.getElem?_map] at hp
        cases hr : rs[t]? with
        | none => rw [hr] at hp; cases hp
        | some r => rw [hr] at hp; exact ⟨r, rfl, by simpa using hp⟩
      have ent : ∀ (t : Nat) (r : Rc), rs[t]? = some r → Right ops masks r.p := fun t r hr => hright r.p (List.mem_of_getElem? (get t r hr))
      have inj : ∀ (t t' : Nat) (r r' : Rc), rs[t]? = some r → rs[t']? = some r' → r.p.i = r'.p.i → t = t' := by
        intro t t' r r' hr hr' e
        rcases Nat.lt_trichotomy t t' with hlt | he | hlt
        · exact absurd e ((p1 t' r'.p (get _ _ hr')).2.2.1 t r.p hlt (get _ _ hr))
        · exact he
        · exact absurd e.symm ((p1 t r.p (get _ _ hr)).2.2.1 t' r'.p hlt (get _ _ hr'))
      have hall : ∀ i, i < ops.length → ∃ (t : Nat) (r : Rc), rs[t]? = some r ∧ r.p.i = i := by
        intro i hi
        have : Nat.testBit (2 ^ ops.length - 1) i = true := by rw [Nat.testBit_two_pow_sub_one]; simpa using hi
        rcases p2 i this with h6 | ⟨t, p, hp, e⟩
        · simp at h6
        · obtain ⟨r, hr, rfl⟩ := got t p hp
          exact ⟨t, r, hr, e⟩
      have hilt : ∀ (t : Nat) (r : Rc), rs[t]? = some r → r.p.i < ops.length := fun t r hr => (List.getElem?_eq_some_iff.1 (ent t r hr).1).1
      have hlen : rs.length = ops.length := by
        have l1 : (rs.map (·.p.i)).Nodup := by
          rw [List.nodup_iff_pairwise_ne, List.pairwise_iff_getElem]
          intro a b ha hb hab e
          simp only [List.length_map] at ha hb
          simp only [List.getElem_map] at e
          have := inj a b rs[a] rs[b] (List.getElem?_eq_getElem ha) (List.getElem?_eq_getElem hb) e
          omega
        have l2 : ∀ x ∈ rs.map (·.p.i), x ∈ List.range ops.length := by
          intro x hx
          obtain ⟨r, hr, rfl⟩ := List.mem_map.1 hx
          obtain ⟨t, ht⟩ := List.mem_iff_getElem?.1 hr
          exact List.mem_range.2 (hilt t r ht)
        have l3 : ∀ x ∈ List.range ops.length, x ∈ rs.map (·.p.i) := by
          intro x hx
          obtain ⟨t, r, hr, e⟩ := hall x (List.mem_range.1 hx)
          exact List.mem_map.2 ⟨r, List.mem_of_getElem? hr, e⟩
        have p : (rs.map (·.p.i)).Perm (List.range ops.length) := (List.perm_ext_iff_of_nodup l1 List.nodup_range).2 fun x => ⟨l2 x, l3 x⟩
        simpa using p.length_eq
      refine ⟨masks, rs, B1, ⟨hR, hlen, ent, ?_, inj, hall, ?_, ?_, h5, by rw [h3, h4], Nat.le_of_ble_eq_true hc.1, ?_⟩, h2, h3⟩
      · intro t r k hr hk
        rcases (p1 t r.p (get _ _ hr)).2.1 k hk with h6 | ⟨t', p', ht, hp', e⟩
        · simp at h6
        · obtain ⟨r', hr', rfl⟩ := got t' p' hp'
          exact ⟨t', r', ht, hr', e⟩
      · intro t t' r r' hr hr' hlt hk hk'
        exact ((p1 t r.p (get _ _ hr)).2.2.2.1 hk).2 t' r'.p hlt (get _ _ hr') hk'
      · intro t u r r' hr hr' hlt hk hk' hn
        refine (p1 t r.p (get _ _ hr)).2.2.2.2 hk u r'.p hlt (get _ _ hr') hk' fun x q hx hx' hq => ?_
        obtain ⟨rq, hrq, rfl⟩ := got x q hq
        exact hn x rq hx hx' hrq
      · intro t r u hr hu hk c1 c2
        rcases Bool.or_eq_true_iff.1 hc.2 with hqt | hc2
        · -- nothing is written and nothing is new
          have hqs := quietPl_spec _ hqt
          have kq : ∀ (x : Nat) (q : Rc), rs[x]? = some q → q.p.k ≠ .ch ∧ q.p.k ≠ .fl := fun x q hq => hqs q.p (List.mem_of_getElem? (get x q hq))
          have hstay : ∀ x, x ≤ rs.length → ahF rs A' x = A ∧ bhF rs B1 x = A := by
            intro x
            induction x with
            | zero => intro _; exact ⟨h3, h4⟩
            | succ x ih =>
              intro hx
              obtain ⟨q, hq⟩ : ∃ q, rs[x]? = some q := ⟨_, List.getElem?_eq_getElem (by omega)⟩
              obtain ⟨i1, i2⟩ := ih (by omega)
              have hs := h5 x q hq
              have e1 : q.A = A := by have : ahF rs A' x = q.A := by unfold ahF; rw [hq]
                                      rw [← this]; exact i1
              have e2 : q.B = A := by have : bhF rs B1 x = q.B := by unfold bhF; rw [hq]
                                      rw [← this]; exact i2
              have hA : ahF rs A' (x + 1) = q.A := by
                cases ht : q.tk with
                | false => exact (hs.off ht).2
                | true =>
                  have h6 := hs.on ht
                  unfold xone at h6
                  cases hkk : kindOf q.p.o.op with
                  | pure => rw [hkk] at h6; obtain ⟨v, _, e⟩ := map_some h6; simp only [Prod.mk.injEq] at e; exact e.2.symm
                  | read => rw [hkk] at h6; obtain ⟨v, _, e⟩ := map_some h6; simp only [Prod.mk.injEq] at e; exact e.2.symm
                  | fl => exact absurd hkk (kq x q hq).2
                  | ch => exact absurd hkk (kq x q hq).1
              refine ⟨hA.trans e1, ?_⟩
              rw [hs.B]
              unfold nextB
              split
              · rename_i hx2; exact absurd hx2 (kq x q hq).1
              · exact e2
          have hul : u ≤ rs.length := by
            rcases hu with h6 | ⟨q, hq, _⟩
            · omega
            · exact Nat.le_of_lt (List.getElem?_eq_some_iff.1 hq).1
          have htl : t < rs.length := (List.getElem?_eq_some_iff.1 hr).1
          have hs := h5 t r hr
          rw [(hstay u hul).2]
          refine ⟨okv_nm _ _ _ (by have := hs.nmv; rw [(hstay (t + 1) (by omega)).1] at this; exact this), fun hk2 ht => ?_⟩
          have h6 := hs.on ht
          unfold xone at h6
          rw [show kindOf r.p.o.op = .read from hk2] at h6
          obtain ⟨v, hv, e⟩ := map_some h6
          simp only [Prod.mk.injEq] at e
          have e2 : r.B = A := by have : bhF rs B1 t = r.B := by unfold bhF; rw [hr]
                                  rw [← this]; exact (hstay t (by omega)).2
          rw [e.1, e2] at hv
          exact hv
        obtain ⟨cb', m1, m2⟩ := hsOf_spec (Bf := B1) rs 0 u hu
        have m2 : ∀ k, Nat.testBit cb' k = true ↔ ∃ (t : Nat) (r : Rc), t < u ∧ rs[t]? = some r ∧ r.p.k = .ch ∧ r.p.i = k := fun k => by rw [m2]; simp
        have s1 : sub (r.p.m &&& chAll (rs.map (·.p))) cb' = true := by
          unfold sub
          rw [Nat.beq_eq]
          apply Nat.eq_of_testBit_eq
          intro j
          cases hj : Nat.testBit (r.p.m &&& chAll (rs.map (·.p))) j with
          | false => rw [Nat.testBit_and, hj]; rfl
          | true =>
            rw [Nat.testBit_and, hj]
            rw [Nat.testBit_and] at hj
            rw [Bool.and_eq_true] at hj
            obtain ⟨pq, hpq, hqk, rfl⟩ := (chAll_bit _).1 hj.2
            obtain ⟨q, hq, rfl⟩ := List.mem_map.1 hpq
            obtain ⟨x, hx⟩ := List.mem_iff_getElem?.1 hq
            rw [(m2 _).2 ⟨x, q, c1 x q hx hqk hj.1, hx, hqk, rfl⟩]
            rfl
        have s2 : waiters r.p.i (rs.map (·.p)) &&& cb' = 0 := by
          apply Nat.eq_of_testBit_eq
          intro j
          cases hj : Nat.testBit (waiters r.p.i (rs.map (·.p)) &&& cb') j with
          | false => simp
          | true =>
            exfalso
            rw [Nat.testBit_and, Bool.and_eq_true] at hj
            obtain ⟨pq, hpq, hqk, hqm, rfl⟩ := (waiters_bit _).1 hj.1
            obtain ⟨q, hq, rfl⟩ := List.mem_map.1 hpq
            obtain ⟨x, hx⟩ := List.mem_iff_getElem?.1 hq
            obtain ⟨t', r', ht', hr', hk', e⟩ := (m2 _).1 hj.2
            have := inj t' x r' q hr' hx e
            have := c2 x q hx hqk hqm
            omega
        have hmem := List.mem_of_getElem? hr
        have hca := chkAll_spec rs hc2 r hmem
        rcases hk with hk | hk
        · have := chkQ_spec _ (hca.1 hk) cb' _ m1 s1 s2
          exact ⟨this.1, fun h => by rw [hk] at h; cases h⟩
        · have := chkQ_spec _ (hca.2 hk) cb' _ m1 s1 s2
          exact ⟨this.1, fun _ ht => by obtain ⟨v, hv, rfl⟩ := this.2 rfl ht; exact hv⟩
    · cases h
  · cases h
end Go.Ex
namespace Go.Ex
open Go Go.Sx
section
variable {P : Program} {rec : Rec} {ops : List Oper} {n : Nat} {masks : List Nat} {rs : List Rc} {σ' : Sl'} {A' B' : AH}
theorem Dr.pre (D : Dr P rec ops n masks rs σ' A' B') {t : Nat} {r : Rc} (hr : rs[t]? = some r) (k : Nat) : preM masks r.p.i k = Nat.testBit r.p.m k := by
  unfold preM
  rw [(D.ent t r hr).2]
  rfl
theorem Dr.ilt (D : Dr P rec ops n masks rs σ' A' B') {t : Nat} {r : Rc} (hr : rs[t]? = some r) : r.p.i < ops.length := (List.getElem?_eq_some_iff.1 (D.ent t r hr).1).1
theorem ahF_at {t : Nat} {r : Rc} (hr : rs[t]? = some r) : ahF rs A' t = r.A := by unfold ahF; rw [hr]
theorem bhF_at {t : Nat} {r : Rc} (hr : rs[t]? = some r) : bhF rs B' t = r.B := by unfold bhF; rw [hr]
theorem sgF_at {t : Nat} {r : Rc} (hr : rs[t]? = some r) : sgF rs σ' t = r.σ := by unfold sgF; rw [hr]
theorem ahF_end {t : Nat} (h : rs.length ≤ t) : ahF rs A' t = A' := by unfold ahF; rw [List.getElem?_eq_none h]
theorem at_lt {t : Nat} (h : t < rs.length) : ∃ r, rs[t]? = some r := ⟨_, List.getElem?_eq_getElem h⟩
theorem lt_at {t : Nat} {r : Rc} (h : rs[t]? = some r) : t < rs.length := (List.getElem?_eq_some_iff.1 h).1
theorem Dr.mono (D : Dr P rec ops n masks rs σ' A' B') {t t' : Nat} (h : t ≤ t') (h' : t' ≤ rs.length) : (ahF rs A' t).nf ≤ (ahF rs A' t').nf := by
  obtain ⟨d, rfl⟩ : ∃ d, t' = t + d := ⟨t' - t, by omega⟩
  clear h
  induction d with
  | zero => exact Nat.le_refl _
  | succ d ih =>
    obtain ⟨r, hr⟩ := at_lt (rs := rs) (t := t + d) (by omega)
    have := (D.step _ r hr).nf
    rw [← ahF_at (A' := A') hr] at this
    exact Nat.le_trans (ih (by omega)) this
theorem nextB_ch {o : Oper} {A1 B : AH} (h : kindOf o.op = .ch) : nextB o A1 B = A1 := by unfold nextB; rw [h]
theorem nextB_ne {o : Oper} {A1 B : AH} (h : kindOf o.op ≠ .ch) : nextB o A1 B = B := by
  unfold nextB
  split
  · rename_i hx; exact absurd hx h
  · rfl
theorem Dr.bnf (D : Dr P rec ops n masks rs σ' A' B') : ∀ t, t ≤ rs.length → (bhF rs B' t).nf ≤ (ahF rs A' t).nf := by
  intro t
  induction t with
  | zero => intro _; rw [D.same]; exact Nat.le_refl _
  | succ t ih =>
    intro h
    obtain ⟨r, hr⟩ := at_lt (rs := rs) (t := t) (by omega)
    have hs := D.step t r hr
    rw [hs.B]
    by_cases hk : kindOf r.p.o.op = .ch
    · rw [nextB_ch hk]; exact Nat.le_refl _
    · rw [nextB_ne hk]
      have := ih (by omega)
      rw [bhF_at hr, ahF_at hr] at this
      exact Nat.le_trans this hs.nf
theorem Dr.ground (D : Dr P rec ops n masks rs σ' A' B') {s u : Nat} (h : s ≤ u) (h' : u ≤ rs.length) (hn : ∀ (x : Nat) (q : Rc), s ≤ x → x < u → rs[x]? = some q → q.p.k ≠ .ch) : bhF rs B' s = bhF rs B' u := by
  obtain ⟨d, rfl⟩ : ∃ d, u = s + d := ⟨u - s, by omega⟩
  clear h
  induction d with
  | zero => rfl
  | succ d ih =>
    obtain ⟨r, hr⟩ := at_lt (rs := rs) (t := s + d) (by omega)
    rw [ih (by omega) fun x q hx hx' hq => hn x q hx (by omega) hq, show s + (d + 1) = s + d + 1 by omega, (D.step _ r hr).B, nextB_ne (hn _ r (by omega) (by omega) hr), bhF_at hr]
theorem Dr.seg (D : Dr P rec ops n masks rs σ' A' B') : ∀ u, u ≤ rs.length → ∃ s, s ≤ u ∧ ahF rs A' s = bhF rs B' u ∧ ∀ (x : Nat) (q : Rc), s ≤ x → x < u → rs[x]? = some q → q.p.k ≠ .ch := by
  intro u
  induction u with
  | zero => intro _; exact ⟨0, Nat.le_refl _, D.same, fun x q _ h => by omega⟩
  | succ u ih =>
    intro h
    obtain ⟨r, hr⟩ := at_lt (rs := rs) (t := u) (by omega)
    have hs := D.step u r hr
    by_cases hk : r.p.k = .ch
    · exact ⟨u + 1, Nat.le_refl _, by rw [hs.B, nextB_ch hk], fun x q _ h => by omega⟩
    · obtain ⟨s, h1, h2, h3⟩ := ih (by omega)
      refine ⟨s, by omega, by rw [h2, hs.B, nextB_ne hk, bhF_at hr], fun x q hx hx' hq => ?_⟩
      by_cases e : x = u
      · subst e
        rw [hr] at hq
        cases hq
        exact hk
      · exact h3 x q hx (by omega) hq
theorem Dr.low (D : Dr P rec ops n masks rs σ' A' B') {u t : Nat} (hu : u ≤ rs.length) (ht : t ≤ rs.length) (hn : ∀ (x : Nat) (q : Rc), t ≤ x → x < u → rs[x]? = some q → q.p.k ≠ .ch) : (bhF rs B' u).nf ≤ (ahF rs A' t).nf := by
  rcases Nat.lt_or_ge t u with h | h
  · rw [← D.ground (Nat.le_of_lt h) hu hn]
    exact D.bnf t ht
  · exact Nat.le_trans (D.bnf u hu) (D.mono h ht)
theorem Dr.below (D : Dr P rec ops n masks rs σ' A' B') {u t x : Nat} {q : Rc} (hu : u ≤ rs.length) (htx : t ≤ x + 1) (hxu : x < u) (hq : rs[x]? = some q) (hk : q.p.k = .ch) : (ahF rs A' t).nf ≤ (bhF rs B' u).nf := by
  have h1 : (ahF rs A' t).nf ≤ (ahF rs A' (x + 1)).nf := D.mono (by omega) (by omega)
  -- the ground just behind x
  have h2 : bhF rs B' (x + 1) = ahF rs A' (x + 1) := by rw [(D.step x q hq).B, nextB_ch hk]
  have h3 : ∀ d, x + 1 + d ≤ rs.length → (ahF rs A' (x + 1)).nf ≤ (bhF rs B' (x + 1 + d)).nf := by
    intro d
    induction d with
    | zero => intro _; rw [Nat.add_zero, h2]; exact Nat.le_refl _
    | succ d ih =>
      intro hd
      obtain ⟨r, hr⟩ := at_lt (rs := rs) (t := x + 1 + d) (by omega)
      have hs := D.step _ r hr
      rw [show x + 1 + (d + 1) = x + 1 + d + 1 by omega, hs.B]
      by_cases hk' : kindOf r.p.o.op = .ch
      · rw [nextB_ch hk']; exact D.mono (by omega) (by omega)
      · rw [nextB_ne hk']
        have := ih (by omega)
        rwa [bhF_at hr] at this
  have h4 := h3 (u - (x + 1)) (by omega)
  rw [show x + 1 + (u - (x + 1)) = u by omega] at h4
  omega
theorem Dr.swf (D : Dr P rec ops n masks rs σ' A' B') (h0 : SWf (ahF rs A' 0).nf (sgF rs σ' 0)) : ∀ t, t ≤ rs.length → SWf (ahF rs A' t).nf (sgF rs σ' t) := by
  intro t
  induction t with
  | zero => intro _; exact h0
  | succ t ih =>
    intro h
    obtain ⟨r, hr⟩ := at_lt (rs := rs) (t := t) (by omega)
    have hs := D.step t r hr
    have := ih (by omega)
    rw [ahF_at hr, sgF_at hr] at this
    rw [hs.σ]
    exact (this.mono hs.nf).put hs.nmv
theorem Dr.bignf (D : Dr P rec ops n masks rs σ' A' B') {t : Nat} (h : t ≤ rs.length) : (ahF rs A' t).nf ≤ BIG := by
  have := D.mono h (Nat.le_refl _)
  rw [ahF_end (Nat.le_refl _)] at this
  exact Nat.le_trans this D.big
theorem Dr.made (D : Dr P rec ops n masks rs σ' A' B') {t : Nat} {r : Rc} (hr : rs[t]? = some r) (hk : r.p.k = .fl) (htk : r.tk = true) :
    ∃ ob B, ahF rs A' (t + 1) = r.A.add ob ∧ xop P r.p.o.type r.p.o.op (xev n r.σ) ⟨.e, r.A.nf⟩ = some (.val r.v, B) ∧ B = (⟨.e, r.A.nf⟩ : AH).add ob ∧ ob.Wf 0 ∧ ob.ro = false ∧ okv 0 [r.A.nf] r.v = true ∧ nm r.v ≤ r.A.nf + 1 := by
  have h := (D.step t r hr).on htk
  unfold xone at h
  rw [show kindOf r.p.o.op = .fl from hk] at h
  simp only [xfl] at h
  split at h
  · rename_i v B hx
    split at h
    · rename_i ob hob
      simp only [Option.some.injEq, Prod.mk.injEq] at h
      obtain ⟨rfl, h⟩ := h
      obtain ⟨ob', e, h1, h2, h3, h4⟩ := fl_shape hk hx
      subst e
      have : ob' = ob := by
        rw [get_add] at hob
        simpa using hob
      subst this
      exact ⟨ob', _, h.symm, hx, rfl, h1, h2, h3, h4⟩
    · cases h
  · cases h
theorem Dr.quiet (D : Dr P rec ops n masks rs σ' A' B') {t : Nat} {r : Rc} (hr : rs[t]? = some r) (hk : r.p.k = .pure ∨ r.p.k = .read) : ahF rs A' (t + 1) = r.A := by
  have hs := D.step t r hr
  cases ht : r.tk with
  | false => exact (hs.off ht).2
  | true =>
    have h := hs.on ht
    unfold xone at h
    rcases hk with hk | hk
    · rw [show kindOf r.p.o.op = .pure from hk] at h
      obtain ⟨v, _, e⟩ := map_some h
      simp only [Prod.mk.injEq] at e
      exact e.2.symm
    · rw [show kindOf r.p.o.op = .read from hk] at h
      obtain ⟨v, _, e⟩ := map_some h
      simp only [Prod.mk.injEq] at e
      exact e.2.symm
open Classical in
noncomputable def valOf (rs : List Rc) (i : Nat) : Value := if h : ∃ r, r ∈ rs ∧ r.p.i = i then h.choose.v else undef
theorem Dr.val (D : Dr P rec ops n masks rs σ' A' B') {t : Nat} {r : Rc} (hr : rs[t]? = some r) : valOf rs r.p.i = r.v := by
  have h : ∃ q, q ∈ rs ∧ q.p.i = r.p.i := ⟨r, List.mem_of_getElem? hr, rfl⟩
  unfold valOf
  rw [dif_pos h]
  obtain ⟨h1, h2⟩ := h.choose_spec
  obtain ⟨t', ht'⟩ := List.mem_iff_getElem?.1 h1
  have := D.inj t' t _ r ht' hr h2
  subst this
  rw [hr] at ht'
  rw [← Option.some.inj ht']
noncomputable def VV (ops : List Oper) (rs : List Rc) : List (Env → Value) := (List.range ops.length).map fun i => fun g => ren g (valOf rs i)
theorem VV_at {i : Nat} (h : i < ops.length) : (VV ops rs)[i]? = some fun g => ren g (valOf rs i) := by simp [VV, h]
theorem VV_len : (VV ops rs).length = ops.length := by simp [VV]
theorem VVm_at {i : Nat} (h : i < ops.length) (g : Env) : ((VV ops rs).map (· g))[i]? = some (ren g (valOf rs i)) := by simp [VV, h]
open Classical in
noncomputable def plc (rs : List Rc) (t i : Nat) : Bool := decide (∃ (t' : Nat) (r : Rc), t' < t ∧ rs[t']? = some r ∧ r.p.i = i)
theorem plc_true {t i : Nat} : plc rs t i = true ↔ ∃ (t' : Nat) (r : Rc), t' < t ∧ rs[t']? = some r ∧ r.p.i = i := by unfold plc; simp
theorem Dr.after (D : Dr P rec ops n masks rs σ' A' B') {t j : Nat} {r : Rc} (hr : rs[t]? = some r) (hj : j < ops.length) (hp : preM masks j r.p.i = true) : plc rs t j = false := by
  cases h : plc rs t j with
  | false => rfl
  | true =>
    exfalso
    obtain ⟨t', r', ht, hr', rfl⟩ := plc_true.1 h
    rw [D.pre hr'] at hp
    obtain ⟨t2, r2, ht2, hr2, e⟩ := D.bef t' r' _ hr' hp
    have := D.inj t2 t r2 r hr2 hr e
    omega
theorem Dr.slotsAt (D : Dr P rec ops n masks rs σ' A' B') {E0 g : Env} (hs0 : SWf (ahF rs A' 0).nf (sgF rs σ' 0)) (hg : ∀ b, b < (ahF rs A' 0).nf → g b = E0 b) :
    ∀ t, t ≤ rs.length → ∀ s, s < n → Sx.look (slots n g (sgF rs σ' t)) s = Sx.look (slS (plc rs t) 0 ops ((VV ops rs).map (· g)) (slots n E0 (sgF rs σ' 0))) s := by
  intro t
  induction t with
  | zero =>
    intro _ s hs
    rw [look_slS, lastW_none ops 0 _ (fun j o _ _ => ?_), slots_ext hg hs0]
    · rfl
    · cases h : plc rs 0 (0 + j) with
      | false => rfl
      | true => obtain ⟨t', r, ht, _⟩ := plc_true.1 h; omega
  | succ t ih =>
    intro h s hs
    obtain ⟨r, hr⟩ := at_lt (rs := rs) (t := t) (by omega)
    have hst := D.step t r hr
    have IH := ih (by omega) s hs
    rw [look_slS, sgF_at hr] at IH
    rw [hst.σ, look_slS]
    have hil := D.ilt hr
    have ho := (D.ent t r hr).1
    have hput : Sx.look (slots n g (xput r.σ r.p.o.dst r.v)) s = if r.p.o.dst = some s then ren g r.v else Sx.look (slots n g r.σ) s := by
      rw [look_slots, if_pos hs]
      cases hd : r.p.o.dst with
      | none => simp only [xput, look_slots, if_pos hs]; simp
      | some d =>
        simp only [xput, Tr.get_put, Option.some.injEq, look_slots, if_pos hs]
        by_cases e : s = d
        · subst e; simp
        · rw [if_neg e, if_neg (Ne.symm e)]
    rw [hput]
    by_cases hd : r.p.o.dst = some s
    · rw [if_pos hd, lastW_at ops 0 r.p.i _ r.p.o (ren g r.v) ho hd (by rw [VVm_at hil, D.val hr]) ?_ ?_]
      · rfl
      · rw [Nat.zero_add]; exact plc_true.2 ⟨t, r, by omega, hr, rfl⟩
      · intro j oj hij hj hdj
        rw [Nat.zero_add]
        have hjl : j < ops.length := (List.getElem?_eq_some_iff.1 hj).1
        have hp := D.regf.conf r.p.i j r.p.o oj ho hj hij (.inl (by simp [touches, hd, hdj]))
        cases hpl : plc rs (t + 1) j with
        | false => rfl
        | true =>
          exfalso
          obtain ⟨t', r', ht, hr', e⟩ := plc_true.1 hpl
          have hne : t' ≠ t := by
            intro e2; subst e2
            rw [hr] at hr'; cases hr'
            omega
          have := D.after hr hjl hp
          rw [plc_true.2 ⟨t', r', by omega, hr', e⟩] at this
          cases this
    · rw [if_neg hd, IH]
      congr 1
      refine lastW_congr ops 0 _ _ rfl fun j oj hj hdj => ⟨?_, fun _ => rfl⟩
      rw [Nat.zero_add]
      have hne : j ≠ r.p.i := by
        rintro rfl
        rw [ho] at hj; cases hj
        exact hd hdj
      cases h1 : plc rs t j with
      | true =>
        obtain ⟨t', r', ht, hr', e⟩ := plc_true.1 h1
        exact (plc_true.2 ⟨t', r', by omega, hr', e⟩).symm
      | false =>
        cases h2 : plc rs (t + 1) j with
        | false => rfl
        | true =>
          obtain ⟨t', r', ht, hr', e⟩ := plc_true.1 h2
          by_cases e2 : t' = t
          · subst e2
            rw [hr] at hr'; cases hr'
            exact absurd e.symm hne
          · rw [plc_true.2 ⟨t', r', by omega, hr', e⟩] at h1; cases h1
theorem Dr.looks (D : Dr P rec ops n masks rs σ' A' B') {E0 g : Env} {S : Nat → Bool} {t : Nat} {r : Rc} (hs0 : SWf (ahF rs A' 0).nf (sgF rs σ' 0)) (hg : ∀ b, b < (ahF rs A' 0).nf → g b = E0 b) (hr : rs[t]? = some r) (hU : Ups ops (preM masks) r.p.i S) :
    ∀ s, s < n → s ∈ r.p.o.looksAt ops.toArray → Sx.look (slots n g r.σ) s = Sx.look (slS S 0 ops ((VV ops rs).map (· g)) (slots n E0 (sgF rs σ' 0))) s := by
  intro s hs hl
  have := D.slotsAt hs0 hg t (Nat.le_of_lt (lt_at hr)) s hs
  rw [sgF_at hr] at this
  rw [this, look_slS, look_slS]
  congr 1
  refine lastW_congr ops 0 _ _ rfl fun j oj hj hdj => ⟨?_, fun _ => rfl⟩
  rw [Nat.zero_add]
  have ho := (D.ent t r hr).1
  have hjl : j < ops.length := (List.getElem?_eq_some_iff.1 hj).1
  have htou : touches ops.toArray oj r.p.o = true := by simp [touches, hdj, hl]
  rcases Nat.lt_trichotomy j r.p.i with h | h | h
  · have hp := D.regf.conf j r.p.i oj r.p.o hj ho h (.inl htou)
    rw [hU.already j hp]
    rw [D.pre hr] at hp
    exact plc_true.2 (D.bef t r j hr hp)
  · subst h
    rw [hU.self]
    cases h1 : plc rs t r.p.i with
    | false => rfl
    | true =>
      obtain ⟨t', r', ht, hr', e⟩ := plc_true.1 h1
      have := D.inj t' t r' r hr' hr e
      omega
  · have hp := D.regf.conf r.p.i j r.p.o oj ho hj h (.inr htou)
    rw [hU.notYet j hjl hp]
    exact D.after hr hjl hp
end
end Go.Ex
namespace Go.Ex
open Go Go.Sx
section
variable {E E' E1 g : Env} {A A1 B : AH} {w w1 : World} {ob : AO} {c : Obj}
theorem Rel.env (h : Rel E A w) (he : ∀ b, b < A.nf → E' b = E b) : Rel E' A w := by
  refine ⟨fun b o hb => ?_, fun b b' o o' hb hb' e => ?_, h.wf, fun b hb => (he b (Nat.lt_of_lt_of_le hb h.low)).trans (h.glob b hb), h.low⟩
  · obtain ⟨c, h1, h2⟩ := h.obj b o hb
    have hw := h.wf b o hb
    rw [he b hw.1]
    exact ⟨c, h1, h2.ext he hw.2⟩
  · rw [he b (h.wf b o hb).1, he b' (h.wf b' o' hb').1] at e
    exact h.inj b b' o o' hb hb' e
theorem To.env (h : To E A w E1 A1 w1) (hr : Rel E1 A1 w1) (he : ∀ b, b < A1.nf → E' b = E1 b) : To E A w E' A1 w1 := by
  refine ⟨h.nf, fun b hb => (he b (Nat.lt_of_lt_of_le hb h.nf)).trans (h.ext b hb), h.os, h.tape, h.output, h.size, h.blk, fun b o hb => ?_⟩
  rw [he b (hr.wf b o hb).1]
  exact h.mine b o hb
theorem Rel.addAt (h : Rel g B w) (hw : w.heap[(g B.nf).blk]? = some c) (hl : Lies g (g B.nf) ob c) (hn : ob.Wf 0) (hfree : ∀ b o, B.get b = some o → (g b).blk ≠ (g B.nf).blk) : Rel g (B.add ob) w := by
  refine ⟨fun b o hb => ?_, fun b b' o o' hb hb' e => ?_, fun b o hb => ?_, h.glob, Nat.le_succ_of_le h.low⟩
  · rw [get_add] at hb
    split at hb
    · rename_i e; cases hb; rw [e]; exact ⟨c, hw, hl⟩
    · exact h.obj b o hb
  · rw [get_add] at hb hb'
    split at hb
    · rename_i e1
      split at hb'
      · rename_i e2; rw [e1, e2]
      · rw [e1] at e; exact absurd e.symm (hfree b' o' hb')
    · split at hb'
      · rename_i e2; rw [e2] at e; exact absurd e (hfree b o hb)
      · exact h.inj b b' o o' hb hb' e
  · rw [get_add] at hb
    split at hb
    · rename_i e; cases hb; subst e; exact ⟨by simp [AH.add], hn.mono (Nat.zero_le _)⟩
    · have := h.wf b o hb
      exact ⟨by simp [AH.add]; omega, this.2.mono (by simp [AH.add])⟩
theorem To.addAt {E0 : Env} {A0 : AH} {w0 : World} (h : To E0 A0 w0 g B w) (hnew : w0.heap.size ≤ (g B.nf).blk) : To E0 A0 w0 g (B.add ob) w := by
  refine ⟨Nat.le_succ_of_le h.nf, h.ext, h.os, h.tape, h.output, h.size, h.blk, fun b o hb => ?_⟩
  rw [get_add] at hb
  split at hb
  · rename_i e; subst e; exact .inr hnew
  · exact h.mine b o hb
theorem Rel.less {k : Nat} (h : Rel E A w) (hA : A.nf ≤ k) : Rel E ⟨A.h, k⟩ w :=
  ⟨h.obj, h.inj, fun b o hb => ⟨Nat.lt_of_lt_of_le (h.wf b o hb).1 hA, (h.wf b o hb).2.mono hA⟩, h.glob, Nat.le_trans h.low hA⟩
theorem Rel.none {k : Nat} (h : Rel E A w) (hk : GB ≤ k) : Rel E ⟨.e, k⟩ w :=
  ⟨fun b o hb => (by cases hb), fun b b' o o' hb => (by cases hb), fun b o hb => (by cases hb), h.glob, hk⟩
end
section
variable {P : Program} {rec : Rec} {ops : List Oper} {n : Nat} {masks : List Nat} {rs : List Rc} {σ' : Sl'} {A' B' : AH} {E0 g : Env} {A0 : AH} {w0 w : World} {S : Nat → Bool} {u t : Nat} {r : Rc}
structure Early (rs : List Rc) (S : Nat → Bool) (u t : Nat) (r : Rc) : Prop where
  at_ : rs[t]? = some r
  fl : r.p.k = .fl
  tk : r.tk = true
  up : S r.p.i = true
  seg : ∀ (x : Nat) (q : Rc), t ≤ x → x < u → rs[x]? = some q → q.p.k ≠ .ch
def AtF (rs : List Rc) (A' : AH) (g : Env) (w w0 : World) (B : AH) (t : Nat) (r : Rc) : Prop :=
  ∃ ob c, ahF rs A' (t + 1) = r.A.add ob ∧ ob.Wf 0 ∧ ob.ro = false ∧ w.heap[(g r.A.nf).blk]? = some c ∧ Lies g (g r.A.nf) ob c ∧ w0.heap.size ≤ (g r.A.nf).blk ∧ ∀ b o, B.get b = some o → (g b).blk ≠ (g r.A.nf).blk
structure MS (rs : List Rc) (A' B' : AH) (E0 : Env) (A0 : AH) (w0 : World) (S : Nat → Bool) (g : Env) (w : World) (u : Nat) : Prop where
  le : u ≤ rs.length
  cur1 : ∀ r, rs[u]? = some r → r.p.k = .ch ∧ S r.p.i = false
  cur2 : ∀ (t : Nat) (r : Rc), t < u → rs[t]? = some r → r.p.k = .ch → S r.p.i = true
  rel : Rel g (bhF rs B' u) w
  to : To E0 A0 w0 g (bhF rs B' u) w
  fl : ∀ (t : Nat) (r : Rc), Early rs S u t r → AtF rs A' g w w0 (bhF rs B' u) t r
  dist : ∀ (t : Nat) (r : Rc) (t' : Nat) (r' : Rc), Early rs S u t r → Early rs S u t' r' → t ≠ t' → (g r.A.nf).blk ≠ (g r'.A.nf).blk
theorem MS.bnd (h : MS rs A' B' E0 A0 w0 S g w u) : Bnd rs u := by
  rcases Nat.lt_or_ge u rs.length with h1 | h1
  · obtain ⟨r, hr⟩ := at_lt h1
    exact .inr ⟨r, hr, (h.cur1 r hr).1⟩
  · exact .inl (Nat.le_antisymm h.le h1)
theorem MS.chain (h : MS rs A' B' E0 A0 w0 S g w u) (D : Dr P rec ops n masks rs σ' A' B') (hd : ∀ j, S j = true → j < ops.length → ∀ k, preM masks j k = true → S k = true) {x : Nat} {q : Rc} (hq : rs[x]? = some q) (hk : q.p.k = .ch) (hS : S q.p.i = true) : x < u := by
  rcases Nat.lt_trichotomy x u with h1 | h1 | h1
  · exact h1
  · subst h1
    rw [(h.cur1 q hq).2] at hS; cases hS
  · have hul : u < rs.length := Nat.lt_trans h1 (lt_at hq)
    obtain ⟨ru, hru⟩ := at_lt hul
    obtain ⟨c1, c2⟩ := h.cur1 ru hru
    have hp := D.chord x u q ru hq hru h1 hk c1
    have := hd q.p.i hS (D.ilt hq) ru.p.i (by rw [D.pre hq]; exact hp)
    rw [c2] at this; cases this
theorem Dr.names (D : Dr P rec ops n masks rs σ' A' B') {t t' : Nat} {r r' : Rc} (hr : rs[t]? = some r) (hr' : rs[t']? = some r') (hk : r.p.k = .fl) (htk : r.tk = true) (hlt : t < t') : r.A.nf < r'.A.nf := by
  obtain ⟨ob, B, h1, _⟩ := D.made hr hk htk
  have h2 := D.mono (t := t + 1) (t' := t') (by omega) (Nat.le_of_lt (lt_at hr'))
  rw [h1, ahF_at hr'] at h2
  simp only [AH.add] at h2
  omega
theorem Dr.names_ne (D : Dr P rec ops n masks rs σ' A' B') {t t' : Nat} {r r' : Rc} (hr : rs[t]? = some r) (hr' : rs[t']? = some r') (hk : r.p.k = .fl) (htk : r.tk = true) (hk' : r'.p.k = .fl) (htk' : r'.tk = true) (hne : t ≠ t') : r.A.nf ≠ r'.A.nf := by
  rcases Nat.lt_or_ge t t' with h | h
  · exact Nat.ne_of_lt (D.names hr hr' hk htk h)
  · exact Ne.symm (Nat.ne_of_lt (D.names hr' hr hk' htk' (by omega)))
theorem MS.stab (h : MS rs A' B' E0 A0 w0 S g w u) (D : Dr P rec ops n masks rs σ' A' B') (hd : ∀ j, S j = true → j < ops.length → ∀ k, preM masks j k = true → S k = true) {g' : Env}
    (hg : ∀ b, b < (bhF rs B' u).nf → g' b = g b) (hf : ∀ (t : Nat) (r : Rc), rs[t]? = some r → r.p.k = .fl → r.tk = true → S r.p.i = true → g' r.A.nf = g r.A.nf) :
    ∀ k f, (VV ops rs)[k]? = some f → S k = true → f g' = f g := by
  intro k f hf' hS
  have hkl : k < ops.length := by have := (List.getElem?_eq_some_iff.1 hf').1; rwa [VV_len] at this
  rw [VV_at hkl] at hf'
  cases hf'
  obtain ⟨x, q, hq, rfl⟩ := D.all k hkl
  simp only [D.val hq]
  have num : nm q.v ≤ (bhF rs B' u).nf → ren g' q.v = ren g q.v := fun hn => ren_ext hg q.v hn
  have hst := D.step x q hq
  have quiet : (q.p.k = .pure ∨ q.p.k = .read) → ren g' q.v = ren g q.v := by
    intro hk
    by_cases hex : ∃ (j : Nat) (p : Rc), rs[j]? = some p ∧ p.p.k = .ch ∧ Nat.testBit p.p.m q.p.i = true ∧ j < u
    · obtain ⟨j, p, hp, hpk, hpm, hju⟩ := hex
      obtain ⟨t2, r2, ht2, hr2, e⟩ := D.bef j p _ hp hpm
      have := D.inj t2 x r2 q hr2 hq e
      subst this
      exact num (Nat.le_trans hst.nmv (D.below h.le (by omega) hju hp hpk))
    · obtain ⟨h1, _⟩ := D.chk x q u hq h.bnd hk
        (fun j p hp hpk hpm => h.chain D hd hp hpk (hd q.p.i hS hkl p.p.i (by rw [D.pre hq]; exact hpm)))
        (fun j p hp hpk hpm => by
          rcases Nat.lt_or_ge j u with h2 | h2
          · exact absurd ⟨j, p, hp, hpk, hpm, h2⟩ hex
          · exact h2)
      refine okv_ren (fun b hb => ?_) q.v h1
      rcases hb with hb | hb
      · exact hg b hb
      · obtain ⟨p, hp, hpk, htk, hpm, rfl⟩ := flNames_mem rs hb
        obtain ⟨y, hy⟩ := List.mem_iff_getElem?.1 hp
        exact hf y p hy hpk htk (hd q.p.i hS hkl p.p.i (by rw [D.pre hq]; exact hpm))
  cases hk : q.p.k with
  | pure => exact quiet (.inl hk)
  | read => exact quiet (.inr hk)
  | fl =>
    cases htk : q.tk with
    | false => rw [(hst.off htk).1]; rfl
    | true =>
      obtain ⟨ob, B, _, _, _, _, _, h1, _⟩ := D.made hq hk htk
      refine okv_ren (fun b hb => ?_) q.v h1
      rcases hb with hb | hb
      · omega
      · simp only [List.mem_singleton] at hb
        subst hb
        exact hf x q hq hk htk hS
  | ch => exact num (Nat.le_trans hst.nmv (D.below h.le (by omega) (h.chain D hd hq hk hS) hq hk))
theorem MS.join (h : MS rs A' B' E0 A0 w0 S g w u) (D : Dr P rec ops n masks rs σ' A' B') (hall : ∀ (t : Nat) (r : Rc), t < u → rs[t]? = some r → r.p.k = .fl → (∀ (x : Nat) (q : Rc), t ≤ x → x < u → rs[x]? = some q → q.p.k ≠ .ch) → S r.p.i = true) :
    Rel g (ahF rs A' u) w ∧ To E0 A0 w0 g (ahF rs A' u) w ∧ ∀ b o, (ahF rs A' u).get b = some o → (bhF rs B' u).get b = some o ∨ ∃ (t : Nat) (r : Rc), t < u ∧ Early rs S u t r ∧ b = r.A.nf := by
  obtain ⟨s, hsu, hs1, hs2⟩ := D.seg u h.le
  have key : ∀ d, s + d ≤ u → Rel g (ahF rs A' (s + d)) w ∧ To E0 A0 w0 g (ahF rs A' (s + d)) w ∧ ∀ b o, (ahF rs A' (s + d)).get b = some o → (bhF rs B' u).get b = some o ∨ ∃ (t : Nat) (r : Rc), t < s + d ∧ Early rs S u t r ∧ b = r.A.nf := by
    intro d
    induction d with
    | zero => intro _; rw [Nat.add_zero, hs1]; exact ⟨h.rel, h.to, fun b o hb => .inl hb⟩
    | succ d ih =>
      intro hd
      obtain ⟨i1, i2, i3⟩ := ih (by omega)
      obtain ⟨q, hq⟩ := at_lt (rs := rs) (t := s + d) (by have := h.le; omega)
      have hsg : ∀ (x : Nat) (p : Rc), s + d ≤ x → x < u → rs[x]? = some p → p.p.k ≠ .ch := fun x p hx hx' hp => hs2 x p (by omega) hx' hp
      have same : ahF rs A' (s + d + 1) = q.A → Rel g (ahF rs A' (s + (d + 1))) w ∧ To E0 A0 w0 g (ahF rs A' (s + (d + 1))) w ∧ ∀ b o, (ahF rs A' (s + (d + 1))).get b = some o → (bhF rs B' u).get b = some o ∨ ∃ (t : Nat) (r : Rc), t < s + (d + 1) ∧ Early rs S u t r ∧ b = r.A.nf := by
        intro e
        rw [ahF_at hq] at i1 i2 i3
        rw [show s + (d + 1) = s + d + 1 by omega, e]
        refine ⟨i1, i2, fun b o hb => ?_⟩
        rcases i3 b o hb with h3 | ⟨t, r, ht, h3⟩
        · exact .inl h3
        · exact .inr ⟨t, r, by omega, h3⟩
      have hst := D.step _ q hq
      cases hk : q.p.k with
      | pure => exact same (D.quiet hq (.inl hk))
      | read => exact same (D.quiet hq (.inr hk))
      | ch => exact absurd hk (hsg (s + d) q (Nat.le_refl _) (by omega) hq)
      | fl =>
        cases htk : q.tk with
        | false => exact same (hst.off htk).2
        | true =>
          have he : Early rs S u (s + d) q := ⟨hq, hk, htk, hall _ q (by omega) hq hk hsg, hsg⟩
          obtain ⟨ob, c, e, hw, hro, hc, hl, hnew, hfree⟩ := h.fl _ _ he
          rw [ahF_at hq] at i1 i2 i3
          rw [show s + (d + 1) = s + d + 1 by omega, e]
          refine ⟨i1.addAt hc hl hw fun b o hb => ?_, i2.addAt hnew, fun b o hb => ?_⟩
          · rcases i3 b o hb with h3 | ⟨t, r, ht, h3, rfl⟩
            · exact hfree b o h3
            · exact h.dist _ _ _ _ h3 he (by omega)
          · rw [get_add] at hb
            split at hb
            · rename_i e2; exact .inr ⟨s + d, q, by omega, he, e2⟩
            · rcases i3 b o hb with h3 | ⟨t, r, ht, h3⟩
              · exact .inl h3
              · exact .inr ⟨t, r, by omega, h3⟩
  have := key (u - s) (by omega)
  rw [show s + (u - s) = u by omega] at this
  exact this
end
end Go.Ex
namespace Go.Ex
open Go Go.Sx
section
variable {P : Program} {rec : Rec} {ops : List Oper} {n : Nat} {masks : List Nat} {rs : List Rc} {σ' : Sl'} {A' B' : AH} {E0 g : Env} {A0 : AH} {w0 w : World} {S : Nat → Bool} {u t : Nat} {r : Rc}
theorem xdo_oob {k : Nat} (hrec : RecOk P k rec) {o : Oper} {σ : Tr Value} {A A1 : AH} {v : Value} (hx : xdo P rec false o n σ A = some (v, A1)) (h : Rel g A w) (hs : SWf A.nf σ) {Nx : Value → World → Prop}
    (K : ∀ E1 w1, Rel E1 A1 w1 → To g A w E1 A1 w1 → nm v ≤ A1.nf → Nx (ren E1 v) w1) :
    notDefer o.op = true ∧ ((∃ v w', (execOp (ev n (slots n g σ)) o).run P w = .ok (.value v) w' ∧ Nx v w') ∨ (∃ w', (execOp (ev n (slots n g σ)) o).run P w = .ok .skip w' ∧ Nx undef w') ∨
      (∃ f args w', (execOp (ev n (slots n g σ)) o).run P w = .ok (.enter f args) w' ∧ CR P f args w' Nx)) := by
  unfold xdo at hx
  cases hxo : xop P o.type o.op (xev n σ) A with
  | none => rw [hxo] at hx; cases hx
  | some p =>
    obtain ⟨xr, A2⟩ := p
    refine ⟨xop_notDefer hxo, ?_⟩
    have hdoes := xop_sound (P := P) o.op g A A2 w (xev n σ) n (slots n g σ) xr o.dst o.type o.pos o.after o.guard h (xev_ok h hs) hxo
    rw [hxo] at hx
    cases xr with
    | val u =>
      cases hx
      obtain ⟨E1, w1, hr, h1, t1, hv⟩ := hdoes
      exact .inl ⟨_, w1, hr, K E1 w1 h1 t1 hv⟩
    | unit =>
      cases hx
      obtain ⟨E1, w1, hr, h1, t1, _⟩ := hdoes
      refine .inr (.inl ⟨w1, hr, ?_⟩)
      have := K E1 w1 h1 t1 (nm_undef _)
      rw [undef_ren] at this
      exact this
    | enter f args =>
      simp only at hx
      split at hx
      · rename_i v' A3 hc
        cases hx
        obtain ⟨E1, w1, hr, h1, t1, hv⟩ := hdoes
        have hcall : CallOk P f args A2 v A1 := hrec _ _ hc
        refine .inr (.inr ⟨f, _, w1, hr, CR.mono (hcall E1 w1 h1 hv) ?_⟩)
        rintro v2 w2 ⟨E2, rfl, h2, t2, hv2⟩
        exact K E2 w2 h2 (t1.trans t2) hv2
      · cases hx
    | yield l args => cases hx
theorem next_bnd (rs : List Rc) : ∀ d a, a + d = rs.length → ∃ u, a ≤ u ∧ u ≤ rs.length ∧ Bnd rs u ∧ ∀ (x : Nat) (q : Rc), a ≤ x → x < u → rs[x]? = some q → q.p.k ≠ .ch := by
  intro d
  induction d with
  | zero => intro a h; exact ⟨a, Nat.le_refl _, by omega, .inl (by omega), fun x q _ h => by omega⟩
  | succ d ih =>
    intro a h
    obtain ⟨r, hr⟩ := at_lt (rs := rs) (t := a) (by omega)
    by_cases hk : r.p.k = .ch
    · exact ⟨a, Nat.le_refl _, by omega, .inr ⟨r, hr, hk⟩, fun x q _ h => by omega⟩
    · obtain ⟨u, h1, h2, h3, h4⟩ := ih (a + 1) (by omega)
      refine ⟨u, by omega, h2, h3, fun x q hx hx' hq => ?_⟩
      by_cases e : x = a
      · subst e; rw [hr] at hq; cases hq; exact hk
      · exact h4 x q (by omega) hx' hq
theorem or_eq_true {S : Nat → Bool} {i j : Nat} : (S j || j == i) = true ↔ S j = true ∨ j = i := by simp
theorem MS.chainStep (h : MS rs A' B' E0 A0 w0 S g w u) (D : Dr P rec ops n masks rs σ' A' B') (hr : rs[t]? = some r) (hk : r.p.k = .ch) (hU : Ups ops (preM masks) r.p.i S) :
    u = t ∧ Rel g (ahF rs A' t) w ∧ ∀ E1 w1, Rel E1 (ahF rs A' (t + 1)) w1 → To g (ahF rs A' t) w E1 (ahF rs A' (t + 1)) w1 →
      ∃ g', (∃ u', MS rs A' B' E0 A0 w0 (fun j => S j || j == r.p.i) g' w1 u') ∧ (∀ b, b < (ahF rs A' (t + 1)).nf → g' b = E1 b) ∧ ∀ k f, (VV ops rs)[k]? = some f → S k = true → f g' = f g := by
  have hut : u = t := by
    rcases Nat.lt_trichotomy u t with h1 | h1 | h1
    · obtain ⟨q, hq⟩ := at_lt (Nat.lt_trans h1 (lt_at hr))
      obtain ⟨c1, c2⟩ := h.cur1 q hq
      have := hU.already q.p.i (by rw [D.pre hr]; exact D.chord t u r q hr hq h1 hk c1)
      rw [c2] at this; cases this
    · exact h1
    · have := h.cur2 t r h1 hr hk
      rw [hU.self] at this; cases this
  subst hut
  refine ⟨rfl, ?_⟩
  have htl := lt_at hr
  obtain ⟨j1, j2, j3⟩ := h.join D fun x q hx hq hqk hsg => hU.already q.p.i (by rw [D.pre hr]; exact D.flo x u q r hq hr hx hqk hk fun y p hy hy' hp => hsg y p (by omega) hy' hp)
  refine ⟨j1, fun E1 w1 r1 t1 => ?_⟩
  obtain ⟨u', hu1, hu2, hu3, hu4⟩ := next_bnd rs (rs.length - (u + 1)) (u + 1) (by omega)
  have hB : bhF rs B' u' = ahF rs A' (u + 1) := by
    rw [← D.ground hu1 hu2 hu4, (D.step u r hr).B, nextB_ch hk]
  classical
  obtain ⟨g', hg'⟩ : ∃ g' : Env, ∀ b, g' b = if ∃ (x : Nat) (q : Rc), Early rs S u x q ∧ u < x ∧ b = q.A.nf then g b else E1 b := ⟨_, fun _ => rfl⟩
  have late : ∀ (x : Nat) (q : Rc), Early rs S u x q → u < x → (ahF rs A' (u + 1)).nf ≤ q.A.nf := by
    intro x q hq hx
    have := D.mono (t := u + 1) (t' := x) (by omega) (Nat.le_of_lt (lt_at hq.at_))
    rwa [ahF_at hq.at_] at this
  have gE : ∀ b, b < (ahF rs A' (u + 1)).nf → g' b = E1 b := by
    intro b hb
    rw [hg', if_neg]
    rintro ⟨x, q, hq, hx, rfl⟩
    have := late x q hq hx
    omega
  have hnf : (ahF rs A' u).nf ≤ (ahF rs A' (u + 1)).nf := D.mono (by omega) (by omega)
  have gg : ∀ b, b < (ahF rs A' u).nf → g' b = g b := fun b hb => (gE b (by omega)).trans (t1.ext b hb)
  have ge : ∀ (x : Nat) (q : Rc), Early rs S u x q → u < x → g' q.A.nf = g q.A.nf := fun x q hq hx => by rw [hg', if_pos ⟨x, q, hq, hx, rfl⟩]
  have rg : Rel g' (ahF rs A' (u + 1)) w1 := r1.env gE
  have tg : To E0 A0 w0 g' (ahF rs A' (u + 1)) w1 := (j2.trans t1).env r1 gE
  -- early blocks of the new state
  have back : ∀ (x : Nat) (q : Rc), Early rs (fun j => S j || j == r.p.i) u' x q → Early rs S u x q ∧ u < x := by
    intro x q hq
    have hx : u < x := by
      rcases Nat.lt_or_ge u x with h1 | h1
      · exact h1
      · exact absurd hk (hq.seg u r h1 (by omega) hr)
    have hS : S q.p.i = true := by
      rcases or_eq_true.1 hq.up with h1 | h1
      · exact h1
      · have := D.inj x u q r hq.at_ hr h1
        omega
    exact ⟨⟨hq.at_, hq.fl, hq.tk, hS, fun y p hy hy' hp => by omega⟩, hx⟩
  have free : ∀ (x : Nat) (q : Rc), Early rs S u x q → u < x → ∀ b o, (ahF rs A' u).get b = some o → (g b).blk ≠ (g q.A.nf).blk := by
    intro x q hq hx b o hb
    rcases j3 b o hb with h1 | ⟨y, p, hy, hp, rfl⟩
    · obtain ⟨_, _, _, _, _, _, _, _, hfree⟩ := h.fl x q hq
      exact hfree b o h1
    · exact h.dist y p x q hp hq (by omega)
  refine ⟨g', ⟨u', hu2, fun q hq => ?_, fun x q hx hq hqk => ?_, by rw [hB]; exact rg, by rw [hB]; exact tg, fun x q hq => ?_, fun x q x' q' hq hq' hne => ?_⟩, gE, ?_⟩
  · have hqk : q.p.k = .ch := by
      rcases hu3 with h1 | ⟨q', hq', hk'⟩
      · have := lt_at hq; omega
      · rw [hq] at hq'; cases hq'; exact hk'
    refine ⟨hqk, ?_⟩
    have hp := D.chord u' u q r hq hr (by omega) hqk hk
    have h1 := hU.notYet q.p.i (D.ilt hq) (by rw [D.pre hq]; exact hp)
    have h2 : q.p.i ≠ r.p.i := fun e => by have := D.inj u' u q r hq hr e; omega
    simp [h1, h2]
  · rcases Nat.lt_trichotomy x u with h1 | h1 | h1
    · exact or_eq_true.2 (.inl (h.cur2 x q h1 hq hqk))
    · subst h1; rw [hr] at hq; cases hq; simp
    · exact absurd hqk (hu4 x q (by omega) hx hq)
  · obtain ⟨hq', hx⟩ := back x q hq
    obtain ⟨ob, c, e, hw, hro, hc, hl, hnew, hfree⟩ := h.fl x q hq'
    have hlt : (g q.A.nf).blk < w.heap.size := (Array.getElem?_eq_some_iff.1 hc).1
    have hgx := ge x q hq' hx
    refine ⟨ob, c, e, hw, hro, ?_, ?_, by rw [hgx]; exact hnew, fun b o hb => ?_⟩
    · rw [hgx]
      exact (t1.blk _ hlt fun b o hb _ => free x q hq' hx b o hb).trans hc
    · rw [hgx]; exact hl.ext (k := 0) (fun b hb => by omega) hw
    · rw [hB] at hb
      rw [hgx, gE b (r1.wf b o hb).1]
      rcases t1.mine b o hb with ⟨c', oc, hc', he, _⟩ | hs
      · rw [he]; exact free x q hq' hx c' oc hc'
      · omega
  · obtain ⟨h1, h2⟩ := back x q hq
    obtain ⟨h3, h4⟩ := back x' q' hq'
    rw [ge x q h1 h2, ge x' q' h3 h4]
    exact h.dist x q x' q' h1 h3 hne
  · refine h.stab D hU.down (fun b hb => gg b (Nat.lt_of_lt_of_le hb (D.bnf u h.le))) fun x q hq hqk htk hS => ?_
    rcases Nat.lt_trichotomy x u with h1 | h1 | h1
    · obtain ⟨ob, B, h2, _⟩ := D.made hq hqk htk
      have h3 := D.mono (t := x + 1) (t' := u) (by omega) h.le
      rw [h2] at h3
      exact gg _ (by simp only [AH.add] at h3; omega)
    · subst h1; rw [hr] at hq; cases hq; rw [hk] at hqk; cases hqk
    · exact ge x q ⟨hq, hqk, htk, hS, fun y p hy hy' hp => by omega⟩ h1
end
end Go.Ex
namespace Go.Ex
open Go Go.Sx
section
variable {P : Program} {rec : Rec} {ops : List Oper} {n : Nat} {masks : List Nat} {rs : List Rc} {σ' : Sl'} {A' B' : AH} {E0 g : Env} {A0 : AH} {w0 w w1 : World} {S : Nat → Bool} {u t : Nat} {r : Rc}
theorem MS.keep (h : MS rs A' B' E0 A0 w0 S g w u) (D : Dr P rec ops n masks rs σ' A' B') (hr : rs[t]? = some r) (hk : r.p.k ≠ .ch) (hf : r.p.k = .fl → r.tk = false) (k1 : Rel g (bhF rs B' u) w1) (k2 : To E0 A0 w0 g (bhF rs B' u) w1)
    (k3 : ∀ x, x < w.heap.size → (∀ b o, (bhF rs B' u).get b = some o → (g b).blk ≠ x) → w1.heap[x]? = w.heap[x]?) : MS rs A' B' E0 A0 w0 (fun j => S j || j == r.p.i) g w1 u := by
  have back : ∀ (x : Nat) (q : Rc), Early rs (fun j => S j || j == r.p.i) u x q → Early rs S u x q := by
    intro x q hq
    refine ⟨hq.at_, hq.fl, hq.tk, ?_, hq.seg⟩
    rcases or_eq_true.1 hq.up with h1 | h1
    · exact h1
    · have := D.inj x t q r hq.at_ hr h1
      subst this
      have e := hq.at_
      rw [hr] at e
      cases e
      have := hf hq.fl
      rw [hq.tk] at this; cases this
  refine ⟨h.le, fun q hq => ?_, fun x q hx hq hqk => or_eq_true.2 (.inl (h.cur2 x q hx hq hqk)), k1, k2, fun x q hq => ?_, fun x q x' q' hq hq' hne => h.dist x q x' q' (back x q hq) (back x' q' hq') hne⟩
  · obtain ⟨c1, c2⟩ := h.cur1 q hq
    refine ⟨c1, ?_⟩
    have : q.p.i ≠ r.p.i := fun e => by
      have := D.inj u t q r hq hr e
      subst this
      rw [hr] at hq; cases hq
      exact hk c1
    simp [c2, this]
  · obtain ⟨ob, c, e, hw, hro, hc, hl, hnew, hfree⟩ := h.fl x q (back x q hq)
    exact ⟨ob, c, e, hw, hro, (k3 _ (Array.getElem?_eq_some_iff.1 hc).1 hfree).trans hc, hl, hnew, hfree⟩
theorem MS.quietStep (h : MS rs A' B' E0 A0 w0 S g w u) (D : Dr P rec ops n masks rs σ' A' B') (hs0 : SWf (ahF rs A' 0).nf (sgF rs σ' 0)) (hr : rs[t]? = some r) (hk : r.p.k = .pure ∨ r.p.k = .read) (htk : r.tk = true) (hU : Ups ops (preM masks) r.p.i S) :
    notDefer r.p.o.op = true ∧ ∃ w1, (execOp (ev n (slots n g r.σ)) r.p.o).run P w = .ok (.value (ren g r.v)) w1 ∧ MS rs A' B' E0 A0 w0 (fun j => S j || j == r.p.i) g w1 u := by
  -- the heap in which it is evaluated
  obtain ⟨hh, hxq, hcase⟩ : ∃ hh, xq P r.p.o n r.σ hh = some r.v ∧ (hh = .e ∨ hh = (bhF rs B' u).h) := by
    rcases hk with hk | hk
    · have := (D.step t r hr).on htk
      unfold xone at this
      rw [show kindOf r.p.o.op = .pure from hk] at this
      obtain ⟨v, hv, e⟩ := map_some this
      simp only [Prod.mk.injEq] at e
      rw [e.1] at hv
      exact ⟨.e, hv, .inl rfl⟩
    · refine ⟨_, (D.chk t r u hr h.bnd (.inr hk) (fun j q hq hqk hm => ?_) (fun j q hq hqk hm => ?_)).2 hk htk, .inr rfl⟩
      · exact h.chain D hU.down hq hqk (hU.already q.p.i (by rw [D.pre hr]; exact hm))
      · rcases Nat.lt_or_ge j u with h2 | h2
        · have a1 := h.cur2 j q h2 hq hqk
          have a2 := hU.notYet q.p.i (D.ilt hq) (by rw [D.pre hq]; exact hm)
          rw [a1] at a2; cases a2
        · exact h2
  unfold xq at hxq
  split at hxq
  · rename_i v Bx hx
    cases hxq
    have hBx := quiet_heap hk hx
    subst hBx
    have hbig : (bhF rs B' u).nf ≤ BIG := Nat.le_trans (D.bnf u h.le) (D.bignf h.le)
    have hR : Rel g ⟨hh, BIG⟩ w := by
      rcases hcase with rfl | rfl
      · exact h.rel.none (Nat.le_trans h.rel.low hbig)
      · exact h.rel.less hbig
    have hsw : SWf BIG r.σ := by
      have := D.swf hs0 t (Nat.le_of_lt (lt_at hr))
      rw [sgF_at hr] at this
      exact this.mono (D.bignf (Nat.le_of_lt (lt_at hr)))
    have hdoes := xop_sound (P := P) r.p.o.op g ⟨hh, BIG⟩ ⟨hh, BIG⟩ w (xev n r.σ) n (slots n g r.σ) (.val r.v) r.p.o.dst r.p.o.type r.p.o.pos r.p.o.after r.p.o.guard hR (xev_ok hR hsw) hx
    obtain ⟨E1, w1, hrun, h1, t1, hv⟩ := hdoes
    refine ⟨xop_notDefer hx, w1, ?_, ?_⟩
    · have e : ren E1 r.v = ren g r.v := ren_ext t1.ext r.v hv
      have : XR.next E1 (.val r.v) = .value (ren g r.v) := by simp only [XR.next, e]
      rw [← this]
      exact hrun
    · refine h.keep D hr (by rcases hk with hk | hk <;> rw [hk] <;> simp) (by rcases hk with hk | hk <;> rw [hk] <;> simp) ?_ ?_ ?_
      · rcases hcase with rfl | rfl
        · exact ⟨fun b o hb => by
            obtain ⟨c, hc, hl⟩ := h.rel.obj b o hb
            exact ⟨c, (t1.blk _ (h.rel.lt hb) fun b' o' hb' => by cases hb').trans hc, hl⟩, h.rel.inj, h.rel.wf, h.rel.glob, h.rel.low⟩
        · exact ⟨fun b o hb => by
            obtain ⟨c, hc, hl⟩ := h1.obj b o hb
            have hw := h1.wf b o hb
            have e : E1 b = g b := t1.ext b hw.1
            rw [e] at hc hl
            exact ⟨c, hc, hl.ext (fun b' hb' => (t1.ext b' hb').symm) hw.2⟩, h.rel.inj, h.rel.wf, h.rel.glob, h.rel.low⟩
      · rcases hcase with rfl | rfl
        · exact ⟨h.to.nf, h.to.ext, t1.os.trans h.to.os, t1.tape.trans h.to.tape, t1.output.trans h.to.output, Nat.le_trans h.to.size t1.size,
            fun x hx hn => (t1.blk x (Nat.lt_of_lt_of_le hx h.to.size) fun b' o' hb' => by cases hb').trans (h.to.blk x hx hn), h.to.mine⟩
        · have T1 : To E0 A0 w0 g ⟨(bhF rs B' u).h, BIG⟩ w := ⟨Nat.le_trans h.to.nf hbig, h.to.ext, h.to.os, h.to.tape, h.to.output, h.to.size, h.to.blk, h.to.mine⟩
          have T2 := (T1.trans t1).env h1 fun b hb => (t1.ext b hb).symm
          exact ⟨h.to.nf, T2.ext, T2.os, T2.tape, T2.output, T2.size, T2.blk, T2.mine⟩
      · intro x hx hn
        refine t1.blk x hx fun b o hb _ => ?_
        rcases hcase with rfl | rfl
        · cases hb
        · exact hn b o hb
  · cases hxq
theorem MS.flStep (h : MS rs A' B' E0 A0 w0 S g w u) (D : Dr P rec ops n masks rs σ' A' B') (hs0 : SWf (ahF rs A' 0).nf (sgF rs σ' 0)) (hr : rs[t]? = some r) (hk : r.p.k = .fl) (htk : r.tk = true) (hU : Ups ops (preM masks) r.p.i S) :
    notDefer r.p.o.op = true ∧ ∃ w1 g', (execOp (ev n (slots n g r.σ)) r.p.o).run P w = .ok (.value (ren g' r.v)) w1 ∧ MS rs A' B' E0 A0 w0 (fun j => S j || j == r.p.i) g' w1 u ∧ ∀ k f, (VV ops rs)[k]? = some f → S k = true → f g' = f g := by
  have htl := lt_at hr
  -- it does not stand ahead of an operation on memory that has come up
  have hsg : ∀ (x : Nat) (q : Rc), t ≤ x → x < u → rs[x]? = some q → q.p.k ≠ .ch := by
    intro x
    induction x using Nat.strongRecOn with
    | _ x ih =>
      intro q hx hxu hq hqk
      have hne : t ≠ x := by rintro rfl; rw [hr] at hq; cases hq; rw [hk] at hqk; cases hqk
      have hp := D.flo t x r q hr hq (by omega) hk hqk fun y p hy hy' hp => ih y hy' p (by omega) (by omega) hp
      have a1 := h.cur2 x q hxu hq hqk
      have a2 := hU.notYet q.p.i (D.ilt hq) (by rw [D.pre hq]; exact hp)
      rw [a1] at a2; cases a2
  have hlow : (bhF rs B' u).nf ≤ r.A.nf := by
    have := D.low h.le (Nat.le_of_lt htl) hsg
    rwa [ahF_at hr] at this
  obtain ⟨ob, B, e1, hx, rfl, hw0, hro, hok, hnm⟩ := D.made hr hk htk
  have hGB : GB ≤ r.A.nf := Nat.le_trans h.rel.low hlow
  have hR : Rel g ⟨.e, r.A.nf⟩ w := h.rel.none hGB
  have hsw : SWf r.A.nf r.σ := by
    have := D.swf hs0 t (Nat.le_of_lt htl)
    rwa [sgF_at hr, ahF_at hr] at this
  have hdoes := xop_sound (P := P) r.p.o.op g ⟨.e, r.A.nf⟩ _ w (xev n r.σ) n (slots n g r.σ) (.val r.v) r.p.o.dst r.p.o.type r.p.o.pos r.p.o.after r.p.o.guard hR (xev_ok hR hsw) hx
  obtain ⟨E1, w1, hrun, h1, t1, hv⟩ := hdoes
  have hgetN : ((⟨.e, r.A.nf⟩ : AH).add ob).get r.A.nf = some ob := by rw [get_add, if_pos rfl]
  obtain ⟨c, hc, hl⟩ := h1.obj _ _ hgetN
  have hnew : w.heap.size ≤ (E1 r.A.nf).blk := by
    rcases t1.mine _ _ hgetN with ⟨c', oc, hc', _⟩ | hs
    · cases hc'
    · exact hs
  have keepw : ∀ x, x < w.heap.size → w1.heap[x]? = w.heap[x]? := fun x hx => t1.blk x hx fun b' o' hb' => by cases hb'
  have gne : ∀ b, b ≠ r.A.nf → upE g r.A.nf (E1 r.A.nf) b = g b := fun b hb => upE_ne g _ hb
  have glt : ∀ b, b < (bhF rs B' u).nf → upE g r.A.nf (E1 r.A.nf) b = g b := fun b hb => gne b (by omega)
  -- other new blocks have other names
  have gfl : ∀ (x : Nat) (q : Rc), rs[x]? = some q → q.p.k = .fl → q.tk = true → S q.p.i = true → upE g r.A.nf (E1 r.A.nf) q.A.nf = g q.A.nf := by
    intro x q hq hqk hqt hS
    refine gne _ ?_
    refine D.names_ne hq hr hqk hqt hk htk fun e => ?_
    subst e
    rw [hr] at hq; cases hq
    rw [hU.self] at hS; cases hS
  refine ⟨xop_notDefer hx, w1, upE g r.A.nf (E1 r.A.nf), ?_, ?_, h.stab D hU.down glt gfl⟩
  · have e : ren E1 r.v = ren (upE g r.A.nf (E1 r.A.nf)) r.v := okv_ren (fun b hb => by
      rcases hb with hb | hb
      · omega
      · simp only [List.mem_singleton] at hb
        subst hb
        rw [upE_self]) r.v hok
    have : XR.next E1 (.val r.v) = .value (ren (upE g r.A.nf (E1 r.A.nf)) r.v) := by simp only [XR.next, e]
    rw [← this]
    exact hrun
  · have rel1 : Rel (upE g r.A.nf (E1 r.A.nf)) (bhF rs B' u) w1 := by
      refine Rel.env (E := g) ⟨fun b o hb => ?_, h.rel.inj, h.rel.wf, h.rel.glob, h.rel.low⟩ glt
      obtain ⟨c', hc', hl'⟩ := h.rel.obj b o hb
      exact ⟨c', (keepw _ (h.rel.lt hb)).trans hc', hl'⟩
    have hA0 : A0.nf ≤ (bhF rs B' u).nf := h.to.nf
    refine ⟨h.le, fun q hq => ?_, fun x q hx hq hqk => or_eq_true.2 (.inl (h.cur2 x q hx hq hqk)), rel1, ?_, fun x q hq => ?_, fun x q x' q' hq hq' hne => ?_⟩
    · obtain ⟨c1, c2⟩ := h.cur1 q hq
      refine ⟨c1, ?_⟩
      have : q.p.i ≠ r.p.i := fun e => by
        have := D.inj u t q r hq hr e
        subst this
        rw [hr] at hq; cases hq
        rw [hk] at c1; cases c1
      simp [c2, this]
    · refine ⟨h.to.nf, fun b hb => (glt b (by omega)).trans (h.to.ext b hb), t1.os.trans h.to.os, t1.tape.trans h.to.tape, t1.output.trans h.to.output, Nat.le_trans h.to.size t1.size,
        fun x hx hn => (keepw x (Nat.lt_of_lt_of_le hx h.to.size)).trans (h.to.blk x hx hn), fun b o hb => ?_⟩
      rw [glt b (h.rel.wf b o hb).1]
      exact h.to.mine b o hb
    · by_cases hxt : x = t
      · subst hxt
        have e := hq.at_
        rw [hr] at e
        cases e
        refine ⟨ob, c, e1, hw0, hro, by rw [upE_self]; exact hc, by rw [upE_self]; exact hl.ext (k := 0) (fun b hb => by omega) hw0, by rw [upE_self]; exact Nat.le_trans h.to.size hnew, fun b o hb => ?_⟩
        rw [upE_self, glt b (h.rel.wf b o hb).1]
        have := h.rel.lt hb
        omega
      · have hS : S q.p.i = true := by
          rcases or_eq_true.1 hq.up with h2 | h2
          · exact h2
          · exact absurd (D.inj x t q r hq.at_ hr h2) hxt
        obtain ⟨ob', c', e', hw', hro', hc', hl', hnew', hfree'⟩ := h.fl x q ⟨hq.at_, hq.fl, hq.tk, hS, hq.seg⟩
        have hgx := gfl x q hq.at_ hq.fl hq.tk hS
        refine ⟨ob', c', e', hw', hro', by rw [hgx]; exact (keepw _ (Array.getElem?_eq_some_iff.1 hc').1).trans hc', by rw [hgx]; exact hl'.ext (k := 0) (fun b hb => by omega) hw', by rw [hgx]; exact hnew', fun b o hb => ?_⟩
        rw [hgx, glt b (h.rel.wf b o hb).1]
        exact hfree' b o hb
    · have old : ∀ (y : Nat) (p : Rc), Early rs (fun j => S j || j == r.p.i) u y p → y ≠ t → Early rs S u y p := by
        intro y p hp hy
        refine ⟨hp.at_, hp.fl, hp.tk, ?_, hp.seg⟩
        rcases or_eq_true.1 hp.up with h2 | h2
        · exact h2
        · exact absurd (D.inj y t p r hp.at_ hr h2) hy
      have lt_old : ∀ (y : Nat) (p : Rc), Early rs S u y p → (g p.A.nf).blk < w.heap.size := by
        intro y p hp
        obtain ⟨_, c', _, _, _, hc', _⟩ := h.fl y p hp
        exact (Array.getElem?_eq_some_iff.1 hc').1
      by_cases hx1 : x = t
      · have hx2 : x' ≠ t := fun e => hne (hx1.trans e.symm)
        have o2 := old x' q' hq' hx2
        have := lt_old x' q' o2
        subst hx1
        have e := hq.at_
        rw [hr] at e
        cases e
        rw [upE_self, gfl x' q' o2.at_ o2.fl o2.tk o2.up]
        omega
      · have o1 := old x q hq hx1
        by_cases hx2 : x' = t
        · have := lt_old x q o1
          subst hx2
          have e := hq'.at_
          rw [hr] at e
          cases e
          rw [upE_self, gfl x q o1.at_ o1.fl o1.tk o1.up]
          omega
        · have o2 := old x' q' hq' hx2
          rw [gfl x q o1.at_ o1.fl o1.tk o1.up, gfl x' q' o2.at_ o2.fl o2.tk o2.up]
          exact h.dist x q x' q' o1 o2 hne
theorem xreg_ok (hm : P.follows .mixedOrders = true) : RegOk P (xreg P) := by
  intro k rec hrec q ops n σ A σ' A' hx E w r id hq h hs ds Q K
  obtain ⟨masks, rs, B', D, hsg0, hah0⟩ := xreg_dr hx
  have hs0 : SWf (ahF rs A' 0).nf (sgF rs σ' 0) := by rw [hsg0, hah0]; exact hs
  have hgE : ∀ {S g w1 u}, MS rs A' B' E A w S g w1 u → ∀ b, b < (ahF rs A' 0).nf → g b = E b := fun hM b hb => hM.to.ext b (by rw [hah0] at hb; exact hb)
  obtain ⟨u0, hu1, hu2, hu3, hu4⟩ := next_bnd rs rs.length 0 (by omega)
  have hb0 : bhF rs B' u0 = A := by rw [← D.ground hu1 hu2 hu4, ← D.same, hah0]
  have e0 : slots n E σ = slots n E (sgF rs σ' 0) := by rw [hsg0]
  rw [e0]
  refine rgdS (Γ := Env) hm (preM masks) D.regf (VV ops rs) VV_len (fun S g w1 => ∃ u, MS rs A' B' E A w S g w1 u) E ?_ ?_ ?_
  · refine ⟨u0, hu2, fun r hr => ⟨?_, rfl⟩, fun t r ht hr hk => absurd hk (hu4 t r (Nat.zero_le _) ht hr), by rw [hb0]; exact h.drew.1, by rw [hb0]; exact h.drew.2, fun t r he => ?_, fun t r t' r' he => ?_⟩
    · rcases hu3 with h1 | ⟨r', hr', hk⟩
      · have := lt_at hr; omega
      · rw [hr] at hr'; cases hr'; exact hk
    · exact absurd he.up (by simp)
    · exact absurd he.up (by simp)
  · rintro i o v S g w1 ho hv hU ⟨u, hM⟩
    have hil : i < ops.length := (List.getElem?_eq_some_iff.1 ho).1
    obtain ⟨t, rc, hr, rfl⟩ := D.all i hil
    have hro := (D.ent t rc hr).1
    rw [ho] at hro
    cases hro
    rw [VV_at hil] at hv
    cases hv
    refine ⟨slots n g rc.σ, D.looks hs0 (hgE hM) hr hU, ?_⟩
    have htl := lt_at hr
    have hst := D.step t rc hr
    have hsw : SWf rc.A.nf rc.σ := by
      have := D.swf hs0 t (Nat.le_of_lt htl)
      rwa [sgF_at hr, ahF_at hr] at this
    simp only [D.val hr]
    -- the guard
    have htaken : takenB ops.toArray n (slots n g rc.σ) rc.p.o.guard = rc.tk := by
      have hbig : (bhF rs B' u).nf ≤ BIG := Nat.le_trans (D.bnf u hM.le) (D.bignf hM.le)
      have hsb : SWf BIG rc.σ := by
        have := D.bignf (Nat.le_of_lt htl)
        rw [ahF_at hr] at this
        exact hsw.mono this
      rw [hst.tk]
      exact xtaken_eq (A := ⟨(bhF rs B' u).h, BIG⟩) (hM.rel.less hbig) hsb ops rc.p.o.guard
    cases htk : rc.tk with
    | false =>
      refine .inr ⟨htaken.trans htk, ?_⟩
      obtain ⟨hv, hA⟩ := hst.off htk
      by_cases hk : rc.p.k = .ch
      · obtain ⟨rfl, hrel, hnext⟩ := hM.chainStep D hr hk hU
        have hAA : ahF rs A' (u + 1) = ahF rs A' u := by rw [hA, ahF_at hr]
        obtain ⟨g', hM', hgg, hstab⟩ := hnext g w1 (by rw [hAA]; exact hrel) (by rw [hAA]; exact To.refl _ _ _)
        exact ⟨g', hM', by rw [hv, undef_ren], hstab⟩
      · exact ⟨g, ⟨u, hM.keep D hr hk (fun _ => htk) hM.rel hM.to fun x _ _ => rfl⟩, by rw [hv, undef_ren], fun _ _ _ _ => rfl⟩
    | true =>
      have htaken := htaken.trans htk
      cases hk : rc.p.k with
      | pure =>
        obtain ⟨hnd, w2, hrun, hM'⟩ := hM.quietStep D hs0 hr (.inl hk) htk hU
        exact .inl ⟨htaken, hnd, .inl ⟨_, w2, hrun, g, ⟨u, hM'⟩, rfl, fun _ _ _ _ => rfl⟩⟩
      | read =>
        obtain ⟨hnd, w2, hrun, hM'⟩ := hM.quietStep D hs0 hr (.inr hk) htk hU
        exact .inl ⟨htaken, hnd, .inl ⟨_, w2, hrun, g, ⟨u, hM'⟩, rfl, fun _ _ _ _ => rfl⟩⟩
      | fl =>
        obtain ⟨hnd, w2, g', hrun, hM', hstab⟩ := hM.flStep D hs0 hr hk htk hU
        exact .inl ⟨htaken, hnd, .inl ⟨_, w2, hrun, g', ⟨u, hM'⟩, rfl, hstab⟩⟩
      | ch =>
        obtain ⟨rfl, hrel, hnext⟩ := hM.chainStep D hr hk hU
        have hon := hst.on htk
        unfold xone at hon
        rw [show kindOf rc.p.o.op = .ch from hk] at hon
        simp only at hon
        rw [ahF_at hr] at hrel
        obtain ⟨hnd, hob⟩ := xdo_oob hrec hon hrel hsw (Nx := fun v' w' => ∃ g', (∃ u, MS rs A' B' E A w (fun j => S j || j == rc.p.i) g' w' u) ∧ v' = ren g' rc.v ∧ ∀ k f, (VV ops rs)[k]? = some f → S k = true → f g' = f g) (fun E1 w2 h1 t1 hv => by
          obtain ⟨g', hM', hgg, hstab⟩ := hnext E1 w2 h1 (by rw [ahF_at hr]; exact t1)
          exact ⟨g', hM', (ren_ext hgg rc.v hv).symm, hstab⟩)
        exact .inl ⟨htaken, hnd, hob⟩
  · rintro S g w1 hall ⟨u, hM⟩
    have hu : u = rs.length := by
      rcases Nat.lt_or_ge u rs.length with h1 | h1
      · obtain ⟨rc, hr⟩ := at_lt h1
        have := (hM.cur1 rc hr).2
        rw [hall _ (D.ilt hr)] at this; cases this
      · exact Nat.le_antisymm hM.le h1
    subst hu
    obtain ⟨j1, j2, _⟩ := hM.join D fun t rc _ hr _ _ => hall _ (D.ilt hr)
    rw [ahF_end (Nat.le_refl _)] at j1 j2
    have hend : sgF rs σ' rs.length = σ' := by unfold sgF; rw [List.getElem?_eq_none (Nat.le_refl _)]
    have hsw := D.swf hs0 rs.length (Nat.le_refl _)
    rw [hend, ahF_end (Nat.le_refl _)] at hsw
    have := K g w1 j1 j2 hsw
    have hfr : Fr n (slots n g σ') ds = Fr n (slS (fun _ => true) 0 ops ((VV ops rs).map (· g)) (slots n E (sgF rs σ' 0))) ds := by
      refine Fr_ext' ds fun s hsn => ?_
      have h1 := D.slotsAt hs0 (hgE hM) rs.length (Nat.le_refl _) s hsn
      rw [hend] at h1
      rw [h1, look_slS, look_slS]
      congr 1
      refine lastW_congr ops 0 _ _ rfl fun j oj hj _ => ⟨?_, fun _ => rfl⟩
      rw [Nat.zero_add]
      obtain ⟨t, rc, hr, e⟩ := D.all j (List.getElem?_eq_some_iff.1 hj).1
      exact plc_true.2 ⟨t, rc, lt_at hr, hr, e⟩
    rw [← hfr]
    exact this
end
end Go.Ex
namespace Go.Ex
open Go Go.Sx
noncomputable section
def isTrue : Option Out → Bool
  | some (.call (.bool true) _) => true
  | _ => false
def AH.none : AH := ⟨.e, GB⟩
def E00 : Env := fun b => ⟨b, 0, 0⟩
theorem rel_none (w : World) : Rel E00 AH.none w :=
  ⟨fun b o hb => (by cases hb), fun b b' o o' hb => (by cases hb), fun b o hb => (by cases hb), fun b _ => rfl, Nat.le_refl _⟩
theorem To.chg {E E' : Env} {A A' : AH} {w w' : World} (h : To E A w E' A' w') (hA : ∀ b o, A.get b = some o → o.ro = true) : Chg [] w w' :=
  ⟨h.os, h.tape, h.output, h.size, fun x hx _ => h.blk x hx fun b o hb hr => by rw [hA b o hb] at hr; cases hr⟩
theorem closed_true {P : Program} (hm : P.follows .mixedOrders = true) {k : Nat} {f : FuncId} (h : isTrue (run P (xreg P) k (.call f [] AH.none)) = true) (w : World) : CR P f #[] w (fun v w' => v = .bool true ∧ Chg [] w w') := by
  unfold isTrue at h
  split at h
  · rename_i A' hr
    have hc : CallOk P f [] AH.none (.bool true) A' := run_sound (xreg_ok hm) k _ _ hr
    refine CR.mono (hc E00 w (rel_none w) (by simp [nmL])) ?_
    rintro v w' ⟨E', rfl, _, t, _⟩
    exact ⟨rfl, t.chg fun b o hb => by cases hb⟩
  · cases h
end
end Go.Ex
namespace Go.Ex
open Go Go.Sx
noncomputable section
def AH.glob : List (Nat × List Value) → AH
  | [] => AH.none
  | (g, cs) :: l => (AH.glob l).set g (.cells cs 0 Option.none true)
theorem glob_get : ∀ (l : List (Nat × List Value)) (b : Nat) (o : AO), (AH.glob l).get b = some o → ∃ p ∈ l, b = p.1 ∧ o = .cells p.2 0 Option.none true
  | [], b, o, h => by cases h
  | (g, cs) :: l, b, o, h => by
    rw [AH.glob, get_set] at h
    split at h
    · rename_i e; cases h; exact ⟨(g, cs), List.mem_cons_self .., e, rfl⟩
    · obtain ⟨p, hp, h1⟩ := glob_get l b o h
      exact ⟨p, List.mem_cons_of_mem _ hp, h1⟩
theorem glob_nf : ∀ l : List (Nat × List Value), (AH.glob l).nf = GB
  | [] => rfl
  | (g, cs) :: l => glob_nf l
def GlobOk (w : World) (p : Nat × List Value) : Prop := p.1 < GB ∧ nmL p.2 = 0 ∧ p.2 ≠ [] ∧ ∀ j u, p.2[j]? = some u → w.cell? ⟨p.1, j, none⟩ = some u
theorem rel_glob {l : List (Nat × List Value)} {w : World} (h : ∀ p ∈ l, GlobOk w p) : Rel E00 (AH.glob l) w := by
  refine ⟨fun b o hb => ?_, fun b b' o o' hb hb' e => e, fun b o hb => ?_, fun b _ => rfl, by rw [glob_nf]; exact Nat.le_refl _⟩
  · obtain ⟨p, hp, rfl, rfl⟩ := glob_get l b o hb
    obtain ⟨h1, h2, h3, h4⟩ := h p hp
    obtain ⟨u, hu⟩ : ∃ u, p.2[0]? = some u := by
      cases hc : p.2 with
      | nil => exact absurd hc h3
      | cons u us => exact ⟨u, rfl⟩
    have hc := h4 0 u hu
    obtain ⟨arr, T', mk, hh⟩ : ∃ arr T' mk, w.heap[p.1]? = some (.cells arr T' mk) := by
      simp only [World.cell?] at hc
      split at hc
      · rename_i a b c hx; exact ⟨_, _, _, hx⟩
      · cases hc
    refine ⟨_, hh, arr, T', mk, rfl, fun j v hv => ?_⟩
    have := h4 j v hv
    rw [cell_of_row w p.1 j arr T' mk hh] at this
    have hz : ren E00 v = v := ren_id v (by have := nmL_le.1 (by omega : nmL p.2 ≤ 0) v (List.mem_of_getElem? hv); omega) E00
    rw [hz]
    simpa [E00] using this
  · obtain ⟨p, hp, rfl, rfl⟩ := glob_get l b o hb
    obtain ⟨h1, h2, h3, h4⟩ := h p hp
    rw [glob_nf]
    exact ⟨h1, by simp only [AO.Wf]; omega⟩
theorem closed_glob {P : Program} (hm : P.follows .mixedOrders = true) {l : List (Nat × List Value)} {k : Nat} {f : FuncId} (h : isTrue (run P (xreg P) k (.call f [] (AH.glob l))) = true) (w : World) (hg : ∀ p ∈ l, GlobOk w p) :
    CR P f #[] w (fun v w' => v = .bool true ∧ Chg [] w w') := by
  unfold isTrue at h
  split at h
  · rename_i A' hr
    have hc : CallOk P f [] (AH.glob l) (.bool true) A' := run_sound (xreg_ok hm) k _ _ hr
    refine CR.mono (hc E00 w (rel_glob hg) (by simp [nmL])) ?_
    rintro v w' ⟨E', rfl, _, t, _⟩
    exact ⟨rfl, t.chg fun b o hb => by obtain ⟨p, _, _, rfl⟩ := glob_get l b o hb; rfl⟩
  · cases h
theorem arr_cells {P : Program} {H : Type} {enc : TypeId × Value → H} {w : World} {base : Nat} {sp : Nat → Bool} {hd : Bool} {fuel : Nat} {t e : TypeId} {n : Nat} {k : IntKind} {cs : List Value} {pl : List MemPlace} {xs : List Int}
    (ht : P.underlying t = some (.array n e)) (he : P.underlying e = some (.int k)) (hc : P.cellsOf e = 1) (h : DataW.trod enc P w base sp hd fuel t cs = some (.agg (xs.map fun x => .lit (.int k x)), pl)) (hx : xs.length = n) :
    ∀ (j : Nat) (x : Int), xs[j]? = some x → cs[j]? = some (.int k x) := by
  obtain ⟨ys, m, rfl, hy, hl, hn, hel⟩ := DataW.trod_array ht h
  simp only [Prod.mk.injEq, DataW.agg.injEq] at hy
  intro j x hj
  have hjn : j < n := by have := (List.getElem?_eq_some_iff.1 hj).1; omega
  have h1 := hel j hjn
  rw [hc, Nat.mul_one] at h1
  obtain ⟨y, hy1⟩ : ∃ y, ys[j]? = some y := ⟨_, List.getElem?_eq_getElem (by omega)⟩
  rw [hy1] at h1
  obtain ⟨q, e1, e2, _⟩ := DataW.trod_int he h1
  have h2 : (ys.map (·.1))[j]? = some (.lit (.int k x)) := by rw [← hy.1]; simp [hj]
  rw [List.getElem?_map, hy1] at h2
  simp only [Option.map_some, e2, Option.some.injEq] at h2
  have h3 : q = x := by
    have := h2
    simp only [DataW.lit.injEq, Lit.int.injEq, true_and] at this
    exact this
  subst h3
  have h4 : ((cs.drop j).take 1)[0]? = some (.int k q) := by rw [e1]; rfl
  simpa [List.getElem?_take] using h4
end
end Go.Ex
namespace Go.Ex
open Go Go.Sx
noncomputable section
def eseq : List (Value × Value × Nat) → List (Value × Value × Nat) → Bool
  | [], [] => true
  | (a, b, c) :: l, (a', b', c') :: l' => veq a a' && (veq b b' && (Nat.beq c c' && eseq l l'))
  | _, _ => false
theorem eseq_eq : ∀ l l' : List (Value × Value × Nat), eseq l l' = true → l = l'
  | [], [], _ => rfl
  | (a, b, c) :: l, (a', b', c') :: l', h => by
    simp only [eseq, Bool.and_eq_true] at h
    rw [veq_eq _ _ h.1, veq_eq _ _ h.2.1, Nat.eq_of_beq_eq_true h.2.2.1, eseq_eq _ _ h.2.2.2]
  | [], _ :: _, h => by simp [eseq] at h
  | _ :: _, [], h => by simp [eseq] at h
def opeq : Option Nat → Option Nat → Bool
  | none, none => true
  | some a, some b => Nat.beq a b
  | _, _ => false
theorem opeq_eq : ∀ a b : Option Nat, opeq a b = true → a = b
  | none, none, _ => rfl
  | some a, some b, h => by rw [Nat.eq_of_beq_eq_true h]
  | none, some _, h => by cases h
  | some _, none, h => by cases h
def beqB : Bool → Bool → Bool
  | true, b => b
  | false, b => !b
theorem beqB_eq : ∀ a b : Bool, beqB a b = true → a = b
  | true, true, _ => rfl
  | false, false, _ => rfl
def holds : Option AO → AO → Bool
  | some (.cells cs T op ro), .cells cs' T' op' ro' => Nat.beq T T' && (opeq op op' && (beqB ro ro' && veqL cs cs'))
  | some (.map es c), .map es' c' => Nat.beq c c' && eseq es es'
  | _, _ => false
theorem holds_eq : ∀ (a : Option AO) (o : AO), holds a o = true → a = some o
  | some (.cells cs T op ro), .cells cs' T' op' ro', h => by
    simp only [holds, Bool.and_eq_true] at h
    rw [Nat.eq_of_beq_eq_true h.1, opeq_eq _ _ h.2.1, beqB_eq _ _ h.2.2.1, veqL_eq _ _ h.2.2.2]
  | some (.map es c), .map es' c', h => by
    simp only [holds, Bool.and_eq_true] at h
    rw [Nat.eq_of_beq_eq_true h.1, eseq_eq _ _ h.2]
  | none, _, h => by simp [holds] at h
  | some (.loop ..), _, h => by simp [holds] at h
  | some (.done ..), _, h => by simp [holds] at h
  | some (.miter ..), _, h => by simp [holds] at h
  | some .dfr, _, h => by simp [holds] at h
  | some (.cells ..), .map .., h => by simp [holds] at h
  | some (.cells ..), .loop .., h => by simp [holds] at h
  | some (.cells ..), .done .., h => by simp [holds] at h
  | some (.cells ..), .miter .., h => by simp [holds] at h
  | some (.cells ..), .dfr, h => by simp [holds] at h
  | some (.map ..), .cells .., h => by simp [holds] at h
  | some (.map ..), .loop .., h => by simp [holds] at h
  | some (.map ..), .done .., h => by simp [holds] at h
  | some (.map ..), .miter .., h => by simp [holds] at h
  | some (.map ..), .dfr, h => by simp [holds] at h
def holdsL (A : AH) : List (Nat × AO) → Bool
  | [] => true
  | (b, o) :: l => holds (A.get b) o && holdsL A l
theorem holdsL_mem {A : AH} : ∀ {l : List (Nat × AO)}, holdsL A l = true → ∀ p ∈ l, A.get p.1 = some p.2
  | (b, o) :: l, h, p, hp => by
    simp only [holdsL, Bool.and_eq_true] at h
    rcases List.mem_cons.1 hp with rfl | hp
    · exact holds_eq _ _ h.1
    · exact holdsL_mem h.2 p hp
def putsL (t : Tr PO) : List (Nat × AO) → Tr PO
  | [] => t
  | (b, o) :: l => (putsL t l).put b (some (PO.of o))
theorem putsL_get (t : Tr PO) (n n' : Nat) : ∀ (l : List (Nat × AO)) (b : Nat) (o : AO), (⟨putsL t l, n⟩ : AH).get b = some o → (b, o) ∈ l ∨ ((∀ p ∈ l, p.1 ≠ b) ∧ (⟨t, n'⟩ : AH).get b = some o)
  | [], b, o, h => .inr ⟨fun p hp => (by cases hp), h⟩
  | (b', o') :: l, b, o, h => by
    rw [putsL, AH.get_mk (n' := n), PO.to_of] at h
    split at h
    · rename_i e; cases h; subst e; exact .inl (List.mem_cons_self ..)
    · rename_i e
      rcases putsL_get t n n' l b o h with h1 | ⟨h1, h2⟩
      · exact .inl (List.mem_cons_of_mem _ h1)
      · refine .inr ⟨fun p hp => ?_, h2⟩
        rcases List.mem_cons.1 hp with rfl | hp
        · exact Ne.symm e
        · exact h1 p hp
def putsC (t : Tr PO) : List (Nat × Option AO) → Tr PO
  | [] => t
  | (b, o) :: l => (putsC t l).put b (match o with | some o => some (PO.of o) | none => none)
theorem putsC_get (t : Tr PO) (n n' : Nat) : ∀ (l : List (Nat × Option AO)) (b : Nat) (o : AO), (⟨putsC t l, n⟩ : AH).get b = some o → (b, some o) ∈ l ∨ ((∀ p ∈ l, p.1 ≠ b) ∧ (⟨t, n'⟩ : AH).get b = some o)
  | [], b, o, h => .inr ⟨fun p hp => (by cases hp), h⟩
  | (b', o') :: l, b, o, h => by
    have key : b ≠ b' → (⟨putsC t l, n⟩ : AH).get b = some o → (b, some o) ∈ (b', o') :: l ∨ ((∀ p ∈ (b', o') :: l, p.1 ≠ b) ∧ (⟨t, n'⟩ : AH).get b = some o) := fun e h => by
      rcases putsC_get t n n' l b o h with h1 | ⟨h1, h2⟩
      · exact .inl (List.mem_cons_of_mem _ h1)
      · refine .inr ⟨fun p hp => ?_, h2⟩
        rcases List.mem_cons.1 hp with rfl | hp
        · exact Ne.symm e
        · exact h1 p hp
    cases o' with
    | some o' =>
      simp only [putsC] at h
      rw [AH.get_mk (n' := n), PO.to_of] at h
      split at h
      · rename_i e; cases h; subst e; exact .inl (List.mem_cons_self ..)
      · rename_i e; exact key e h
    | none =>
      have h' : ((⟨putsC t l, n⟩ : AH).strike b').get b = some o := h
      rw [get_strike] at h'
      split at h'
      · cases h'
      · rename_i e; exact key e h'
structure Ent where
  f : Nat
  nf : Nat
  args : List Value
  pre : List (Nat × AO)
  v : Value
  chg : List (Nat × Option AO)
  nf' : Nat
def hasN (b : Nat) : List (Nat × Option AO) → Bool
  | [] => false
  | (b', _) :: l => Nat.beq b b' || hasN b l
theorem hasN_mem {b : Nat} : ∀ {l : List (Nat × Option AO)}, hasN b l = true → ∃ o, (b, o) ∈ l
  | (b', o) :: l, h => by
    simp only [hasN, Bool.or_eq_true] at h
    rcases h with h | h
    · have := Nat.eq_of_beq_eq_true h; subst this; exact ⟨o, List.mem_cons_self ..⟩
    · obtain ⟨o', h'⟩ := hasN_mem h; exact ⟨o', List.mem_cons_of_mem _ h'⟩
def holdsU (A : AH) (chg : List (Nat × Option AO)) : List (Nat × AO) → Bool
  | [] => true
  | (b, o) :: l => (hasN b chg || holds (A.get b) o) && holdsU A chg l
theorem holdsU_mem {A : AH} {chg : List (Nat × Option AO)} : ∀ {l : List (Nat × AO)}, holdsU A chg l = true → ∀ p ∈ l, (∃ o, (p.1, o) ∈ chg) ∨ A.get p.1 = some p.2
  | (b, o) :: l, h, p, hp => by
    simp only [holdsU, Bool.and_eq_true, Bool.or_eq_true] at h
    rcases List.mem_cons.1 hp with rfl | hp
    · exact h.1.imp hasN_mem (holds_eq _ _)
    · exact holdsU_mem h.2 p hp
def holdsC (A : AH) : List (Nat × Option AO) → Bool
  | [] => true
  | (b, some o) :: l => holds (A.get b) o && holdsC A l
  | (_, none) :: l => holdsC A l
theorem holdsC_mem {A : AH} : ∀ {l : List (Nat × Option AO)}, holdsC A l = true → ∀ b o, (b, some o) ∈ l → A.get b = some o
  | (b', some o') :: l, h, b, o, hp => by
    simp only [holdsC, Bool.and_eq_true] at h
    rcases List.mem_cons.1 hp with e | hp
    · cases e; exact holds_eq _ _ h.1
    · exact holdsC_mem h.2 b o hp
  | (b', none) :: l, h, b, o, hp => by
    simp only [holdsC] at h
    rcases List.mem_cons.1 hp with e | hp
    · cases e
    · exact holdsC_mem h b o hp
def Ent.start (e : Ent) : AH := ⟨putsL .e e.pre, e.nf⟩
def Ent.chk (e : Ent) : Option Out → Bool
  | some (.call v A) => veq v e.v && (Nat.beq A.nf e.nf' && (holdsC A e.chg && holdsU A e.chg e.pre))
  | _ => false
def Ent.use (e : Ent) (f : FuncId) (args : List Value) (A : AH) : Option Out :=
  cond (Nat.beq f e.f) (cond (Nat.beq A.nf e.nf) (cond (veqL args e.args) (cond (holdsL A e.pre) (some (.call e.v ⟨putsC A.h e.chg, e.nf'⟩)) none) none) none) none
def EntOk (P : Program) (e : Ent) : Prop := ∃ A1 : AH, CallOk P e.f e.args e.start e.v A1 ∧ A1.nf = e.nf' ∧ (∀ b o, (b, some o) ∈ e.chg → A1.get b = some o) ∧ ∀ p ∈ e.pre, (∃ o, (p.1, o) ∈ e.chg) ∨ A1.get p.1 = some p.2
abbrev Tab := Tr Ent
def TabOk (P : Program) (t : Tab) : Prop := ∀ k e, t.get k = some e → EntOk P e
theorem use_sound {P : Program} {e : Ent} (he : EntOk P e) {f : FuncId} {args : List Value} {A A' : AH} {v : Value} (h : e.use f args A = some (.call v A')) : CallOk P f args A v A' := by
  unfold Ent.use at h
  cases h1 : Nat.beq f e.f with
  | false => rw [h1] at h; cases h
  | true =>
  cases h2 : Nat.beq A.nf e.nf with
  | false => rw [h1, h2] at h; cases h
  | true =>
  cases h3 : veqL args e.args with
  | false => rw [h1, h2, h3] at h; cases h
  | true =>
  cases h4 : holdsL A e.pre with
  | false => rw [h1, h2, h3, h4] at h; cases h
  | true =>
  rw [h1, h2, h3, h4] at h
  simp only [cond_true, Option.some.injEq, Out.call.injEq] at h
  obtain ⟨rfl, rfl⟩ := h
  have g1 := Nat.eq_of_beq_eq_true h1
  have g2 := Nat.eq_of_beq_eq_true h2
  have g3 := veqL_eq _ _ h3
  have g4 := holdsL_mem h4
  subst g1 g3
  obtain ⟨A1, hc, hn, hchg, hpre⟩ := he
  have hst : ∀ b o, e.start.get b = some o → (b, o) ∈ e.pre := by
    intro b o hb
    rcases putsL_get .e e.nf 0 e.pre b o hb with h | ⟨_, h⟩
    · exact h
    · cases h
  have hsub : ∀ b o, e.start.get b = some o → A.get b = some o := fun b o hb => g4 _ (hst b o hb)
  intro E w hR hargs
  have hR0 : Rel E e.start w := ⟨fun b o hb => hR.obj b o (hsub b o hb), fun b b' o o' hb hb' e1 => hR.inj b b' o o' (hsub b o hb) (hsub b' o' hb') e1, fun b o hb => by
    have := hR.wf b o (hsub b o hb)
    rw [g2] at this
    exact this, hR.glob, by have := hR.low; rw [g2] at this; exact this⟩
  refine CR.mono (hc E w hR0 (by rw [← show A.nf = e.start.nf from g2]; exact hargs)) ?_
  rintro v' w' ⟨E', rfl, hR1, t1, hv⟩
  have hnf : A.nf ≤ A1.nf := by rw [g2]; exact t1.nf
  have hext : ∀ b, b < A.nf → E' b = E b := fun b hb => t1.ext b (by show b < e.nf; omega)
  -- where a name of the new state comes from
  have src : ∀ b o, (⟨putsC A.h e.chg, e.nf'⟩ : AH).get b = some o → A1.get b = some o ∨ (A.get b = some o ∧ ∀ o', e.start.get b ≠ some o') := by
    intro b o hb
    rcases putsC_get A.h e.nf' A.nf e.chg b o hb with h | ⟨h, hA⟩
    · exact .inl (hchg b o h)
    · have hA : A.get b = some o := hA
      by_cases hx : ∃ o', e.start.get b = some o'
      · obtain ⟨o', hx⟩ := hx
        have e1 := hsub b o' hx
        rw [hA] at e1
        cases e1
        rcases hpre _ (hst b o hx) with ⟨o2, h2⟩ | h2
        · exact absurd rfl (h _ h2)
        · exact .inl h2
      · exact .inr ⟨hA, fun o' h' => hx ⟨o', h'⟩⟩
  have sep : ∀ b o, A.get b = some o → (∀ o', e.start.get b ≠ some o') → ∀ b1 o1, A1.get b1 = some o1 → (E' b1).blk ≠ (E b).blk := by
    intro b o hb hnot b1 o1 h1 heq
    rcases t1.mine b1 o1 h1 with ⟨c, oc, hcc, e1, _⟩ | hs
    · have : b = c := hR.inj b c o oc hb (hsub c oc hcc) (by rw [← heq, e1])
      subst this
      exact hnot oc hcc
    · have := hR.lt hb
      omega
  refine ⟨E', rfl, ⟨?_, ?_, ?_, hR1.glob, ?_⟩, ⟨?_, hext, t1.os, t1.tape, t1.output, t1.size, ?_, ?_⟩, ?_⟩
  · intro b o hb
    rcases src b o hb with h | ⟨h, hnot⟩
    · exact hR1.obj b o h
    · obtain ⟨c, hc1, hl⟩ := hR.obj b o h
      have hbn := (hR.wf b o h).1
      rw [hext b hbn]
      refine ⟨c, (t1.blk _ (hR.lt h) fun b1 o1 h1 _ e1 => ?_).trans hc1, hl.ext hext (hR.wf b o h).2⟩
      have := hR.inj b1 b o1 o (hsub b1 o1 h1) h e1
      subst this
      exact hnot o1 h1
  · intro b b' o o' hb hb' heq
    rcases src b o hb with h | ⟨h, hnot⟩
    · rcases src b' o' hb' with h' | ⟨h', hnot'⟩
      · exact hR1.inj b b' o o' h h' heq
      · rw [hext b' (hR.wf b' o' h').1] at heq
        exact absurd heq (sep b' o' h' hnot' b o h)
    · rw [hext b (hR.wf b o h).1] at heq
      rcases src b' o' hb' with h' | ⟨h', hnot'⟩
      · exact absurd heq.symm (sep b o h hnot b' o' h')
      · rw [hext b' (hR.wf b' o' h').1] at heq
        exact hR.inj b b' o o' h h' heq
  · intro b o hb
    show b < e.nf' ∧ o.Wf e.nf'
    rw [← hn]
    rcases src b o hb with h | ⟨h, _⟩
    · exact hR1.wf b o h
    · exact ⟨Nat.lt_of_lt_of_le (hR.wf b o h).1 hnf, (hR.wf b o h).2.mono hnf⟩
  · show GB ≤ e.nf'
    rw [← hn]; exact hR1.low
  · show A.nf ≤ e.nf'
    rw [← hn]; exact hnf
  · exact fun x hx hno => t1.blk x hx fun b o hb => hno b o (hsub b o hb)
  · intro b o hb
    rcases src b o hb with h | ⟨h, _⟩
    · rcases t1.mine b o h with ⟨c, oc, hcc, e1, e2⟩ | hs
      · exact .inl ⟨c, oc, hsub c oc hcc, e1, e2⟩
      · exact .inr hs
    · exact .inl ⟨b, o, h, by rw [hext b (hR.wf b o h).1], id⟩
  · show nm e.v ≤ e.nf'
    rw [← hn]; exact hv
def tcall (P : Program) (tab : Tab) (rec : Rec) (f : FuncId) (args : List Value) (A : AH) : Option Out := match tab.get A.nf with
  | none => sCall P rec f args A
  | some e => match e.use f args A with
    | some o => some o
    | none => sCall P rec f args A
def stepT (P : Program) (tab : Tab) (reg : Reg) (rec : Rec) : Job → Option Out
  | .call f args A => tcall P tab rec f args A
  | .yield l args A => sYield rec l args A
  | .rounds c q n σ ds A => sRounds rec c q n σ ds A
  | .code c q n σ ds A => sCode P reg rec c q n σ ds A
def runT (P : Program) (tab : Tab) (reg : Reg) (k : Nat) : Rec := Nat.rec (motive := fun _ => Rec) (fun _ => none) (fun _ ih j => stepT P tab reg ih j) k
theorem stepT_sound {P : Program} {tab : Tab} (ht : TabOk P tab) {k : Nat} {rec : Rec} {reg : Reg} (hreg : RegOk P reg) (hrec : RecOk P k rec) : RecOk P (k + 1) (stepT P tab reg rec) := by
  intro j o h
  have key : ∀ o, step P reg rec j = some o → JobOk P (k + 1) j o := fun o h => step_sound hreg hrec j o h
  cases j with
  | call f args A =>
    simp only [stepT, tcall] at h
    split at h
    · exact key o h
    · rename_i e he
      split at h
      · rename_i o' ho
        cases h
        cases o with
        | code e σ ds A => trivial
        | call v A' => exact use_sound (ht _ _ he) ho
      · exact key o h
  | yield l args A => exact key o h
  | rounds c q n σ ds A => exact key o h
  | code c q n σ ds A => exact key o h
theorem runT_sound {P : Program} {tab : Tab} (ht : TabOk P tab) {reg : Reg} (hreg : RegOk P reg) : ∀ k, RecOk P k (runT P tab reg k)
  | 0 => fun j o h => by cases h
  | k + 1 => fun j o h => stepT_sound ht hreg (runT_sound ht hreg k) j o h
theorem ent_ok {P : Program} (hm : P.follows .mixedOrders = true) {tab : Tab} (ht : TabOk P tab) (e : Ent) (k : Nat) (h : e.chk (runT P tab (xreg P) k (.call e.f e.args e.start)) = true) : EntOk P e := by
  unfold Ent.chk at h
  split at h
  · rename_i v A hr
    simp only [Bool.and_eq_true] at h
    have := veq_eq _ _ h.1
    subst this
    exact ⟨A, runT_sound ht (xreg_ok hm) k _ _ hr, Nat.eq_of_beq_eq_true h.2.1, holdsC_mem h.2.2.1, holdsU_mem h.2.2.2⟩
  · cases h
theorem tab_nil (P : Program) : TabOk P .e := fun k e h => by rw [Tr.get_e] at h; cases h
theorem tab_put {P : Program} {t : Tab} {e : Ent} (ht : TabOk P t) (he : EntOk P e) (k : Nat) : TabOk P (t.put k (some e)) := by
  intro k' e' h
  rw [Tr.get_put] at h
  split at h
  · cases h; exact he
  · exact ht k' e' h
theorem tab_true {P : Program} (hm : P.follows .mixedOrders = true) {tab : Tab} (ht : TabOk P tab) {k : Nat} {f : FuncId} (h : isTrue (runT P tab (xreg P) k (.call f [] AH.none)) = true) (w : World) : CR P f #[] w (fun v w' => v = .bool true ∧ Chg [] w w') := by
  unfold isTrue at h
  split at h
  · rename_i A' hr
    have hc : CallOk P f [] AH.none (.bool true) A' := runT_sound ht (xreg_ok hm) k _ _ hr
    refine CR.mono (hc E00 w (rel_none w) (by simp [nmL])) ?_
    rintro v w' ⟨E', rfl, _, t, _⟩
    exact ⟨rfl, t.chg fun b o hb => by cases hb⟩
  · cases h
theorem tab_glob {P : Program} (hm : P.follows .mixedOrders = true) {tab : Tab} (ht : TabOk P tab) {l : List (Nat × List Value)} {k : Nat} {f : FuncId} (h : isTrue (runT P tab (xreg P) k (.call f [] (AH.glob l))) = true) (w : World) (hg : ∀ p ∈ l, GlobOk w p) :
    CR P f #[] w (fun v w' => v = .bool true ∧ Chg [] w w') := by
  unfold isTrue at h
  split at h
  · rename_i A' hr
    have hc : CallOk P f [] (AH.glob l) (.bool true) A' := runT_sound ht (xreg_ok hm) k _ _ hr
    refine CR.mono (hc E00 w (rel_glob hg) (by simp [nmL])) ?_
    rintro v w' ⟨E', rfl, _, t, _⟩
    exact ⟨rfl, t.chg fun b o hb => by obtain ⟨p, _, _, rfl⟩ := glob_get l b o hb; rfl⟩
  · cases h
end
end Go.Ex
namespace Go.Sx
open Go
section
variable {r : Option Nat} {P : Program} {ops : Array Oper} {Q : Exit → Act → World → Prop} {rest : List Oper} {n : Nat} {s : List (Nat × Value)} {ds : List Deferred} {w : World}
variable {d : Nat} {dd : Option Nat} {ty t e : TypeId} {pos : String} {af : Array Edge} {g : Option (Nat × Bool)} {x y z u : Operand} {b o c by_ : Nat} {z0 : Value} {bs : List (World × List Nat)} {cs : List Value}
theorem sl3_r (hx : ev n s x = .slice (some ⟨b, o, none⟩) 1 c) (hy : ev n s y = .int .i64 0) (hz : ev n s z = .int .i64 1) (hu : ev n s u = .int .i64 ((1 : Nat) : Int)) (ht : P.underlying t = some (.slice e)) (hi : TI P e 1 by_ z0) (hc : 1 ≤ c) :
    (execOp (ev n s) ⟨dd, .slice t x (some y) (some z) (some u), ty, pos, af, g⟩).run P w = .ok (.value (.slice (some ⟨b, o + 0, none⟩) 1 1)) w := by
  simp [execOp, hx, hy, hz, hu, Instr.sliceAt, Instr.slice, run_underlying ht, Instr.sliceBounds, Instr.sliceBound, asIntOf, hi.size, Addr.add_lit]
  omega
theorem sl3 (hg : takenB ops n s g = true) (hx : ev n s x = .slice (some ⟨b, o, none⟩) 1 c) (hy : ev n s y = .int .i64 0) (hz : ev n s z = .int .i64 1) (hu : ev n s u = .int .i64 ((1 : Nat) : Int)) (ht : P.underlying t = some (.slice e)) (hi : TI P e 1 by_ z0) (hc : 1 ≤ c)
    (K : WL r P ops Q rest (Fr n ((d, .slice (some ⟨b, o + 0, none⟩) 1 1) :: s) ds) w) : WL r P ops Q (⟨some d, .slice t x (some y) (some z) (some u), ty, pos, af, g⟩ :: rest) (Fr n s ds) w := pv hg rfl (sl3_r hx hy hz hu ht hi hc) K
theorem sl0_r (hx : ev n s x = .slice (some ⟨b, o, none⟩) 1 c) (hz : ev n s z = .int .i64 0) (ht : P.underlying t = some (.slice e)) (hi : TI P e 1 by_ z0) :
    (execOp (ev n s) ⟨dd, .slice t x none (some z) none, ty, pos, af, g⟩).run P w = .ok (.value (.slice (some ⟨b, o, none⟩) 0 c)) w := by
  simp [execOp, hx, hz, Instr.sliceAt, Instr.slice, run_underlying ht, Instr.sliceBounds, Instr.sliceBound, asIntOf, hi.size, Addr.add_lit]
theorem slE_r (hx : ev n s x = .slice (some ⟨b, o, none⟩) 1 1) (hz : ev n s z = .int .i64 1) (ht : P.underlying t = some (.slice e)) (hi : TI P e 1 by_ z0) :
    (execOp (ev n s) ⟨dd, .slice t x (some z) none none, ty, pos, af, g⟩).run P w = .ok (.value (.slice (some ⟨b, o, none⟩) 0 0)) w := by
  simp [execOp, hx, hz, Instr.sliceAt, Instr.slice, run_underlying ht, Instr.sliceBounds, Instr.sliceBound, asIntOf, hi.size, Addr.add_lit]
theorem slS_r {k : Nat} (hx : ev n s x = .slice (some ⟨b, o, none⟩) 1 (k + 2)) (hz : ev n s z = .int .i64 1) (ht : P.underlying t = some (.slice e)) (hi : TI P e 1 by_ z0) :
    (execOp (ev n s) ⟨dd, .slice t x (some z) none none, ty, pos, af, g⟩).run P w = .ok (.value (.slice (some ⟨b, o + 1, none⟩) 0 (k + 1))) w := by
  simp [execOp, hx, hz, Instr.sliceAt, Instr.slice, run_underlying ht, Instr.sliceBounds, Instr.sliceBound, asIntOf, hi.size, Addr.add_lit]
theorem ap0_r {c' : Nat} {ad : Addr} (hx : ev n s x = .slice (some ⟨b, o, none⟩) 0 c) (hy : ev n s y = .slice (some ad) 0 c') (ht : P.underlying t = some (.slice e)) (hi : TI P e 1 by_ z0) :
    (execOp (ev n s) ⟨dd, .call ⟨.builtin .append, #[x, y], #[t, t]⟩, ty, pos, af, g⟩).run P w = .ok (.value (.slice (some ⟨b, o, none⟩) 0 c)) w := by
  simp [execOp, resolve, invoke, builtin, hx, hy, Builtin.append_, run_underlying ht, hi.size, Builtin.lenOf, Builtin.firstCells, storeCells, loadCells, loadCellsFrom]
theorem sl01_r (hx : ev n s x = .slice (some ⟨b, o, none⟩) 0 c) (hy : ev n s y = .int .i64 ((0 : Nat) : Int)) (hz : ev n s z = .int .i64 ((1 : Nat) : Int)) (ht : P.underlying t = some (.slice e)) (hi : TI P e 1 by_ z0) (hc : 1 ≤ c) :
    (execOp (ev n s) ⟨dd, .slice t x (some y) (some z) none, ty, pos, af, g⟩).run P w = .ok (.value (.slice (some ⟨b, o, none⟩) 1 c)) w := by
  simp [execOp, hx, hy, hz, Instr.sliceAt, Instr.slice, run_underlying ht, Instr.sliceBounds, Instr.sliceBound, asIntOf, hi.size, Addr.add_lit, hc]
  intro h; omega
theorem sl01 (hg : takenB ops n s g = true) (hx : ev n s x = .slice (some ⟨b, o, none⟩) 0 c) (hy : ev n s y = .int .i64 ((0 : Nat) : Int)) (hz : ev n s z = .int .i64 ((1 : Nat) : Int)) (ht : P.underlying t = some (.slice e)) (hi : TI P e 1 by_ z0) (hc : 1 ≤ c)
    (K : WL r P ops Q rest (Fr n ((d, .slice (some ⟨b, o, none⟩) 1 c) :: s) ds) w) : WL r P ops Q (⟨some d, .slice t x (some y) (some z) none, ty, pos, af, g⟩ :: rest) (Fr n s ds) w := pv hg rfl (sl01_r hx hy hz ht hi hc) K
theorem clr1 {k : IntKind} {T : TypeId} (hg : takenB ops n s g = true) (hx : ev n s x = .slice (some ⟨b, o, none⟩) 1 c) (ht : P.underlying t = some (.slice e)) (hi : TI P e 1 by_ (.int k 0)) (hst : St bs [blk b T cs] w) (hr : (⟨none, .call ⟨.builtin .clear, #[x], #[t]⟩, ty, pos, af, g⟩ : Oper).dst = none) (ho : o + 1 ≤ cs.length)
    (K : ∀ w', St bs [blk b T (setAt cs o [.int k 0])] w' → WL r P ops Q rest (Fr n s ds) w') : WL r P ops Q (⟨none, .call ⟨.builtin .clear, #[x], #[t]⟩, ty, pos, af, g⟩ :: rest) (Fr n s ds) w := by
  have hh := hst.blkHeap (i := 0) rfl
  have hrun := run_storeCells_at P b o T [.int k 0] 0 cs.toArray w hh (by simpa using ho) (by simp [Value.oneCell'])
  refine wl_val (v := .tuple #[]) (w' := w.setRow b ((setAt cs o [.int k 0]).toArray)) hg rfl ?_ ?_
  · simp only [Nat.add_zero] at hrun
    have hz : Builtin.zeroCells #[Value.int k 0] 1 = #[Value.int k 0] := by simp [Builtin.zeroCells]; exact ⟨0, by decide, rfl⟩
    simp [execOp, resolve, invoke, builtin, hx, Builtin.clear_, run_underlying ht, hi.zeroRun, Value.cells, hz, hrun, setAt]
  · refine K _ ?_
    have := hst.upd (i := 0) (R' := blk b T (setAt cs o [.int k 0])) rfl (Chg.setRow w b _) (fun c hc => .inl hc) (by simp [blk]) (fun c hc => ?_) (setRow_heap w b cs.toArray (setAt cs o [.int k 0]).toArray T (0, 0) hh)
    · simpa using this
    · simp only [blk, List.mem_singleton] at hc
      subst hc
      simpa using (Array.getElem?_eq_some_iff.1 hh).1
end
end Go.Sx
namespace Go.Sx
open Go
section
variable {H : Type} {enc : TypeId × Value → H} {P : Program} {w : World} {sp : Nat → Bool} {hd : Bool} {t e : TypeId} {fuel : Nat} {v : Value} {cs : List Value} {x : DataW H × List MemPlace} {k : IntKind}
theorem spot_none {a : Addr} {u : Value} (h : w.cell? a = some u) : a.spot = none := by
  unfold World.cell? at h
  split at h
  · split at h
    · cases h
    · rename_i hs
      cases hq : a.spot with
      | none => rfl
      | some q => rw [hq] at hs; simp at hs
  · cases h
theorem Sl.of_trod {α : Type} [Inhabited α] {sz : Nat} {E : World → α → List Value → Prop} (ht : P.underlying t = some (.slice e)) (hc : P.cellsOf e = sz) (hp : 0 < sz)
    (hE : ∀ n cs y, DataW.trod enc P w 0 sp hd n e cs = some y → ∃ x : α, E w x cs) (h : DataW.trod enc P w 0 sp hd fuel t cs = some x) : ∃ v xs, cs = [v] ∧ Sl sz E (fun _ => True) w v xs := by
  rcases Go.Deep.open_slice ht h with ⟨h0, _⟩ | ⟨a, len, cap, m, n, D, Pl, rfl, _, hl, hm, hmm, _, hx⟩
  · exact ⟨_, [], h0, Sl.nil _ _ _ _⟩
  · rw [hc] at hx
    have hlm : len ≤ m := by rw [hmm]; split <;> omega
    obtain ⟨X, hX⟩ := Go.Deep.choose_lt (α := α) (n := len) (p := fun i x => ∃ cs', w.cells? 0 (a.add (i * sz)) sz = some cs' ∧ E w x cs') (fun i hi => by
      obtain ⟨cs', h1, h2⟩ := hx i (by omega)
      obtain ⟨y, hy⟩ := hE _ _ _ h2
      exact ⟨y, cs', h1, hy⟩)
    refine ⟨_, (List.range len).map X, rfl, some a, cap, by simp, by simp; exact hl, hm, fun i y hi => ?_⟩
    have hlt : i < len := by have := (List.getElem?_eq_some_iff.1 hi).1; simpa using this
    have hy : y = X i := by
      rw [List.getElem?_map, List.getElem?_range hlt] at hi
      simpa using hi.symm
    subst hy
    obtain ⟨cs', h1, h2⟩ := hX i hlt
    obtain ⟨_, hlen, hcell⟩ := World.cells?_some h1
    have hsp : a.spot = none := by
      obtain ⟨cs0, q1, _⟩ := hX 0 (by omega)
      obtain ⟨_, q2, q3⟩ := World.cells?_some q1
      have h3 := q3 0 hp
      have : cs0[0]? = some cs0[0] := List.getElem?_eq_getElem (by omega)
      rw [this] at h3
      have := spot_none h3
      simpa [Addr.add] using this
    obtain ⟨b, o, s⟩ := a
    simp only at hsp
    subst hsp
    refine ⟨b, o, cs', rfl, trivial, hlen, h2, fun j u hj => ?_⟩
    have hj' : j < sz := by have := (List.getElem?_eq_some_iff.1 hj).1; omega
    have := hcell j hj'
    rw [hj] at this
    rw [Addr.add_lit, Addr.add_lit] at this
    exact this
theorem InK.of_wf {n : Int} (h : (Lit.int k n).wf = true) : InK k n := by
  simp only [Lit.wf, Bool.and_eq_true, decide_eq_true_eq] at h
  exact h
theorem Ints.of_trod (ht : P.underlying t = some (.slice e)) (he : P.underlying e = some (.int k)) (hc : P.cellsOf e = 1) (h : DataW.trod enc P w 0 sp hd fuel t cs = some x) : ∃ v xs, cs = [v] ∧ Ints k (fun _ => True) w v xs :=
  Sl.of_trod (α := Int) ht hc (by decide) (fun n cs y hy => by
    obtain ⟨m, h1, _, h3⟩ := DataW.trod_int he hy
    exact ⟨m, h1, InK.of_wf h3⟩) h
theorem int_of_trod (he : P.underlying e = some (.int k)) (h : DataW.trod enc P w 0 sp hd fuel e cs = some x) : ∃ n, cs = [.int k n] ∧ InK k n := by
  obtain ⟨m, h1, _, h3⟩ := DataW.trod_int he h
  exact ⟨m, h1, InK.of_wf h3⟩
theorem fields_of_trod {fs : Array Field} (ht : P.underlying t = some (.struct fs)) (h : DataW.trod enc P w 0 sp hd fuel t cs = some x) : cs.length = P.cellsOf t ∧ ∀ f ∈ fs.toList, ∃ n y, DataW.trod enc P w 0 sp hd n f.type ((cs.drop f.offset).take (P.cellsOf f.type)) = some y := by
  cases fuel with
  | zero => simp [DataW.trod] at h
  | succ n =>
    unfold DataW.trod at h
    rw [ht] at h
    simp only at h
    split at h
    · rename_i hl
      refine ⟨hl, fun f hf => ?_⟩
      obtain ⟨i, hi⟩ := List.getElem?_of_mem hf
      cases hm : (fs.toList.mapM fun f => DataW.trod enc P w 0 sp hd n f.type ((cs.drop f.offset).take (P.cellsOf f.type))) with
      | none => rw [hm] at h; simp at h
      | some ys =>
        have := mapM_some_get hm i f hi
        have hlen := mapM_some_length hm
        have hlt : i < ys.length := by rw [hlen]; exact (List.getElem?_eq_some_iff.1 hi).1
        rw [List.getElem?_eq_getElem hlt] at this
        exact ⟨n, _, this⟩
    · simp at h
end
end Go.Sx
