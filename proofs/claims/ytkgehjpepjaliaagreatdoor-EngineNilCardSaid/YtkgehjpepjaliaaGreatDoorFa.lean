/- Plain lemmas: rules for walking through code, one for each operation, over any program; an evaluator of closed calls with its soundness; and plain mathematics. No conditions. -/
import Derived.WalkKit
import Derived.TacticsIn
import Derived.RangeFuncIn
import Derived.Shelf.Abstract
import Derived.Laws.CopyOwn
import Derived.OrdersIn
import Derived.WalkSpells
import Derived.Lib.SliceRun
import Derived.RecoverIn
import Derived.WideLaws
import Derived.RangeFuncRecord
set_option linter.unusedVariables false
set_option linter.unusedSectionVars false
set_option linter.unusedSimpArgs false
namespace Go.Sx
open Go
def look : List (Nat × Value) → Nat → Value
  | [], _ => undef
  | (i, v) :: s, t => bif Nat.beq i t then v else look s t
def Fr (n : Nat) (s : List (Nat × Value)) (ds : List Deferred) : Act :=
  { tmps := Array.ofFn (n := n) fun i => look s i.val, defers := ds }
def ev (n : Nat) (s : List (Nat × Value)) : Operand → Value
  | .tmp t => bif Nat.blt t n then look s t else undef
  | .const v => v
  | .global g => .pointer (some ⟨g, 0, none⟩)
  | .func f => .func (.func f) #[] #[]
theorem blt_true {a b : Nat} (h : a < b) : Nat.blt a b = true := by simp [Nat.blt]; omega
theorem blt_false {a b : Nat} (h : ¬ a < b) : Nat.blt a b = false := by
  cases hb : Nat.blt a b with
  | false => rfl
  | true => exact absurd (by simpa [Nat.blt, Nat.lt_iff_add_one_le] using hb) h
theorem Fr_eval (n : Nat) (s : List (Nat × Value)) (ds : List Deferred) (x : Operand) : (Fr n s ds).eval x = ev n s x := by
  cases x with
  | tmp t =>
    by_cases h : t < n
    · simp [Act.eval, Fr, ev, h, blt_true h]
    · simp [Act.eval, Fr, ev, h, blt_false h]
  | _ => rfl
theorem Fr_eval' (n : Nat) (s : List (Nat × Value)) (ds : List Deferred) : (Fr n s ds).eval = ev n s := funext (Fr_eval n s ds)
theorem look_cons (i t : Nat) (v : Value) (s : List (Nat × Value)) : look ((i, v) :: s) t = if i = t then v else look s t := by
  by_cases h : i = t
  · simp [look, h]
  · have : Nat.beq i t = false := by
      cases hb : Nat.beq i t with
      | false => rfl
      | true => exact absurd (Nat.eq_of_beq_eq_true hb) h
    simp [look, this, h]
theorem Fr_ext {n : Nat} {s s' : List (Nat × Value)} (ds : List Deferred) (h : ∀ t, look s t = look s' t) : Fr n s ds = Fr n s' ds := by
  unfold Fr
  congr 2
  funext i
  exact h i.val
theorem Fr_put (n : Nat) (s : List (Nat × Value)) (ds : List Deferred) (d : Nat) (v : Value) : (Fr n s ds).put (some d) v = Fr n ((d, v) :: s) ds := by
  unfold Act.put Fr
  simp only [Act.mk.injEq, and_true]
  apply Array.ext
  · simp
  · intro i h1 h2
    simp at h1 h2
    rw [Array.getElem_setIfInBounds (by simpa using h2)]
    simp [look_cons]
theorem Fr_put_none (n : Nat) (s : List (Nat × Value)) (ds : List Deferred) (v : Value) : (Fr n s ds).put none v = Fr n s ds := rfl
theorem look_append (pre s : List (Nat × Value)) (h : ∀ p ∈ pre, look s p.1 = p.2) (t : Nat) : look (pre ++ s) t = look s t := by
  induction pre with
  | nil => rfl
  | cons p pre ih =>
    have ih' := ih (fun q hq => h q (List.mem_cons_of_mem _ hq))
    obtain ⟨i, v⟩ := p
    rw [List.cons_append, look_cons]
    split
    · rename_i e; subst e; exact (h (i, v) (List.mem_cons_self ..)).symm
    · exact ih'
def Holds (s : List (Nat × Value)) : List (Nat × Value) → Prop
  | [] => True
  | p :: l => look s p.1 = p.2 ∧ Holds s l
theorem Holds.mem {s : List (Nat × Value)} : ∀ {l : List (Nat × Value)}, Holds s l → ∀ p ∈ l, look s p.1 = p.2
  | [], _, p, hp => by cases hp
  | q :: l, h, p, hp => by
    cases hp with
    | head => exact h.1
    | tail _ hp => exact Holds.mem h.2 p hp
theorem Fr_norm {n : Nat} {s : List (Nat × Value)} {ds : List Deferred} (pre : List (Nat × Value)) (h : Holds s pre) : Fr n s ds = Fr n (pre ++ s) ds :=
  Fr_ext ds fun t => (look_append pre s h.mem t).symm
def FW (r : Option Nat) : Fence := { fn := fun _ => True, depth := none, alive := false, round := r }
theorem FW_none : FW none = Fence.wide := rfl
theorem FW_room (r : Option Nat) (m : Nat) : (FW r).room m := fun _ h => by simp [FW] at h
theorem FW_inRound (r : Option Nat) (l : Nat) : (FW r).inRound l = FW (some l) := rfl
abbrev WP (r : Option Nat) (P : Program) (c : Code) (Q : Exit → Act → World → Prop) (a : Act) (w : World) : Prop := c.wpIn (FW r) 0 P Q a w
structure WL (r : Option Nat) (P : Program) (ops : Array Oper) (Q : Exit → Act → World → Prop) (l : List Oper) (a : Act) (w : World) : Prop where
  out : wpListIn (FW r) 0 P ops Q l a w
theorem callsIn_FW {r : Option Nat} {m : Nat} {P : Program} {f : FuncId} {args : Array Value} {w : World} {R : Ending → World → Prop} :
    CallsIn (FW r) m P f args w R ↔ Calls P f args w R := callsIn_wide (n := m)
def dstAt : List Oper → Nat → Option Nat
  | [], _ => none
  | o :: _, 0 => o.dst
  | _ :: l, j + 1 => dstAt l j
theorem dstAt_eq (l : List Oper) : ∀ j, dstAt l j = (l[j]?).bind (·.dst) := by
  induction l with
  | nil => intro j; simp [dstAt]
  | cons o l ih => intro j; cases j with | zero => rfl | succ j => simpa [dstAt] using ih j
def sameB : Value → Bool → Bool
  | .bool b, want => bif want then b else !b
  | _, _ => false
def takenB (ops : Array Oper) (n : Nat) (s : List (Nat × Value)) : Option (Nat × Bool) → Bool
  | none => true
  | some (j, want) =>
    match dstAt ops.toList j with
    | some d => sameB (ev n s (.tmp d)) want
    | none => false
theorem wanted_takenB (ops : Array Oper) (n : Nat) (s : List (Nat × Value)) (ds : List Deferred) (o : Oper) :
    Region.wanted o (yielded ops (Fr n s ds).tmps) = takenB ops n s o.guard := by
  unfold Region.wanted takenB
  cases o.guard with
  | none => rfl
  | some g =>
    obtain ⟨j, want⟩ := g
    have e : dstAt ops.toList j = (ops[j]?).bind (·.dst) := by rw [dstAt_eq]; simp
    simp only [yielded, e]
    cases (ops[j]?).bind (·.dst) with
    | none => simp
    | some d =>
      simp only [Option.bind_some]
      by_cases h : d < n
      · have : (Fr n s ds).tmps[d]? = some (look s d) := by simp [Fr, h]
        rw [this]
        simp only [ev, blt_true h, cond_true]
        cases look s d <;> simp [sameB]
        rename_i b
        cases b <;> cases want <;> rfl
      · have : (Fr n s ds).tmps[d]? = none := Array.getElem?_eq_none (by simpa [Fr] using h)
        rw [this]
        simp [ev, blt_false h, undef, sameB]
section ops
variable {r : Option Nat} {P : Program} {ops : Array Oper} {Q : Exit → Act → World → Prop} {rest : List Oper} {n : Nat} {s : List (Nat × Value)} {ds : List Deferred} {w w' : World}
theorem wl_nil (h : Q .normal (Fr n s ds) w) : WL r P ops Q [] (Fr n s ds) w := ⟨h⟩
theorem semAt_eq {r : Option Nat} {ρ : Operand → Value} {o : Oper} (h : ∀ c, o.op ≠ .defer c) : o.semAt r ρ = execOp ρ o := by
  cases r with
  | none => exact congrFun (congrFun (funext fun ρ => funext fun o => Oper.semAt_none ρ o) ρ) o
  | some l => exact Oper.semAt_some l ρ o h
def notDefer : Op → Bool
  | .defer _ => false
  | _ => true
theorem notDefer_ne {op : Op} (h : notDefer op = true) : ∀ c, op ≠ .defer c := by
  intro c e; subst e; cases h
theorem wl_val {o : Oper} {v : Value} (hg : takenB ops n s o.guard = true) (hd : notDefer o.op = true) (h : (execOp (ev n s) o).run P w = .ok (.value v) w')
    (K : WL r P ops Q rest ((Fr n s ds).put o.dst v) w') : WL r P ops Q (o :: rest) (Fr n s ds) w := by
  refine ⟨?_⟩
  unfold wpListIn
  rw [wanted_takenB, hg, if_pos rfl]
  refine ⟨fun _ _ => trivial, ?_⟩
  rw [semAt_eq (notDefer_ne hd), Fr_eval', h]
  exact K.out
theorem wl_unit {o : Oper} (hg : takenB ops n s o.guard = true) (hd : notDefer o.op = true) (h : (execOp (ev n s) o).run P w = .ok .skip w')
    (K : WL r P ops Q rest ((Fr n s ds).put o.dst undef) w') : WL r P ops Q (o :: rest) (Fr n s ds) w := by
  refine ⟨?_⟩
  unfold wpListIn
  rw [wanted_takenB, hg, if_pos rfl]
  refine ⟨fun _ _ => trivial, ?_⟩
  rw [semAt_eq (notDefer_ne hd), Fr_eval', h]
  exact K.out
theorem wl_panic {o : Oper} {v : Value} (hg : takenB ops n s o.guard = true) (hd : notDefer o.op = true) (h : (execOp (ev n s) o).run P w = .halt (.panic v) w')
    (K : Q (.panic [{ v, recovered := false }]) (Fr n s ds) w') : WL r P ops Q (o :: rest) (Fr n s ds) w := by
  refine ⟨?_⟩
  unfold wpListIn
  rw [wanted_takenB, hg, if_pos rfl]
  refine ⟨fun _ _ => trivial, ?_⟩
  rw [semAt_eq (notDefer_ne hd), Fr_eval', h]
  exact K
theorem wl_enter {o : Oper} {f : FuncId} {args : Array Value} (hg : takenB ops n s o.guard = true) (hd : notDefer o.op = true) (h : (execOp (ev n s) o).run P w = .ok (.enter f args) w')
    (K : Calls P f args w' fun
      | .returned v, w'' => WL r P ops Q rest ((Fr n s ds).put o.dst v) w''
      | .panicked chain, w'' => Q (.panic chain) (Fr n s ds) w''
      | .outgrown, _ => LetsOut Q) : WL r P ops Q (o :: rest) (Fr n s ds) w := by
  refine ⟨?_⟩
  unfold wpListIn
  rw [wanted_takenB, hg, if_pos rfl]
  refine ⟨fun _ _ => trivial, ?_⟩
  rw [semAt_eq (notDefer_ne hd), Fr_eval', h]
  exact ⟨fun h => by simp [FW] at h, callsIn_FW.2 (Calls.mono K fun e w' he => by cases e <;> first | exact he.out | exact he)⟩
theorem sk {d : Nat} {op : Op} {ty : TypeId} {pos : String} {af : Array Edge} {g : Nat × Bool} (hg : takenB ops n s (some g) = false)
    (K : WL r P ops Q rest (Fr n ((d, undef) :: s) ds) w) : WL r P ops Q (⟨some d, op, ty, pos, af, some g⟩ :: rest) (Fr n s ds) w := by
  refine ⟨?_⟩
  unfold wpListIn
  rw [wanted_takenB]
  simp only [hg]
  refine ⟨fun _ _ => trivial, ?_⟩
  rw [Fr_put]
  exact K.out
theorem skN {op : Op} {ty : TypeId} {pos : String} {af : Array Edge} {g : Nat × Bool} (hg : takenB ops n s (some g) = false)
    (K : WL r P ops Q rest (Fr n s ds) w) : WL r P ops Q (⟨none, op, ty, pos, af, some g⟩ :: rest) (Fr n s ds) w := by
  refine ⟨?_⟩
  unfold wpListIn
  rw [wanted_takenB]
  simp only [hg]
  exact ⟨fun _ _ => trivial, K.out⟩
theorem eqI {k : IntKind} {a b : Int} (h : a = b) : Value.int k a = Value.int k b := by rw [h]
theorem eqB {a b : Bool} (h : a = b) : Value.bool a = Value.bool b := by rw [h]
end ops
end Go.Sx
namespace Go.Sx
open Go
section
variable {r : Option Nat} {P : Program} {ops : Array Oper} {Q : Exit → Act → World → Prop} {rest : List Oper} {n : Nat} {s : List (Nat × Value)} {ds : List Deferred} {w w' : World}
variable {d : Nat} {ty : TypeId} {pos : String} {af : Array Edge} {g : Option (Nat × Bool)}
theorem pv {op : Op} {v : Value} (hg : takenB ops n s g = true) (hd : notDefer op = true) (h : (execOp (ev n s) ⟨some d, op, ty, pos, af, g⟩).run P w = .ok (.value v) w')
    (K : WL r P ops Q rest (Fr n ((d, v) :: s) ds) w') : WL r P ops Q (⟨some d, op, ty, pos, af, g⟩ :: rest) (Fr n s ds) w :=
  wl_val hg hd h (by rw [Fr_put]; exact K)
theorem mv_r {x : Operand} {v : Value} (hx : ev n s x = v) {dd : Option Nat} :
    (execOp (ev n s) ⟨dd, .move x, ty, pos, af, g⟩).run P w = .ok (.value v) w := by simp [execOp, hx]
theorem mv {x : Operand} {v : Value} (hg : takenB ops n s g = true) (hx : ev n s x = v) (K : WL r P ops Q rest (Fr n ((d, v) :: s) ds) w) :
    WL r P ops Q (⟨some d, .move x, ty, pos, af, g⟩ :: rest) (Fr n s ds) w := pv hg rfl (mv_r hx) K
theorem asg_r {x : Operand} {v : Value} (hx : ev n s x = v) {dd : Option Nat} :
    (execOp (ev n s) ⟨dd, .assign x, ty, pos, af, g⟩).run P w = .ok (.value v) w := by simp [execOp, hx]
theorem asg {x : Operand} {v : Value} (hg : takenB ops n s g = true) (hx : ev n s x = v) (K : WL r P ops Q rest (Fr n ((d, v) :: s) ds) w) :
    WL r P ops Q (⟨some d, .assign x, ty, pos, af, g⟩ :: rest) (Fr n s ds) w := pv hg rfl (asg_r hx) K
theorem pkT_r {c x y : Operand} {v : Value} (hc : ev n s c = .bool true) (hx : ev n s x = v) {dd : Option Nat} :
    (execOp (ev n s) ⟨dd, .pick c x y, ty, pos, af, g⟩).run P w = .ok (.value v) w := by simp [execOp, hx, hc, asBool]
theorem pkT {c x y : Operand} {v : Value} (hg : takenB ops n s g = true) (hc : ev n s c = .bool true) (hx : ev n s x = v) (K : WL r P ops Q rest (Fr n ((d, v) :: s) ds) w) :
    WL r P ops Q (⟨some d, .pick c x y, ty, pos, af, g⟩ :: rest) (Fr n s ds) w := pv hg rfl (pkT_r hc hx) K
theorem pkF_r {c x y : Operand} {v : Value} (hc : ev n s c = .bool false) (hy : ev n s y = v) {dd : Option Nat} :
    (execOp (ev n s) ⟨dd, .pick c x y, ty, pos, af, g⟩).run P w = .ok (.value v) w := by simp [execOp, hy, hc, asBool]
theorem pkF {c x y : Operand} {v : Value} (hg : takenB ops n s g = true) (hc : ev n s c = .bool false) (hy : ev n s y = v) (K : WL r P ops Q rest (Fr n ((d, v) :: s) ds) w) :
    WL r P ops Q (⟨some d, .pick c x y, ty, pos, af, g⟩ :: rest) (Fr n s ds) w := pv hg rfl (pkF_r hc hy) K
def cmpI : BinOp → Int → Int → Option Bool
  | .eql, a, b => some (a == b)
  | .neq, a, b => some (a != b)
  | .lss, a, b => some (decide (a < b))
  | .leq, a, b => some (decide (a ≤ b))
  | .gtr, a, b => some (decide (b < a))
  | .geq, a, b => some (decide (b ≤ a))
  | _, _, _ => none
theorem run_eqGuard_int (op : BinOp) (t : TypeId) (x y : Operand) (k k' : IntKind) (a b : Int) : (eqGuard op t x y (.int k a) (.int k' b)).run P w = .ok () w := by
  unfold eqGuard
  cases op <;> simp
theorem run_cmp {op : BinOp} {t : TypeId} {k : IntKind} {a b : Int} {c : Bool} (h : cmpI op a b = some c) : (binOp op t (.int k a) (.int k b)).run P w = .ok (.bool c) w := by
  cases op <;> simp [cmpI] at h <;> subst h <;> simp [binOp, Op.intCmp]
theorem cmp_r {op : BinOp} {x y : Operand} {t t' : TypeId} {k : IntKind} {a b : Int} {c : Bool} (hx : ev n s x = .int k a) (hy : ev n s y = .int k b)
    (hc : cmpI op a b = some c) {dd : Option Nat} :
    (execOp (ev n s) ⟨dd, .binOp op t x y t', ty, pos, af, g⟩).run P w = .ok (.value (.bool c)) w := by simp [execOp, hx, hy, run_eqGuard_int, run_cmp hc]
theorem cmp {op : BinOp} {x y : Operand} {t t' : TypeId} {k : IntKind} {a b : Int} {c : Bool} (hg : takenB ops n s g = true) (hx : ev n s x = .int k a) (hy : ev n s y = .int k b)
    (hc : cmpI op a b = some c) (K : WL r P ops Q rest (Fr n ((d, .bool c) :: s) ds) w) :
    WL r P ops Q (⟨some d, .binOp op t x y t', ty, pos, af, g⟩ :: rest) (Fr n s ds) w := pv hg rfl (cmp_r hx hy hc) K
theorem c_lt {a b : Int} (h : a < b) : cmpI .lss a b = some true := by simp [cmpI, h]
theorem c_nlt {a b : Int} (h : ¬ a < b) : cmpI .lss a b = some false := by simp [cmpI, h]
theorem c_le {a b : Int} (h : a ≤ b) : cmpI .leq a b = some true := by simp [cmpI, h]
theorem c_nle {a b : Int} (h : ¬ a ≤ b) : cmpI .leq a b = some false := by simp [cmpI, h]
theorem c_gt {a b : Int} (h : a > b) : cmpI .gtr a b = some true := by simp [cmpI]; omega
theorem c_ngt {a b : Int} (h : ¬ a > b) : cmpI .gtr a b = some false := by simp [cmpI]; omega
theorem c_ge {a b : Int} (h : a ≥ b) : cmpI .geq a b = some true := by simp [cmpI]; omega
theorem c_nge {a b : Int} (h : ¬ a ≥ b) : cmpI .geq a b = some false := by simp [cmpI]; omega
theorem c_eq {a b : Int} (h : a = b) : cmpI .eql a b = some true := by simp [cmpI, h]
theorem c_neq {a b : Int} (h : ¬ a = b) : cmpI .eql a b = some false := by simp [cmpI, h]
theorem c_ne {a b : Int} (h : ¬ a = b) : cmpI .neq a b = some true := by simp [cmpI, h]
theorem c_nne {a b : Int} (h : a = b) : cmpI .neq a b = some false := by simp [cmpI, h]
def arI : BinOp → Int → Int → Option Int
  | .add, a, b => some (a + b)
  | .sub, a, b => some (a - b)
  | .mul, a, b => some (a * b)
  | _, _, _ => none
theorem run_ari {op : BinOp} {t : TypeId} {k : IntKind} {a b c : Int} (h : arI op a b = some c) : (binOp op t (.int k a) (.int k b)).run P w = .ok (.int k (k.wrap c)) w := by
  cases op <;> simp [arI] at h <;> subst h <;> simp [binOp, Op.intArith]
theorem ar_r {op : BinOp} {x y : Operand} {t t' : TypeId} {k : IntKind} {a b c e : Int} (hx : ev n s x = .int k a) (hy : ev n s y = .int k b)
    (hc : arI op a b = some c) (hw : k.wrap c = e) {dd : Option Nat} :
    (execOp (ev n s) ⟨dd, .binOp op t x y t', ty, pos, af, g⟩).run P w = .ok (.value (.int k e)) w := by simp [execOp, hx, hy, run_eqGuard_int, run_ari hc, hw]
theorem ar {op : BinOp} {x y : Operand} {t t' : TypeId} {k : IntKind} {a b c e : Int} (hg : takenB ops n s g = true) (hx : ev n s x = .int k a) (hy : ev n s y = .int k b)
    (hc : arI op a b = some c) (hw : k.wrap c = e) (K : WL r P ops Q rest (Fr n ((d, .int k e) :: s) ds) w) :
    WL r P ops Q (⟨some d, .binOp op t x y t', ty, pos, af, g⟩ :: rest) (Fr n s ds) w := pv hg rfl (ar_r hx hy hc hw) K
theorem w64 {a : Int} (h : -9223372036854775808 ≤ a ∧ a ≤ 9223372036854775807) : IntKind.i64.wrap a = a := IntWalk.i64_in a h
theorem w32u {a : Int} (h : 0 ≤ a ∧ a ≤ 4294967295) : IntKind.u32.wrap a = a := IntWalk.u32_in a h
theorem w64u {a : Int} (h : 0 ≤ a ∧ a ≤ 18446744073709551615) : IntKind.u64.wrap a = a := IntWalk.u64_in a h
theorem w8u {a : Int} (h : 0 ≤ a ∧ a ≤ 255) : IntKind.u8.wrap a = a := IntWalk.u8_in a h
theorem w16u {a : Int} (h : 0 ≤ a ∧ a ≤ 65535) : IntKind.u16.wrap a = a := IntWalk.u16_in a h
theorem quo_r {x y : Operand} {t t' : TypeId} {k : IntKind} {a b e : Int} (hx : ev n s x = .int k a) (hy : ev n s y = .int k b)
    (hb : b ≠ 0) (hw : k.wrap (a.tdiv b) = e) {dd : Option Nat} :
    (execOp (ev n s) ⟨dd, .binOp .quo t x y t', ty, pos, af, g⟩).run P w = .ok (.value (.int k e)) w := by simp [execOp, hx, hy, run_eqGuard_int, binOp, Op.intDiv, hb, hw]
theorem quo {x y : Operand} {t t' : TypeId} {k : IntKind} {a b e : Int} (hg : takenB ops n s g = true) (hx : ev n s x = .int k a) (hy : ev n s y = .int k b)
    (hb : b ≠ 0) (hw : k.wrap (a.tdiv b) = e) (K : WL r P ops Q rest (Fr n ((d, .int k e) :: s) ds) w) :
    WL r P ops Q (⟨some d, .binOp .quo t x y t', ty, pos, af, g⟩ :: rest) (Fr n s ds) w := pv hg rfl (quo_r hx hy hb hw) K
theorem rem_r {x y : Operand} {t t' : TypeId} {k : IntKind} {a b e : Int} (hx : ev n s x = .int k a) (hy : ev n s y = .int k b)
    (hb : b ≠ 0) (hw : a.tmod b = e) {dd : Option Nat} :
    (execOp (ev n s) ⟨dd, .binOp .rem t x y t', ty, pos, af, g⟩).run P w = .ok (.value (.int k e)) w := by simp [execOp, hx, hy, run_eqGuard_int, binOp, Op.intDiv, hb, hw]
theorem rem {x y : Operand} {t t' : TypeId} {k : IntKind} {a b e : Int} (hg : takenB ops n s g = true) (hx : ev n s x = .int k a) (hy : ev n s y = .int k b)
    (hb : b ≠ 0) (hw : a.tmod b = e) (K : WL r P ops Q rest (Fr n ((d, .int k e) :: s) ds) w) :
    WL r P ops Q (⟨some d, .binOp .rem t x y t', ty, pos, af, g⟩ :: rest) (Fr n s ds) w := pv hg rfl (rem_r hx hy hb hw) K
def biI (op : BinOp) (k : IntKind) (x y : Int) : Option Int :=
  let a := BitVec.ofInt k.bits x
  let b := BitVec.ofInt k.bits y
  match op with
  | .and => some (k.wrap (a &&& b).toNat)
  | .or => some (k.wrap (a ||| b).toNat)
  | .xor => some (k.wrap (a ^^^ b).toNat)
  | .andNot => some (k.wrap (a &&& ~~~b).toNat)
  | _ => none
theorem bi_r {op : BinOp} {x y : Operand} {t t' : TypeId} {k : IntKind} {a b e : Int} (hx : ev n s x = .int k a) (hy : ev n s y = .int k b)
    (hw : biI op k a b = some e) {dd : Option Nat} :
    (execOp (ev n s) ⟨dd, .binOp op t x y t', ty, pos, af, g⟩).run P w = .ok (.value (.int k e)) w := by
    simp only [biI] at hw
    cases op <;> simp at hw <;> simp [execOp, hx, hy, run_eqGuard_int, binOp, Op.intBits, hw]
theorem bi {op : BinOp} {x y : Operand} {t t' : TypeId} {k : IntKind} {a b e : Int} (hg : takenB ops n s g = true) (hx : ev n s x = .int k a) (hy : ev n s y = .int k b)
    (hw : biI op k a b = some e) (K : WL r P ops Q rest (Fr n ((d, .int k e) :: s) ds) w) :
    WL r P ops Q (⟨some d, .binOp op t x y t', ty, pos, af, g⟩ :: rest) (Fr n s ds) w := pv hg rfl (bi_r hx hy hw) K
theorem shl_r {x y : Operand} {t t' : TypeId} {k ky : IntKind} {a b e : Int} (hx : ev n s x = .int k a) (hy : ev n s y = .int ky b)
    (hb : 0 ≤ b) (hw : k.wrap (a * 2 ^ (min b.toNat k.bits)) = e) {dd : Option Nat} :
    (execOp (ev n s) ⟨dd, .binOp .shl t x y t', ty, pos, af, g⟩).run P w = .ok (.value (.int k e)) w := by
    have h' : ¬ b < 0 := by omega
    simp [execOp, hx, hy, run_eqGuard_int, binOp, Op.shift, h', hw]
theorem shl {x y : Operand} {t t' : TypeId} {k ky : IntKind} {a b e : Int} (hg : takenB ops n s g = true) (hx : ev n s x = .int k a) (hy : ev n s y = .int ky b)
    (hb : 0 ≤ b) (hw : k.wrap (a * 2 ^ (min b.toNat k.bits)) = e) (K : WL r P ops Q rest (Fr n ((d, .int k e) :: s) ds) w) :
    WL r P ops Q (⟨some d, .binOp .shl t x y t', ty, pos, af, g⟩ :: rest) (Fr n s ds) w := pv hg rfl (shl_r hx hy hb hw) K
theorem shr_r {x y : Operand} {t t' : TypeId} {k ky : IntKind} {a b e : Int} (hx : ev n s x = .int k a) (hy : ev n s y = .int ky b)
    (hb : 0 ≤ b) (hw : a.fdiv (2 ^ (min b.toNat k.bits)) = e) {dd : Option Nat} :
    (execOp (ev n s) ⟨dd, .binOp .shr t x y t', ty, pos, af, g⟩).run P w = .ok (.value (.int k e)) w := by
    have h' : ¬ b < 0 := by omega
    simp [execOp, hx, hy, run_eqGuard_int, binOp, Op.shift, h', hw]
theorem shr {x y : Operand} {t t' : TypeId} {k ky : IntKind} {a b e : Int} (hg : takenB ops n s g = true) (hx : ev n s x = .int k a) (hy : ev n s y = .int ky b)
    (hb : 0 ≤ b) (hw : a.fdiv (2 ^ (min b.toNat k.bits)) = e) (K : WL r P ops Q rest (Fr n ((d, .int k e) :: s) ds) w) :
    WL r P ops Q (⟨some d, .binOp .shr t x y t', ty, pos, af, g⟩ :: rest) (Fr n s ds) w := pv hg rfl (shr_r hx hy hb hw) K
theorem neg_r {x : Operand} {t : TypeId} {k : IntKind} {a e : Int} (hx : ev n s x = .int k a) (hw : k.wrap (0 - a) = e) {dd : Option Nat} :
    (execOp (ev n s) ⟨dd, .unOp .neg t x, ty, pos, af, g⟩).run P w = .ok (.value (.int k e)) w := by rw [Int.zero_sub] at hw; simp [execOp, hx, Op.unary, Op.intArith, hw]
theorem neg {x : Operand} {t : TypeId} {k : IntKind} {a e : Int} (hg : takenB ops n s g = true) (hx : ev n s x = .int k a) (hw : k.wrap (0 - a) = e)
    (K : WL r P ops Q rest (Fr n ((d, .int k e) :: s) ds) w) :
    WL r P ops Q (⟨some d, .unOp .neg t x, ty, pos, af, g⟩ :: rest) (Fr n s ds) w := pv hg rfl (neg_r hx hw) K
theorem cpl_r {x : Operand} {t : TypeId} {k : IntKind} {a e : Int} (hx : ev n s x = .int k a) (hw : biI .xor k (if k.signed then -1 else k.max) a = some e) {dd : Option Nat} :
    (execOp (ev n s) ⟨dd, .unOp .xor t x, ty, pos, af, g⟩).run P w = .ok (.value (.int k e)) w := by simp only [biI, Option.some.injEq] at hw; subst hw; simp only [execOp, hx]; rfl
theorem cpl {x : Operand} {t : TypeId} {k : IntKind} {a e : Int} (hg : takenB ops n s g = true) (hx : ev n s x = .int k a) (hw : biI .xor k (if k.signed then -1 else k.max) a = some e)
    (K : WL r P ops Q rest (Fr n ((d, .int k e) :: s) ds) w) :
    WL r P ops Q (⟨some d, .unOp .xor t x, ty, pos, af, g⟩ :: rest) (Fr n s ds) w := pv hg rfl (cpl_r hx hw) K
theorem not_r {x : Operand} {t : TypeId} {b c : Bool} (hx : ev n s x = .bool b) (hc : (!b) = c) {dd : Option Nat} :
    (execOp (ev n s) ⟨dd, .unOp .not t x, ty, pos, af, g⟩).run P w = .ok (.value (.bool c)) w := by simp [execOp, hx, Op.unary, hc]
theorem not {x : Operand} {t : TypeId} {b c : Bool} (hg : takenB ops n s g = true) (hx : ev n s x = .bool b) (hc : (!b) = c)
    (K : WL r P ops Q rest (Fr n ((d, .bool c) :: s) ds) w) :
    WL r P ops Q (⟨some d, .unOp .not t x, ty, pos, af, g⟩ :: rest) (Fr n s ds) w := pv hg rfl (not_r hx hc) K
theorem cv_r {x : Operand} {t t' : TypeId} {k k' : IntKind} {u : TypeDesc} {a e : Int} (hx : ev n s x = .int k a)
    (hs : P.underlying t = some u) (ht : P.underlying t' = some (.int k')) (hw : k'.wrap a = e) {dd : Option Nat} :
    (execOp (ev n s) ⟨dd, .convert t t' x, ty, pos, af, g⟩).run P w = .ok (.value (.int k' e)) w := by simp [execOp, hx, convert, run_underlying hs, run_underlying ht, Conv.intToInt, hw]
theorem cv {x : Operand} {t t' : TypeId} {k k' : IntKind} {u : TypeDesc} {a e : Int} (hg : takenB ops n s g = true) (hx : ev n s x = .int k a)
    (hs : P.underlying t = some u) (ht : P.underlying t' = some (.int k')) (hw : k'.wrap a = e) (K : WL r P ops Q rest (Fr n ((d, .int k' e) :: s) ds) w) :
    WL r P ops Q (⟨some d, .convert t t' x, ty, pos, af, g⟩ :: rest) (Fr n s ds) w := pv hg rfl (cv_r hx hs ht hw) K
theorem ex_r {x : Operand} {i : Nat} {vs : Array Value} {v : Value} (hx : ev n s x = .tuple vs) (hv : vs[i]? = some v) {dd : Option Nat} :
    (execOp (ev n s) ⟨dd, .extract x i, ty, pos, af, g⟩).run P w = .ok (.value v) w := by simp [execOp, hx, Instr.extract, hv]
theorem ex {x : Operand} {i : Nat} {vs : Array Value} {v : Value} (hg : takenB ops n s g = true) (hx : ev n s x = .tuple vs) (hv : vs[i]? = some v)
    (K : WL r P ops Q rest (Fr n ((d, v) :: s) ds) w) :
    WL r P ops Q (⟨some d, .extract x i, ty, pos, af, g⟩ :: rest) (Fr n s ds) w := pv hg rfl (ex_r hx hv) K
theorem lenS_r {x : Operand} {t e : TypeId} {a : Option Addr} {m c : Nat} (hx : ev n s x = .slice a m c) (ht : P.underlying t = some (.slice e)) {dd : Option Nat} :
    (execOp (ev n s) ⟨dd, .call ⟨.builtin .len, #[x], #[t]⟩, ty, pos, af, g⟩).run P w = .ok (.value (.int .i64 m)) w := by simp [execOp, resolve, invoke, builtin, hx, Builtin.len_, run_underlying ht]; rfl
theorem lenS {x : Operand} {t e : TypeId} {a : Option Addr} {m c : Nat} (hg : takenB ops n s g = true) (hx : ev n s x = .slice a m c) (ht : P.underlying t = some (.slice e))
    (K : WL r P ops Q rest (Fr n ((d, .int .i64 m) :: s) ds) w) :
    WL r P ops Q (⟨some d, .call ⟨.builtin .len, #[x], #[t]⟩, ty, pos, af, g⟩ :: rest) (Fr n s ds) w := pv hg rfl (lenS_r hx ht) K
theorem lenStr_r {x : Operand} {t : TypeId} {b : ByteArray} (hx : ev n s x = .string b) (ht : P.underlying t = some .string) {dd : Option Nat} :
    (execOp (ev n s) ⟨dd, .call ⟨.builtin .len, #[x], #[t]⟩, ty, pos, af, g⟩).run P w = .ok (.value (.int .i64 b.size)) w := by simp [execOp, resolve, invoke, builtin, hx, Builtin.len_, run_underlying ht]; rfl
theorem lenStr {x : Operand} {t : TypeId} {b : ByteArray} (hg : takenB ops n s g = true) (hx : ev n s x = .string b) (ht : P.underlying t = some .string)
    (K : WL r P ops Q rest (Fr n ((d, .int .i64 b.size) :: s) ds) w) :
    WL r P ops Q (⟨some d, .call ⟨.builtin .len, #[x], #[t]⟩, ty, pos, af, g⟩ :: rest) (Fr n s ds) w := pv hg rfl (lenStr_r hx ht) K
theorem nilc_r {x : Operand} {a : Addr} (hx : ev n s x = .pointer (some a)) {dd : Option Nat} :
    (execOp (ev n s) ⟨dd, .nilCheck x, ty, pos, af, g⟩).run P w = .ok (.value (.pointer (some a))) w := by simp [execOp, hx]
theorem nilc {x : Operand} {a : Addr} (hg : takenB ops n s g = true) (hx : ev n s x = .pointer (some a))
    (K : WL r P ops Q rest (Fr n ((d, .pointer (some a)) :: s) ds) w) :
    WL r P ops Q (⟨some d, .nilCheck x, ty, pos, af, g⟩ :: rest) (Fr n s ds) w := pv hg rfl (nilc_r hx) K
theorem mkf_r {fn : Fn} {fi ca : List Operand} {vf vc : List Value} (hf : fi.map (ev n s) = vf) (hc : ca.map (ev n s) = vc) {dd : Option Nat} :
    (execOp (ev n s) ⟨dd, .makeFunc fn fi.toArray ca.toArray, ty, pos, af, g⟩).run P w = .ok (.value (.func fn vf.toArray vc.toArray)) w := by subst hf hc; simp [execOp, Instr.makeFunc]
theorem mkf {fn : Fn} {fi ca : List Operand} {vf vc : List Value} (hg : takenB ops n s g = true) (hf : fi.map (ev n s) = vf) (hc : ca.map (ev n s) = vc)
    (K : WL r P ops Q rest (Fr n ((d, .func fn vf.toArray vc.toArray) :: s) ds) w) :
    WL r P ops Q (⟨some d, .makeFunc fn fi.toArray ca.toArray, ty, pos, af, g⟩ :: rest) (Fr n s ds) w := pv hg rfl (mkf_r hf hc) K
theorem mki_r {x : Operand} {t : TypeId} {u : TypeDesc} {v : Value} (hx : ev n s x = v) (ht : P.underlying t = some u) (hu : (match u with | .interface _ => false | _ => true) = true) {dd : Option Nat} :
    (execOp (ev n s) ⟨dd, .makeInterface t x, ty, pos, af, g⟩).run P w = .ok (.value (.iface t v)) w := by cases u <;> simp at hu <;> simp [execOp, hx, Instr.makeInterface, run_underlying ht]
theorem mki {x : Operand} {t : TypeId} {u : TypeDesc} {v : Value} (hg : takenB ops n s g = true) (hx : ev n s x = v) (ht : P.underlying t = some u) (hu : (match u with | .interface _ => false | _ => true) = true)
    (K : WL r P ops Q rest (Fr n ((d, .iface t v) :: s) ds) w) :
    WL r P ops Q (⟨some d, .makeInterface t x, ty, pos, af, g⟩ :: rest) (Fr n s ds) w := pv hg rfl (mki_r hx ht hu) K
theorem idxStr_r {x y : Operand} {t : TypeId} {k : IntKind} {b : ByteArray} {i : Int} {c : UInt8} (hx : ev n s x = .string b) (hy : ev n s y = .int k i)
    (ht : P.underlying t = some .string) (h0 : 0 ≤ i) (hc : b[i.toNat]? = some c) {dd : Option Nat} :
    (execOp (ev n s) ⟨dd, .index t x y, ty, pos, af, g⟩).run P w = .ok (.value (.int .u8 c.toNat)) w := by simp [execOp, hx, hy, Instr.index, asIntOf, run_underlying ht, h0, hc]
theorem idxStr {x y : Operand} {t : TypeId} {k : IntKind} {b : ByteArray} {i : Int} {c : UInt8} (hg : takenB ops n s g = true) (hx : ev n s x = .string b) (hy : ev n s y = .int k i)
    (ht : P.underlying t = some .string) (h0 : 0 ≤ i) (hc : b[i.toNat]? = some c) (K : WL r P ops Q rest (Fr n ((d, .int .u8 c.toNat) :: s) ds) w) :
    WL r P ops Q (⟨some d, .index t x y, ty, pos, af, g⟩ :: rest) (Fr n s ds) w := pv hg rfl (idxStr_r hx hy ht h0 hc) K
end
end Go.Sx
namespace Go.Sx
open Go
section
variable {r : Option Nat} {P : Program} {Q : Exit → Act → World → Prop} {n : Nat} {s : List (Nat × Value)} {ds : List Deferred} {w w' : World}
theorem sq {x y : Code} (h : ∀ K : Act → World → Prop, (∀ a w, WP r P y Q a w → K a w) → WP r P x (Exit.then K Q) (Fr n s ds) w) : WP r P (.seq x y) Q (Fr n s ds) w := wpIn_seq_k h
theorem rg {id : Nat} {l : List Oper} (h : WL r P l.toArray Q l (Fr n s ds) w) : WP r P (.region id l.toArray false) Q (Fr n s ds) w := wpIn_region_lit h.out
theorem sp (h : Q .normal (Fr n s ds) w) : WP r P .skip Q (Fr n s ds) w := wpIn_skip h
theorem bk {id : Nat} {c : Code} (h : WP r P c (Exit.inBlock id Q) (Fr n s ds) w) : WP r P (.block id c) Q (Fr n s ds) w := wpIn_block h
theorem xt {id : Nat} (h : Q (.exit id) (Fr n s ds) w) : WP r P (.exit id) Q (Fr n s ds) w := wpIn_exit h
theorem rt (h : Q .ret (Fr n s ds) w) : WP r P .ret Q (Fr n s ds) w := wpIn_ret h
theorem cdT {c : Operand} {x y : Code} (hc : ev n s c = .bool true) (h : WP r P x Q (Fr n s ds) w) : WP r P (.cond c x y) Q (Fr n s ds) w :=
  wpIn_cond_true (by rw [Fr_eval]; exact hc) h
theorem cdF {c : Operand} {x y : Code} (hc : ev n s c = .bool false) (h : WP r P y Q (Fr n s ds) w) : WP r P (.cond c x y) Q (Fr n s ds) w :=
  wpIn_cond_false (by rw [Fr_eval]; exact hc) h
section
variable {K : Act → World → Prop} {a : Act} {i j : Nat} {ch : List PanicEntry}
theorem tR (h : Q .ret a w) : Exit.then K Q .ret a w := h
theorem bR (h : Q .ret a w) : Exit.inBlock i Q .ret a w := h
theorem tN (h : K a w) : Exit.then K Q .normal a w := h
theorem bN (h : Q .normal a w) : Exit.inBlock i Q .normal a w := h
theorem tX (h : Q (.exit j) a w) : Exit.then K Q (.exit j) a w := h
theorem bX (h : Q .normal a w) : Exit.inBlock i Q (.exit i) a w := by simp only [Exit.inBlock, if_true]; exact h
theorem bXn (hne : Nat.beq j i = false) (h : Q (.exit j) a w) : Exit.inBlock i Q (.exit j) a w := by
  have : ¬ j = i := fun e => by subst e; simp at hne
  simp only [Exit.inBlock, this, if_false]; exact h
theorem tP (h : Q (.panic ch) a w) : Exit.then K Q (.panic ch) a w := h
theorem bP (h : Q (.panic ch) a w) : Exit.inBlock i Q (.panic ch) a w := h
end
def Again {α : Type} (n : Nat) (ds : List Deferred) (pre : α → List (Nat × Value)) (C : α → World → Prop) (μ : α → Nat) (m : Nat) (a : Act) (w : World) : Prop :=
  ∃ x s, a = Fr n s ds ∧ Holds s (pre x) ∧ C x w ∧ μ x < m
theorem again {α : Type} {pre : α → List (Nat × Value)} {C : α → World → Prop} {μ : α → Nat} {m : Nat} (x : α) (h : Holds s (pre x)) (hC : C x w) (hm : μ x < m) : Again n ds pre C μ m (Fr n s ds) w :=
  ⟨x, s, rfl, h, hC, hm⟩
theorem lp {α : Type} {c : Code} (pre : α → List (Nat × Value)) (C : α → World → Prop) (μ : α → Nat) (x0 : α) (h0 : Holds s (pre x0)) (hC : C x0 w)
    (round : ∀ x s' w', C x w' → WP r P c (Exit.then (Again n ds pre C μ (μ x)) Q) (Fr n (pre x ++ s') ds) w') : WP r P (.loop c) Q (Fr n s ds) w := by
  intro b k cs hro hb hr
  have key : ∀ j x s w, μ x = j → Holds s (pre x) → C x w →
      ∃ e a' w', Q e a' w' ∧ ArrivesIn (Machine.fenced P (FW r)) P (lone (b.atR (Fr n s ds) (.code c :: .inLoop c :: k)) cs w) b k cs e a' w' := by
    intro j
    induction j using Nat.strongRecOn with
    | _ j ih =>
      intro x s w hn hs hI
      obtain ⟨e, a₁, w₁, hq, harr⟩ := round x s w hI b (.inLoop c :: k) cs hro hb hr
      rw [← Fr_norm (pre x) hs] at harr
      cases e with
      | normal =>
        obtain ⟨x₁, s₁, rfl, hs₁, hC₁, hlt⟩ := hq
        obtain ⟨e₂, a₂, w₂, hq₂, harr₂⟩ := ih (μ x₁) (hn ▸ hlt) x₁ s₁ w₁ rfl hs₁ hC₁
        exact ⟨e₂, a₂, w₂, hq₂, .of_steps (StepsIn.trans harr (.one (fenced_calm hb hr rfl) stepR_inLoop)) harr₂⟩
      | exit id => exact ⟨_, a₁, w₁, hq, .pass (x := .inLoop c) rfl (fun _ _ => .inl (by simp)) harr⟩
      | goto l => exact ⟨_, a₁, w₁, hq, .pass (x := .inLoop c) rfl (fun _ _ => .inl (by simp)) harr⟩
      | ret => exact ⟨_, a₁, w₁, hq, .pass (x := .inLoop c) rfl (fun _ _ => .inl (by simp)) harr⟩
      | panic ch => exact ⟨_, a₁, w₁, hq, .pass (x := .inLoop c) rfl (fun _ _ => .inl (by simp)) harr⟩
      | outgrown => exact ⟨_, a₁, w₁, hq, .pass (x := .inLoop c) rfl (fun _ _ => .inl (by simp)) harr⟩
  obtain ⟨e, a', w', hq, harr⟩ := key _ x0 s w rfl h0 hC
  exact ⟨e, a', w', hq, .of_steps (.one (fenced_calm hb hr rfl) stepR_loop) harr⟩
theorem forget {c : Code} (pre : List (Nat × Value)) (h0 : Holds s pre) (h : ∀ s', WP r P c Q (Fr n (pre ++ s') ds) w) : WP r P c Q (Fr n s ds) w := by
  rw [Fr_norm pre h0]; exact h s
theorem cut {α : Type} {x y : Code} (pre : α → List (Nat × Value)) (C : α → World → Prop)
    (h1 : ∀ K : Act → World → Prop, (∀ z s' w', Holds s' (pre z) → C z w' → K (Fr n s' ds) w') → WP r P x (Exit.then K Q) (Fr n s ds) w)
    (h2 : ∀ z s' w', C z w' → WP r P y Q (Fr n (pre z ++ s') ds) w') : WP r P (.seq x y) Q (Fr n s ds) w :=
  sq fun K hK => h1 K fun z s' w' hs hc => hK _ _ (by rw [Fr_norm (pre z) hs]; exact h2 z s' w' hc)
def Rds (r : Option Nat) (P : Program) (c : Code) (Q : Exit → Act → World → Prop) : Nat → Act → World → Prop
  | 0, _, _ => False
  | k + 1, a, w => WP r P c (Exit.then (Rds r P c Q k) Q) a w
theorem unr {c : Code} (k : Nat) (h : Rds r P c Q k (Fr n s ds) w) : WP r P (.loop c) Q (Fr n s ds) w := by
  intro b kk cs hro hb hr
  have key : ∀ k a w, Rds r P c Q k a w →
      ∃ e a' w', Q e a' w' ∧ ArrivesIn (Machine.fenced P (FW r)) P (lone (b.atR a (.code c :: .inLoop c :: kk)) cs w) b kk cs e a' w' := by
    intro k
    induction k with
    | zero => intro a w h; exact h.elim
    | succ k ih =>
      intro a w h
      obtain ⟨e, a₁, w₁, hq, harr⟩ := h b (.inLoop c :: kk) cs hro hb hr
      cases e with
      | normal =>
        obtain ⟨e₂, a₂, w₂, hq₂, harr₂⟩ := ih a₁ w₁ hq
        exact ⟨e₂, a₂, w₂, hq₂, .of_steps (StepsIn.trans harr (.one (fenced_calm hb hr rfl) stepR_inLoop)) harr₂⟩
      | exit id => exact ⟨_, a₁, w₁, hq, .pass (x := .inLoop c) rfl (fun _ _ => .inl (by simp)) harr⟩
      | goto l => exact ⟨_, a₁, w₁, hq, .pass (x := .inLoop c) rfl (fun _ _ => .inl (by simp)) harr⟩
      | ret => exact ⟨_, a₁, w₁, hq, .pass (x := .inLoop c) rfl (fun _ _ => .inl (by simp)) harr⟩
      | panic ch => exact ⟨_, a₁, w₁, hq, .pass (x := .inLoop c) rfl (fun _ _ => .inl (by simp)) harr⟩
      | outgrown => exact ⟨_, a₁, w₁, hq, .pass (x := .inLoop c) rfl (fun _ _ => .inl (by simp)) harr⟩
  obtain ⟨e, a', w', hq, harr⟩ := key k _ w h
  exact ⟨e, a', w', hq, .of_steps (.one (fenced_calm hb hr rfl) stepR_loop) harr⟩
theorem rds {c : Code} {k : Nat} {a : Act} (h : WP r P c (Exit.then (Rds r P c Q k) Q) a w) : Rds r P c Q (k + 1) a w := h
theorem wl_app0 {ops : Array Oper} {l2 : List Oper} : ∀ (l1 : List Oper) (a : Act) (w : World), wpListIn (FW r) 0 P ops (Exit.then (fun a w => WL r P ops Q l2 a w) Q) l1 a w → wpListIn (FW r) 0 P ops Q (l1 ++ l2) a w := by
  intro l1
  induction l1 with
  | nil => intro a w h; exact h.out
  | cons o l1 ih =>
    intro a w h
    simp only [List.cons_append]
    unfold wpListIn at h ⊢
    split
    · rename_i hw
      rw [if_pos hw] at h
      obtain ⟨h1, h2⟩ := h
      refine ⟨h1, ?_⟩
      revert h2
      generalize (o.semAt (FW r).round a.eval).run P w = res
      intro h2
      have hl : LetsOut (Exit.then (fun a w => WL r P ops Q l2 a w) Q) → LetsOut Q := fun ⟨a, w, h⟩ => ⟨a, w, h⟩
      cases res with
      | ok nx w' =>
        cases nx <;> simp only [Oper.uponIn] at h2 ⊢ <;> first
          | exact ih _ _ h2
          | exact ⟨h2.1, CallsIn.mono h2.2 (fun e w'' he => by cases e <;> first | exact ih _ _ he | exact he | exact hl he)⟩
          | exact ⟨h2.1, RowsIn.mono h2.2 (fun v w'' he => ih _ _ he)⟩
          | exact ⟨h2.1, RoundIn.mono h2.2 (fun e w'' he => by cases e <;> first | exact ih _ _ he | exact he | exact hl he)⟩
          | exact h2
      | halt x w' => cases x <;> simp only [Oper.uponIn] at h2 ⊢ <;> exact h2
    · rename_i hw
      rw [if_neg hw] at h
      exact ⟨h.1, ih _ _ h.2⟩
theorem wl_app {ops : Array Oper} {l2 : List Oper} (l1 : List Oper) (a : Act) (w : World) (h : WL r P ops (Exit.then (fun a w => WL r P ops Q l2 a w) Q) l1 a w) : WL r P ops Q (l1 ++ l2) a w := ⟨wl_app0 l1 a w h.out⟩
theorem wl_cut {α : Type} {ops : Array Oper} {l : List Oper} (k : Nat) (pre : α → List (Nat × Value)) (C : α → World → Prop)
    (h1 : ∀ K : Act → World → Prop, (∀ z s' w', Holds s' (pre z) → C z w' → K (Fr n s' ds) w') → WL r P ops (Exit.then K Q) (l.take k) (Fr n s ds) w)
    (h2 : ∀ z s' w', C z w' → WL r P ops Q (l.drop k) (Fr n (pre z ++ s') ds) w') : WL r P ops Q l (Fr n s ds) w := by
  have := wl_app (r := r) (P := P) (Q := Q) (ops := ops) (l2 := l.drop k) (l.take k) (Fr n s ds) w
    (h1 _ fun z s' w' hs hc => by rw [Fr_norm (pre z) hs]; exact h2 z s' w' hc)
  rwa [List.take_append_drop] at this
def argS : List Value → Nat → List (Nat × Value)
  | [], _ => []
  | v :: vs, i => (i, v) :: argS vs (i + 1)
theorem look_argS (vs : List Value) : ∀ i t, i ≤ t → look (argS vs i) t = (vs[t - i]?).getD undef := by
  induction vs with
  | nil => intro i t _; simp [argS, look]
  | cons v vs ih =>
    intro i t h
    rw [argS, look_cons]
    split
    · rename_i e; subst e; simp
    · rename_i e
      rw [ih (i + 1) t (by omega)]
      rw [show t - i = (t - (i + 1)) + 1 by omega]
      simp
theorem Fr_args (vs : List Value) (n : Nat) (h : vs.length ≤ n) : ({ tmps := vs.toArray ++ Array.replicate (n - vs.toArray.size) undef, defers := [] } : Act) = Fr n (argS vs 0) [] := by
  unfold Fr
  simp only [Act.mk.injEq, and_true]
  apply Array.ext
  · simp; omega
  · intro i h1 h2
    simp only [Array.getElem_ofFn]
    rw [look_argS vs 0 i (by omega)]
    by_cases hi : i < vs.length
    · rw [Array.getElem_append_left (by simpa using hi)]
      simp [hi]
    · rw [Array.getElem_append_right (by simpa using hi)]
      simp [hi]
def CR (P : Program) (f : FuncId) (vs : Array Value) (w : World) (R : Value → World → Prop) : Prop :=
  Calls P f vs w fun e w' => ∃ v, e = .returned v ∧ R v w'
theorem CR.mono {f : FuncId} {vs : Array Value} {R R' : Value → World → Prop} (h : CR P f vs w R) (hr : ∀ v w', R v w' → R' v w') : CR P f vs w R' :=
  Calls.mono h fun e w' ⟨v, he, hR⟩ => ⟨v, he, hr v w' hR⟩
theorem enter {f : FuncId} {fn : Func} {c : Code} {vs : List Value} {R : Ending → World → Prop} (hf : P.funcs[f]? = some fn) (hb : fn.body = some c) (hn : fn.ntmps = n) (hs : Nat.ble vs.length n = true)
    (h : WP none P c (bodyPost P fn R) (Fr n (argS vs 0) []) w) : Calls P f vs.toArray w R := by
  refine callsIn_FW.1 (callsIn_of_wp (F := FW none) (n := 0) hf hb trivial ?_)
  rw [hn, Fr_args vs n (Nat.le_of_ble_eq_true hs)]
  exact h
theorem getD_Fr (t : Nat) : (Fr n s ds).tmps.getD t undef = ev n s (.tmp t) := Fr_eval n s ds (.tmp t)
theorem ret1 {fn : Func} {t : Nat} {v : Value} {R : Value → World → Prop} (hr : fn.results = #[.tmp t]) (hv : ev n s (.tmp t) = v) (h : R v w) :
    bodyPost P fn (fun e w' => ∃ v, e = .returned v ∧ R v w') .ret (Fr n s []) w :=
  ⟨rfl, _, results_tmp hr _ _ _, _, rfl, by rw [getD_Fr, hv]; exact h⟩
theorem ret0 {fn : Func} {R : Value → World → Prop} (hr : fn.results = #[]) (h : R (.tuple #[]) w) :
    bodyPost P fn (fun e w' => ∃ v, e = .returned v ∧ R v w') .ret (Fr n s []) w :=
  ⟨rfl, _, results_none hr _ _ _, _, rfl, h⟩
theorem end0 {fn : Func} {R : Value → World → Prop} (hr : fn.results = #[]) (h : R (.tuple #[]) w) :
    bodyPost P fn (fun e w' => ∃ v, e = .returned v ∧ R v w') .normal (Fr n s []) w :=
  ⟨rfl, _, results_none hr _ _ _, _, rfl, h⟩
theorem ret2 {fn : Func} {t u : Nat} {v v' : Value} {R : Value → World → Prop} (hr : fn.results = #[.tmp t, .tmp u]) (hv : ev n s (.tmp t) = v) (hv' : ev n s (.tmp u) = v') (h : R (.tuple #[v, v']) w) :
    bodyPost P fn (fun e w' => ∃ v, e = .returned v ∧ R v w') .ret (Fr n s []) w :=
  ⟨rfl, _, results_tmp2 hr _ _ _, _, rfl, by rw [getD_Fr, getD_Fr, hv, hv']; exact h⟩
theorem results_tmp3' {fn : Func} {t u x : Tmp} (h : fn.results = #[.tmp t, .tmp u, .tmp x]) (tmps : Array Value) (P : Program) (w : World) :
    (results fn tmps).run P w = .ok (.tuple #[tmps.getD t undef, tmps.getD u undef, tmps.getD x undef]) w := by
  simp [results, h]
theorem ret3 {fn : Func} {t u x : Nat} {v v' v'' : Value} {R : Value → World → Prop} (hr : fn.results = #[.tmp t, .tmp u, .tmp x]) (hv : ev n s (.tmp t) = v) (hv' : ev n s (.tmp u) = v') (hv'' : ev n s (.tmp x) = v'') (h : R (.tuple #[v, v', v'']) w) :
    bodyPost P fn (fun e w' => ∃ v, e = .returned v ∧ R v w') .ret (Fr n s []) w :=
  ⟨rfl, _, results_tmp3' hr _ _ _, _, rfl, by rw [getD_Fr, getD_Fr, getD_Fr, hv, hv', hv'']; exact h⟩
variable {ops : Array Oper} {rest : List Oper} {d : Option Nat} {ty : TypeId} {pos : String} {af : Array Edge} {g : Option (Nat × Bool)}
def putR (d : Option Nat) (v : Value) (s : List (Nat × Value)) : List (Nat × Value) := match d with | some i => (i, v) :: s | none => s
theorem Fr_putR (d : Option Nat) (v : Value) : (Fr n s ds).put d v = Fr n (putR d v s) ds := by
  cases d with
  | none => rfl
  | some i => exact Fr_put n s ds i v
abbrev EntersF (P : Program) (f : FuncId) : Prop := ∀ (args : Array Value) (w : World), (callFunc f args).run P w = .ok (.enter f args) w
theorem map_toArray' (az : List Operand) : az.toArray.map (ev n s) = (az.map (ev n s)).toArray := by simp
theorem clF {f : FuncId} {az : List Operand} {T : Array TypeId} {vl : List Value} {R : Value → World → Prop} (hg : takenB ops n s g = true) (hvs : az.map (ev n s) = vl) (he : EntersF P f)
    (hc : CR P f vl.toArray w R) (K : ∀ v w', R v w' → WL r P ops Q rest (Fr n (putR d v s) ds) w') :
    WL r P ops Q (⟨d, .call ⟨.value (.func f), az.toArray, T⟩, ty, pos, af, g⟩ :: rest) (Fr n s ds) w := by
  refine wl_enter (f := f) (args := vl.toArray) (w' := w) hg rfl ?_ (Calls.mono hc ?_)
  · simp only [execOp, resolve, invoke, Deferred.ofValue, map_toArray', hvs]
    simp [ev, he _ _]
  · rintro e w' ⟨v, rfl, hR⟩
    simp only [Fr_putR]
    exact K v w' hR
theorem clE {f : FuncId} {az : List Operand} {T : Array TypeId} {vl : List Value} {R : Ending → World → Prop} (hg : takenB ops n s g = true) (hvs : az.map (ev n s) = vl) (he : EntersF P f)
    (hc : Calls P f vl.toArray w R) (K : ∀ e w', R e w' → (match e with
      | .returned v => WL r P ops Q rest (Fr n (putR d v s) ds) w'
      | .panicked ch => Q (.panic ch) (Fr n s ds) w'
      | .outgrown => LetsOut Q)) :
    WL r P ops Q (⟨d, .call ⟨.value (.func f), az.toArray, T⟩, ty, pos, af, g⟩ :: rest) (Fr n s ds) w := by
  refine wl_enter (f := f) (args := vl.toArray) (w' := w) hg rfl ?_ (Calls.mono hc ?_)
  · simp only [execOp, resolve, invoke, Deferred.ofValue, map_toArray', hvs]
    simp [ev, he _ _]
  · intro e w' hR
    have := K e w' hR
    cases e with
    | returned v => simp only [Fr_putR]; exact this
    | panicked ch => exact this
    | outgrown => exact this
theorem clV {x : Operand} {f : FuncId} {fi ca : List Value} {az : List Operand} {T : Array TypeId} {vl : List Value} {R : Value → World → Prop} (hg : takenB ops n s g = true)
    (hx : ev n s x = .func (.func f) fi.toArray ca.toArray) (hvs : fi ++ az.map (ev n s) ++ ca = vl) (he : EntersF P f)
    (hc : CR P f vl.toArray w R) (K : ∀ v w', R v w' → WL r P ops Q rest (Fr n (putR d v s) ds) w') :
    WL r P ops Q (⟨d, .call ⟨.value x, az.toArray, T⟩, ty, pos, af, g⟩ :: rest) (Fr n s ds) w := by
  refine wl_enter (f := f) (args := vl.toArray) (w' := w) hg rfl ?_ (Calls.mono hc ?_)
  · subst hvs
    simp only [execOp, resolve, invoke, Deferred.ofValue, map_toArray', hx]
    simp [he _ _]
  · rintro e w' ⟨v, rfl, hR⟩
    simp only [Fr_putR]
    exact K v w' hR
theorem clVE {x : Operand} {f : FuncId} {fi ca : List Value} {az : List Operand} {T : Array TypeId} {vl : List Value} {R : Ending → World → Prop} (hg : takenB ops n s g = true)
    (hx : ev n s x = .func (.func f) fi.toArray ca.toArray) (hvs : fi ++ az.map (ev n s) ++ ca = vl) (he : EntersF P f)
    (hc : Calls P f vl.toArray w R) (K : ∀ e w', R e w' → (match e with
      | .returned v => WL r P ops Q rest (Fr n (putR d v s) ds) w'
      | .panicked ch => Q (.panic ch) (Fr n s ds) w'
      | .outgrown => LetsOut Q)) :
    WL r P ops Q (⟨d, .call ⟨.value x, az.toArray, T⟩, ty, pos, af, g⟩ :: rest) (Fr n s ds) w := by
  refine wl_enter (f := f) (args := vl.toArray) (w' := w) hg rfl ?_ (Calls.mono hc ?_)
  · subst hvs
    simp only [execOp, resolve, invoke, Deferred.ofValue, map_toArray', hx]
    simp [he _ _]
  · intro e w' hR
    have := K e w' hR
    cases e with
    | returned v => simp only [Fr_putR]; exact this
    | panicked ch => exact this
    | outgrown => exact this
end
end Go.Sx
namespace Go.Sx
open Go
structure Chg (S : List Nat) (w w' : World) : Prop where
  os : w'.os = w.os
  tape : w'.tape = w.tape
  output : w'.output = w.output
  size : w.heap.size ≤ w'.heap.size
  block : ∀ b, b < w.heap.size → b ∉ S → w'.heap[b]? = w.heap[b]?
theorem Chg.refl (S : List Nat) (w : World) : Chg S w w := ⟨rfl, rfl, rfl, Nat.le_refl _, fun _ _ _ => rfl⟩
theorem Chg.trans {S : List Nat} {a b c : World} (h : Chg S a b) (k : Chg S b c) : Chg S a c :=
  ⟨k.os.trans h.os, k.tape.trans h.tape, k.output.trans h.output, Nat.le_trans h.size k.size, fun i hi hS => (k.block i (Nat.lt_of_lt_of_le hi h.size) hS).trans (h.block i hi hS)⟩
theorem Chg.mono {S S' : List Nat} {a b : World} (h : Chg S a b) (hs : ∀ x ∈ S, x ∈ S') : Chg S' a b :=
  ⟨h.os, h.tape, h.output, h.size, fun i hi hS => h.block i hi (fun hx => hS (hs i hx))⟩
theorem Chg.drew (S : List Nat) (w : World) : Chg S w w.drew := ⟨rfl, rfl, rfl, Nat.le_refl _, fun _ _ _ => rfl⟩
theorem Chg.alloc (S : List Nat) (w : World) (o : Obj) : Chg S w (w.alloc o) :=
  ⟨rfl, rfl, rfl, by simp, fun b hb _ => RowKit.Below.heap_alloc w o b hb⟩
theorem Chg.setRow (w : World) (g : Nat) (cs : Array Value) : Chg [g] w (w.setRow g cs) :=
  ⟨rfl, rfl, rfl, by simp, fun b _ hb => setRow_other w g b cs (by simpa using hb)⟩
theorem Chg.of_grownBy {w w' : World} {row : Option Nat} (h : w.grownBy w' row) : Chg row.toList w w' :=
  ⟨h.os, h.tape, h.output, h.size, fun b hb hn => h.block b hb (fun e => hn (by rw [← e]; simp))⟩
theorem Chg.below {w w' : World} (h : Chg [] w w') : RowKit.Below w.heap.size w w' :=
  ⟨h.os, h.tape, h.output, h.size, fun b hb => h.block b hb (by simp)⟩
structure Res where
  foot : List Nat
  holds : World → Prop
  loc : ∀ w w', (∀ b ∈ foot, w'.heap[b]? = w.heap[b]?) → holds w → holds w'
def blk (b : Nat) (T : TypeId) (cs : List Value) : Res where
  foot := [b]
  holds w := w.heap[b]? = some (.cells cs.toArray T (0, 0))
  loc w w' h hh := (h b (by simp)).trans hh
def row (v : Value) (e : TypeId) (sz m : Nat) (xs : List Value) : Res where
  foot := v.ownBlock.toList
  holds w := w.ownsRow 0 e sz v m xs
  loc w w' h hh := by
    refine ⟨hh.1, ?_⟩
    rcases hh.2 with hn | ⟨g, cap, cur, rfl, hb, hg, rest⟩
    · exact .inl hn
    · exact .inr ⟨g, cap, cur, rfl, hb, (h g (by simp [Value.ownBlock])).trans hg, rest⟩
def feet (L : List Res) : List Nat := L.flatMap (·.foot)
structure Bs (wb : World) (X : List Nat) (L : List Res) (w : World) : Prop where
  chg : Chg X wb w
  mine : ∀ b ∈ feet L, b ∈ X ∨ wb.heap.size ≤ b
structure St (bs : List (World × List Nat)) (L : List Res) (w : World) : Prop where
  base : ∀ p ∈ bs, Bs p.1 p.2 L w
  own : ∀ R ∈ L, R.holds w
  sep : (feet L).Nodup
  lt : ∀ b ∈ feet L, b < w.heap.size
variable {bs : List (World × List Nat)} {L L' : List Res} {w w' w0 : World}
theorem St.init (w : World) : St [(w, [])] [] w :=
  ⟨fun p hp => by simp only [List.mem_singleton] at hp; subst hp; exact ⟨Chg.refl _ _, by simp [feet]⟩, by simp, by simp [feet], by simp [feet]⟩
theorem St.initL (w : World) (L : List Res) (ho : ∀ R ∈ L, R.holds w) (hn : (feet L).Nodup) (hl : ∀ b ∈ feet L, b < w.heap.size) : St [(w, feet L)] L w :=
  ⟨fun p hp => by simp only [List.mem_singleton] at hp; subst hp; exact ⟨Chg.refl _ _, fun b hb => .inl hb⟩, ho, hn, hl⟩
theorem St.rebase (h : St bs L w) : St ((w, feet L) :: bs) L w :=
  ⟨fun p hp => by
    simp only [List.mem_cons] at hp
    rcases hp with rfl | hp
    · exact ⟨Chg.refl _ _, fun b hb => .inl hb⟩
    · exact h.base p hp, h.own, h.sep, h.lt⟩
theorem St.chg {X : List Nat} (h : St bs L w) (hb : (w0, X) ∈ bs) : Chg X w0 w := (h.base _ hb).chg
theorem St.keep {X : List Nat} (h : St bs L w) (hb : (w0, X) ∈ bs) {b : Nat} (hlt : b < w0.heap.size) (hX : b ∉ X) : w.heap[b]? = w0.heap[b]? :=
  (h.base _ hb).chg.block b hlt hX
theorem St.cellB {X : List Nat} (h : St bs L w) (hb : (w0, X) ∈ bs) {a : Addr} {v : Value} (hc : w0.cell? a = some v) (hX : a.block ∉ X) : w.cell? a = some v :=
  (World.cell?_of_block (h.keep hb (World.block_lt_of_cell? w0 a hc) hX)).trans hc
theorem feet_cons (R : Res) (L : List Res) : feet (R :: L) = R.foot ++ feet L := by simp [feet]
theorem feet_nil : feet [] = [] := rfl
theorem mem_feet_of {R : Res} {L : List Res} {i : Nat} (hi : L[i]? = some R) {b : Nat} (hb : b ∈ R.foot) : b ∈ feet L :=
  List.mem_flatMap.2 ⟨R, List.mem_of_getElem? hi, hb⟩
theorem St.upd {i : Nat} {R R' : Res} (h : St bs L w) (hi : L[i]? = some R) (hc : Chg R.foot w w') (hf : ∀ b ∈ R'.foot, b ∈ R.foot ∨ w.heap.size ≤ b)
    (hnd : R'.foot.Nodup) (hlt : ∀ b ∈ R'.foot, b < w'.heap.size) (ho : R'.holds w') : St bs (L.set i R') w' := by
  obtain ⟨l1, l2, rfl, hlen⟩ : ∃ l1 l2, L = l1 ++ R :: l2 ∧ l1.length = i := by
    have hlt := (List.getElem?_eq_some_iff.1 hi).1
    refine ⟨L.take i, L.drop (i + 1), ?_, by simp; omega⟩
    have := (List.getElem?_eq_some_iff.1 hi).2
    rw [← this, ← List.drop_eq_getElem_cons hlt, List.take_append_drop]
  have hset : (l1 ++ R :: l2).set i R' = l1 ++ R' :: l2 := by rw [← hlen]; simp
  have hfe : ∀ R : Res, feet (l1 ++ R :: l2) = feet l1 ++ (R.foot ++ feet l2) := fun R => by simp [feet]
  rw [hset]
  have hsep := h.sep
  rw [hfe, List.nodup_append] at hsep
  obtain ⟨n1, n2, n3⟩ := hsep
  rw [List.nodup_append] at n2
  obtain ⟨n4, n5, n6⟩ := n2
  have hold : ∀ b, b ∈ feet l1 ∨ b ∈ feet l2 → b < w.heap.size ∧ b ∉ R.foot := by
    intro b hb
    refine ⟨h.lt b (by rw [hfe]; simp only [List.mem_append]; rcases hb with hb | hb <;> simp [hb]), fun hr => ?_⟩
    rcases hb with hb | hb
    · exact n3 b hb b (by simp [hr]) rfl
    · exact n6 b hr b hb rfl
  have hkeep : ∀ b, b ∈ feet l1 ∨ b ∈ feet l2 → w'.heap[b]? = w.heap[b]? := fun b hb => hc.block b (hold b hb).1 (hold b hb).2
  refine ⟨fun p hp => ?_, fun X hX => ?_, ?_, ?_⟩
  · have hb := h.base p hp
    refine ⟨⟨hc.os.trans hb.chg.os, hc.tape.trans hb.chg.tape, hc.output.trans hb.chg.output, Nat.le_trans hb.chg.size hc.size, fun b hlt' hx => ?_⟩, fun b hb' => ?_⟩
    · refine (hc.block b (Nat.lt_of_lt_of_le hlt' hb.chg.size) (fun hr => ?_)).trans (hb.chg.block b hlt' hx)
      rcases hb.mine b (by rw [hfe]; simp [hr]) with h1 | h1
      · exact hx h1
      · omega
    · rw [hfe] at hb'
      simp only [List.mem_append] at hb'
      rcases hb' with h1 | h1 | h1
      · exact hb.mine b (by rw [hfe]; simp [h1])
      · rcases hf b h1 with h2 | h2
        · exact hb.mine b (by rw [hfe]; simp [h2])
        · exact .inr (Nat.le_trans hb.chg.size h2)
      · exact hb.mine b (by rw [hfe]; simp [h1])
  · simp only [List.mem_append, List.mem_cons] at hX
    rcases hX with h1 | rfl | h1
    · exact X.loc w w' (fun b hb => hkeep b (.inl (List.mem_flatMap.2 ⟨X, h1, hb⟩))) (h.own X (by simp [h1]))
    · exact ho
    · exact X.loc w w' (fun b hb => hkeep b (.inr (List.mem_flatMap.2 ⟨X, h1, hb⟩))) (h.own X (by simp [h1]))
  · rw [hfe, List.nodup_append]
    have hne : ∀ b, (b ∈ feet l1 ∨ b ∈ feet l2) → ∀ c ∈ R'.foot, b ≠ c := by
      rintro b hb c hc' rfl
      rcases hf b hc' with h2 | h2
      · exact (hold b hb).2 h2
      · have := (hold b hb).1; omega
    refine ⟨n1, List.nodup_append.2 ⟨hnd, n5, fun a ha b hb e => hne b (.inr hb) a ha e.symm⟩, fun a ha b hb => ?_⟩
    simp only [List.mem_append] at hb
    rcases hb with hb | hb
    · exact hne a (.inl ha) b hb
    · exact n3 a ha b (by simp [hb])
  · intro b hb
    rw [hfe] at hb
    simp only [List.mem_append] at hb
    rcases hb with h1 | h1 | h1
    · exact Nat.lt_of_lt_of_le (hold b (.inl h1)).1 hc.size
    · exact hlt b h1
    · exact Nat.lt_of_lt_of_le (hold b (.inr h1)).1 hc.size
theorem St.grow (h : St bs L w) (hc : Chg [] w w') : St bs L w' :=
  ⟨fun p hp => by
    have hb := h.base p hp
    exact ⟨⟨hc.os.trans hb.chg.os, hc.tape.trans hb.chg.tape, hc.output.trans hb.chg.output, Nat.le_trans hb.chg.size hc.size,
      fun b hlt' hx => (hc.block b (Nat.lt_of_lt_of_le hlt' hb.chg.size) (by simp)).trans (hb.chg.block b hlt' hx)⟩, hb.mine⟩,
   fun X hX => X.loc w w' (fun b hb => hc.block b (h.lt b (List.mem_flatMap.2 ⟨X, hX, hb⟩)) (by simp)) (h.own X hX),
   h.sep, fun b hb => Nat.lt_of_lt_of_le (h.lt b hb) hc.size⟩
theorem St.add {R : Res} {lo : Nat} (h : St bs L w) (hlo : ∀ p ∈ bs, p.1.heap.size ≤ lo) (hlo' : ∀ b ∈ feet L, b < lo) (hf : ∀ b ∈ R.foot, lo ≤ b) (hnd : R.foot.Nodup) (hlt : ∀ b ∈ R.foot, b < w.heap.size) (ho : R.holds w) : St bs (R :: L) w := by
  refine ⟨fun p hp => ⟨(h.base p hp).chg, fun b hb => ?_⟩, fun X hX => ?_, ?_, ?_⟩
  · rw [feet_cons, List.mem_append] at hb
    rcases hb with hb | hb
    · exact .inr (Nat.le_trans (hlo p hp) (hf b hb))
    · exact (h.base p hp).mine b hb
  · simp only [List.mem_cons] at hX
    rcases hX with rfl | hX
    · exact ho
    · exact h.own X hX
  · rw [feet_cons, List.nodup_append]
    exact ⟨hnd, h.sep, fun a ha b hb e => by have h1 := hf a ha; have h2 := hlo' b hb; omega⟩
  · intro b hb
    rw [feet_cons, List.mem_append] at hb
    rcases hb with hb | hb
    · exact hlt b hb
    · exact h.lt b hb
theorem St.addNew {R : Res} (h : St bs L w) (hc : Chg [] w w') (hf : ∀ b ∈ R.foot, w.heap.size ≤ b) (hnd : R.foot.Nodup) (hlt : ∀ b ∈ R.foot, b < w'.heap.size) (ho : R.holds w') : St bs (R :: L) w' :=
  (h.grow hc).add (lo := w.heap.size) (fun p hp => (h.base p hp).chg.size) h.lt hf hnd hlt ho
theorem St.sub (h : St bs L w) (hs : L'.Sublist L) : St bs L' w := by
  have hm : ∀ b ∈ feet L', b ∈ feet L := fun b hb => by
    obtain ⟨X, hX, hx⟩ := List.mem_flatMap.1 hb
    exact List.mem_flatMap.2 ⟨X, hs.subset hX, hx⟩
  refine ⟨fun p hp => ⟨(h.base p hp).chg, fun b hb => (h.base p hp).mine b (hm b hb)⟩, fun X hX => h.own X (hs.subset hX), ?_, fun b hb => h.lt b (hm b hb)⟩
  exact h.sep.sublist (by
    clear h hm
    induction hs with
    | slnil => exact List.Sublist.slnil
    | cons a _ ih => rw [feet_cons]; exact ih.trans (List.sublist_append_right _ _)
    | cons_cons a _ ih => rw [feet_cons, feet_cons]; exact List.Sublist.append_left ih _)
theorem St.blkHeap {i b : Nat} {T : TypeId} {cs : List Value} (h : St bs L w) (hi : L[i]? = some (blk b T cs)) : w.heap[b]? = some (.cells cs.toArray T (0, 0)) :=
  h.own _ (List.mem_of_getElem? hi)
theorem St.blkCell {i b o : Nat} {T : TypeId} {cs : List Value} {v : Value} (h : St bs L w) (hi : L[i]? = some (blk b T cs)) (hv : cs[o]? = some v) : w.cell? ⟨b, o, none⟩ = some v := by
  rw [cell_of_row w b o cs.toArray T (0, 0) (h.blkHeap hi)]
  simpa using hv
def setAt (cs : List Value) (o : Nat) (vs : List Value) : List Value := cs.take o ++ vs ++ cs.drop (o + vs.length)
abbrev TI (P : Program) (t : TypeId) (sz by_ : Nat) (z : Value) : Prop := (P.info? t).map (fun i => (i.size, i.bytes, i.zero)) = some (sz, by_, some z)
theorem TI.get {P : Program} {t : TypeId} {sz by_ : Nat} {z : Value} (h : TI P t sz by_ z) : ∃ i, P.info? t = some i ∧ i.size = sz ∧ i.bytes = by_ ∧ i.zero = some z := by
  unfold TI at h
  cases hi : P.info? t with
  | none => rw [hi] at h; simp at h
  | some i => rw [hi] at h; simp at h; exact ⟨i, rfl, h.1, h.2.1, h.2.2⟩
variable {P : Program} {t : TypeId} {sz by_ : Nat} {z : Value}
theorem TI.size (h : TI P t sz by_ z) (w : World) : (sizeOf t).run P w = .ok sz w := by
  obtain ⟨i, hi, h1, _, _⟩ := h.get
  simp [sizeOf, typeInfo, hi, h1]
theorem TI.zeroRun (h : TI P t sz by_ z) (w : World) : (zeroValue t).run P w = .ok z w := by
  obtain ⟨i, hi, _, _, h1⟩ := h.get
  simp [zeroValue, typeInfo, hi, h1]
def isAggD : TypeDesc → Bool
  | .struct _ | .array _ _ => true
  | _ => false
section
variable {r : Option Nat} {ops : Array Oper} {Q : Exit → Act → World → Prop} {rest : List Oper} {n : Nat} {s : List (Nat × Value)} {ds : List Deferred}
variable {d : Nat} {ty : TypeId} {pos : String} {af : Array Edge} {g : Option (Nat × Bool)} {v : Value} {x y : Operand} {u : TypeDesc}
theorem run_isAgg (hu : P.underlying t = some u) (w : World) : (isAgg t).run P w = .ok (isAggD u) w := by
  unfold isAgg
  cases u <;> simp [run_underlying hu, isAggD]
theorem ld_r {a : Addr} (hx : ev n s x = .pointer (some a)) (hu : P.underlying t = some u) (hn : isAggD u = false) (hv : w.cell? a = some v) {dd : Option Nat} :
    (execOp (ev n s) ⟨dd, .load t x, ty, pos, af, g⟩).run P w = .ok (.value v) w := by
    simp only [execOp, hx, Instr.loadAt, Instr.sureAddr, loadVar, Sem.run_bind, Sem.run_pure, Result.andThen_ok, run_isAgg hu, hn]
    simp [load, Sem.run, hv]
theorem ld {a : Addr} (hg : takenB ops n s g = true) (hx : ev n s x = .pointer (some a)) (hu : P.underlying t = some u) (hn : isAggD u = false) (hv : w.cell? a = some v)
    (K : WL r P ops Q rest (Fr n ((d, v) :: s) ds) w) :
    WL r P ops Q (⟨some d, .load t x, ty, pos, af, g⟩ :: rest) (Fr n s ds) w := pv hg rfl (ld_r hx hu hn hv) K
theorem ldA_r {b o : Nat} {cs : List Value} (hx : ev n s x = .pointer (some ⟨b, o, none⟩)) (hu : P.underlying t = some u) (hn : isAggD u = true) (ht : TI P t sz by_ z)
    (hl : cs.length = sz) (hv : ∀ j u, cs[j]? = some u → w.cell? ⟨b, o + j, none⟩ = some u) {dd : Option Nat} :
    (execOp (ev n s) ⟨dd, .load t x, ty, pos, af, g⟩).run P w = .ok (.value (.agg cs.toArray)) w := by
    subst hl
    have := run_loadCells_list (P := P) w ⟨b, o, none⟩ cs (fun j u hj => by rw [Addr.add_lit]; exact hv j u hj)
    simp only [execOp, hx, Instr.loadAt, Instr.sureAddr, loadVar, Sem.run_bind, Sem.run_pure, Result.andThen_ok, run_isAgg hu, hn, ht.size, this, if_true]
theorem ldA {b o : Nat} {cs : List Value} (hg : takenB ops n s g = true) (hx : ev n s x = .pointer (some ⟨b, o, none⟩)) (hu : P.underlying t = some u) (hn : isAggD u = true) (ht : TI P t sz by_ z)
    (hl : cs.length = sz) (hv : ∀ j u, cs[j]? = some u → w.cell? ⟨b, o + j, none⟩ = some u)
    (K : WL r P ops Q rest (Fr n ((d, .agg cs.toArray) :: s) ds) w) :
    WL r P ops Q (⟨some d, .load t x, ty, pos, af, g⟩ :: rest) (Fr n s ds) w := pv hg rfl (ldA_r hx hu hn ht hl hv) K
theorem St.blkCells {i b o : Nat} {T : TypeId} {cs : List Value} {vs : List Value} (h : St bs L w) (hi : L[i]? = some (blk b T cs)) (hv : (cs.drop o).take vs.length = vs) :
    ∀ j u, vs[j]? = some u → w.cell? ⟨b, o + j, none⟩ = some u := by
  intro j u hj
  refine h.blkCell hi ?_
  rw [← hv, List.getElem?_take] at hj
  split at hj
  · simpa using hj
  · cases hj
theorem sto {b o : Nat} {T : TypeId} {cs cs' vs : List Value} (i : Nat) (hg : takenB ops n s g = true) (hx : ev n s x = .pointer (some ⟨b, o, none⟩)) (hy : ev n s y = v) (hvs : v.cells.toList = vs)
    (ht : TI P t sz by_ z) (hsz : vs.length = sz) (h1 : vs.all (·.oneCell') = true) (hst : St bs L w) (hi : L[i]? = some (blk b T cs)) (hfit : Nat.ble (o + vs.length) cs.length = true)
    (hcs : setAt cs o vs = cs') (hL : L.set i (blk b T cs') = L')
    (K : ∀ w', St bs L' w' → WL r P ops Q rest (Fr n s ds) w') : WL r P ops Q (⟨none, .store t x y, ty, pos, af, g⟩ :: rest) (Fr n s ds) w := by
  have hh := hst.blkHeap hi
  have hrun := run_storeCells_at P b o T vs 0 cs.toArray w hh (by simpa using Nat.le_of_ble_eq_true hfit) (by simpa using h1)
  have hlen : v.cells.size = sz := by rw [← hsz, ← hvs]; simp
  refine wl_unit (w' := w.setRow b (cs'.toArray)) hg rfl ?_ ?_
  · simp only [execOp, hx, hy, Instr.storeAt, Instr.sureAddr, storeVar, Sem.run_bind, Sem.run_pure, Result.andThen_ok, ht.size, hlen, ne_eq, not_true, if_false, hvs]
    subst hcs
    simp only [Nat.add_zero] at hrun
    simp [hrun, setAt]
  · subst hL
    refine K _ ?_
    refine hst.upd hi (Chg.setRow w b _) (fun c hc => .inl hc) (by simp [blk]) (fun c hc => ?_) (setRow_heap w b cs.toArray cs'.toArray T (0, 0) hh)
    simp only [blk, List.mem_singleton] at hc
    subst hc
    simpa using (Array.getElem?_eq_some_iff.1 hh).1
theorem newBlk {bs : List (World × List Nat)} {L : List Res} (hst : St bs L w) (T : TypeId) (cs : List Value) : St bs (blk w.heap.size T cs :: L) (w.alloc (.cells cs.toArray T)) :=
  hst.addNew (Chg.alloc [] w _) (fun b hb => by simp [blk] at hb; omega) (by simp [blk]) (fun b hb => by simp [blk] at hb; simp; omega) (heap_alloc_new w _)
theorem al {cs : List Value} (hg : takenB ops n s g = true) (ht : TI P t sz by_ z) (hcs : z.cells.toList = cs) (hst : St bs L w)
    (K : ∀ b w', w.heap.size ≤ b → Chg [] w w' → St bs (blk b t cs :: L) w' → WL r P ops Q rest (Fr n ((d, .pointer (some ⟨b, 0, none⟩)) :: s) ds) w') :
    WL r P ops Q (⟨some d, .alloc t, ty, pos, af, g⟩ :: rest) (Fr n s ds) w := by
  subst hcs
  refine pv (w' := w.alloc (.cells z.cells t)) hg rfl ?_ (K _ _ (Nat.le_refl _) (Chg.alloc [] w _) ?_)
  · simp only [execOp, Instr.alloc, Sem.run_bind, ht.zeroRun, Result.andThen_ok]
    rfl
  · have := newBlk hst t z.cells.toList
    simpa using this
theorem bx {cs : List Value} (hg : takenB ops n s g = true) (hx : ev n s x = v) (hcs : v.cells.toList = cs) (hst : St bs L w)
    (K : ∀ b w', w.heap.size ≤ b → Chg [] w w' → St bs (blk b t cs :: L) w' → WL r P ops Q rest (Fr n ((d, .pointer (some ⟨b, 0, none⟩)) :: s) ds) w') :
    WL r P ops Q (⟨some d, .box t x, ty, pos, af, g⟩ :: rest) (Fr n s ds) w := by
  subst hcs
  refine pv (w' := w.alloc (.cells v.cells t)) hg rfl ?_ (K _ _ (Nat.le_refl _) (Chg.alloc [] w _) ?_)
  · simp only [execOp, hx, Instr.box]
    rfl
  · have := newBlk hst t v.cells.toList
    simpa using this
theorem fa_r {T : TypeId} {i b o o' szf byf : Nat} {zf : Value} {fields : Array Field} {f : Field} (hx : ev n s x = .pointer (some ⟨b, o, none⟩)) (hT : P.underlying T = some (.struct fields))
    (hf : fields[i]? = some f) (ht : TI P f.type (szf + 1) byf zf) (ho : o + f.offset = o') {dd : Option Nat} :
    (execOp (ev n s) ⟨dd, .fieldAddr T x i, ty, pos, af, g⟩).run P w = .ok (.value (.pointer (some ⟨b, o', none⟩))) w := by subst ho; simp [execOp, hx, Instr.fieldAt, run_underlying hT, hf, Instr.sureAddr, fieldPlace, ht.size, Addr.add_lit]
theorem fa {T : TypeId} {i b o o' szf byf : Nat} {zf : Value} {fields : Array Field} {f : Field} (hg : takenB ops n s g = true) (hx : ev n s x = .pointer (some ⟨b, o, none⟩)) (hT : P.underlying T = some (.struct fields))
    (hf : fields[i]? = some f) (ht : TI P f.type (szf + 1) byf zf) (ho : o + f.offset = o') (K : WL r P ops Q rest (Fr n ((d, .pointer (some ⟨b, o', none⟩)) :: s) ds) w) :
    WL r P ops Q (⟨some d, .fieldAddr T x i, ty, pos, af, g⟩ :: rest) (Fr n s ds) w := pv hg rfl (fa_r hx hT hf ht ho) K
theorem ixa_r {T e : TypeId} {k : IntKind} {b o m c o' : Nat} {i : Int} (hx : ev n s x = .slice (some ⟨b, o, none⟩) m c) (hy : ev n s y = .int k i) (hT : P.underlying T = some (.slice e))
    (ht : TI P e sz by_ z) (h0 : 0 ≤ i ∧ i < m) (ho : o + i.toNat * sz = o') {dd : Option Nat} :
    (execOp (ev n s) ⟨dd, .indexAddr T x y, ty, pos, af, g⟩).run P w = .ok (.value (.pointer (some ⟨b, o', none⟩))) w := by subst ho; simp [execOp, hx, hy, Instr.indexAt, run_underlying hT, asIntOf, h0, ht.size, Addr.add_lit]
theorem ixa {T e : TypeId} {k : IntKind} {b o m c o' : Nat} {i : Int} (hg : takenB ops n s g = true) (hx : ev n s x = .slice (some ⟨b, o, none⟩) m c) (hy : ev n s y = .int k i) (hT : P.underlying T = some (.slice e))
    (ht : TI P e sz by_ z) (h0 : 0 ≤ i ∧ i < m) (ho : o + i.toNat * sz = o') (K : WL r P ops Q rest (Fr n ((d, .pointer (some ⟨b, o', none⟩)) :: s) ds) w) :
    WL r P ops Q (⟨some d, .indexAddr T x y, ty, pos, af, g⟩ :: rest) (Fr n s ds) w := pv hg rfl (ixa_r hx hy hT ht h0 ho) K
end
end Go.Sx
namespace Go.Sx
open Go
def InK (k : IntKind) (x : Int) : Prop := k.min ≤ x ∧ x ≤ k.max
theorem InK.u8 {x : Int} (h : InK .u8 x) : 0 ≤ x ∧ x ≤ 255 := h
theorem InK.u16 {x : Int} (h : InK .u16 x) : 0 ≤ x ∧ x ≤ 65535 := h
theorem InK.u32 {x : Int} (h : InK .u32 x) : 0 ≤ x ∧ x ≤ 4294967295 := h
theorem InK.u64 {x : Int} (h : InK .u64 x) : 0 ≤ x ∧ x ≤ 18446744073709551615 := h
theorem InK.i64 {x : Int} (h : InK .i64 x) : -9223372036854775808 ≤ x ∧ x ≤ 9223372036854775807 := h
def Sl {α : Type} (sz : Nat) (enc : World → α → List Value → Prop) (ok : Nat → Prop) (w : World) (v : Value) (xs : List α) : Prop :=
  ∃ a c, v = .slice a xs.length c ∧ xs.length ≤ c ∧ c ≤ maxLen ∧ ∀ i x, xs[i]? = some x → ∃ b o vs, a = some ⟨b, o, none⟩ ∧ ok b ∧ vs.length = sz ∧ enc w x vs ∧ ∀ j u, vs[j]? = some u → w.cell? ⟨b, o + i * sz + j, none⟩ = some u
def encI (k : IntKind) (_ : World) (x : Int) (vs : List Value) : Prop := vs = [.int k x] ∧ InK k x
abbrev Ints (k : IntKind) (ok : Nat → Prop) (w : World) (v : Value) (xs : List Int) : Prop := Sl 1 (encI k) ok w v xs
section
variable {α : Type} {sz : Nat} {enc : World → α → List Value → Prop} {ok ok' : Nat → Prop} {w w' w0 : World} {v : Value} {xs : List α}
theorem Sl.nil (sz : Nat) (enc : World → α → List Value → Prop) (ok : Nat → Prop) (w : World) : Sl sz enc ok w (.slice none 0 0) [] :=
  ⟨none, 0, rfl, Nat.le_refl _, Nat.zero_le _, fun i x h => by simp at h⟩
theorem Sl.len (h : Sl sz enc ok w v xs) : xs.length ≤ 9223372036854775807 := by
  obtain ⟨a, c, _, h1, h2, _⟩ := h
  simp only [maxLen] at h2; omega
theorem Sl.mono (h : Sl sz enc ok w v xs) (ho : ∀ b, ok b → ok' b) : Sl sz enc ok' w v xs := by
  obtain ⟨a, c, e, h1, h2, h3⟩ := h
  exact ⟨a, c, e, h1, h2, fun i x hi => let ⟨b, o, vs, ha, hb, rest⟩ := h3 i x hi; ⟨b, o, vs, ha, ho b hb, rest⟩⟩
theorem Sl.any (h : Sl sz enc ok w v xs) : Sl sz enc (fun _ => True) w v xs := h.mono fun _ _ => trivial
theorem Sl.to (h : Sl sz enc ok w v xs) (hk : ∀ b, ok b → b < w.heap.size → w'.heap[b]? = w.heap[b]?) (he : ∀ x vs, x ∈ xs → enc w x vs → enc w' x vs) (hp : 0 < sz) : Sl sz enc ok w' v xs := by
  obtain ⟨a, c, e, h1, h2, h3⟩ := h
  refine ⟨a, c, e, h1, h2, fun i x hi => ?_⟩
  obtain ⟨b, o, vs, ha, hb, hl, hx, hc⟩ := h3 i x hi
  refine ⟨b, o, vs, ha, hb, hl, he x vs (List.mem_of_getElem? hi) hx, fun j u hj => ?_⟩
  have := hc j u hj
  exact (World.cell?_of_block (hk b hb (World.block_lt_of_cell? w _ this))).trans this
theorem Ints.to {k : IntKind} {xs : List Int} (h : Ints k ok w v xs) (hk : ∀ b, ok b → b < w.heap.size → w'.heap[b]? = w.heap[b]?) : Ints k ok w' v xs :=
  Sl.to h hk (fun _ _ _ h => h) (by decide)
theorem St.ints {k : IntKind} {xs : List Int} {X : List Nat} {bs : List (World × List Nat)} {L : List Res} (h : St bs L w) (hb : (w0, X) ∈ bs) (hI : Ints k ok w0 v xs) (hok : ∀ b, ok b → b ∉ X) : Ints k ok w v xs :=
  Ints.to hI fun b hb' hlt => h.keep hb hlt (hok b hb')
theorem St.ints0 {k : IntKind} {xs : List Int} {bs : List (World × List Nat)} {L : List Res} (h : St bs L w) (hb : (w0, []) ∈ bs) (hI : Ints k ok w0 v xs) : Ints k ok w v xs :=
  h.ints hb hI fun _ _ => List.not_mem_nil
theorem St.ints2 {k : IntKind} {xs : List Int} {X : List Nat} {bs bs' : List (World × List Nat)} {L L' : List Res} {wA : World} (hA : St bs L wA) (hB : St bs' L' w) (hb : (w0, X) ∈ bs) (hb' : (w0, X) ∈ bs') (hI : Ints k ok wA v xs) (hok : ∀ b, ok b → b < w0.heap.size ∧ b ∉ X) : Ints k ok w v xs :=
  Ints.to hI fun b hb1 _ => (hB.keep hb' (hok b hb1).1 (hok b hb1).2).trans (hA.keep hb (hok b hb1).1 (hok b hb1).2).symm
theorem Ints.in {k : IntKind} {xs : List Int} (h : Ints k ok w v xs) {x : Int} (hx : x ∈ xs) : InK k x := by
  obtain ⟨i, hi⟩ := List.getElem?_of_mem hx
  obtain ⟨a, c, _, _, _, h3⟩ := h
  obtain ⟨b, o, vs, _, _, _, he, _⟩ := h3 i x hi
  exact he.2
theorem Sl.cut {a : Option Addr} {m c l h : Nat} (hs : Sl sz enc ok w (.slice a m c) xs) (hlh : l ≤ h) (hh : h ≤ m) :
    Sl sz enc ok w (.slice (if c = l then a else a.map (·.add (l * sz))) (h - l) (c - l)) ((xs.take h).drop l) := by
  obtain ⟨a', c', e, h1, h2, h3⟩ := hs
  cases e
  have hl : ((xs.take h).drop l).length = h - l := by simp; omega
  refine ⟨_, c - l, by rw [hl], by rw [hl]; omega, by omega, fun i x hi => ?_⟩
  have hi' : i < h - l := by have := (List.getElem?_eq_some_iff.1 hi).1; omega
  have hx : xs[l + i]? = some x := by
    rw [List.getElem?_drop, List.getElem?_take, if_pos (by omega)] at hi
    exact hi
  obtain ⟨b, o, vs, ha, hb, hl', he, hc⟩ := h3 (l + i) x hx
  refine ⟨b, o + l * sz, vs, ?_, hb, hl', he, fun j u hj => ?_⟩
  · have : ¬ c = l := by
      intro e; subst e; omega
    rw [if_neg this, ha]
    simp [Addr.add_lit]
  · have := hc j u hj
    rw [Nat.add_mul] at this
    rw [show o + l * sz + i * sz + j = o + (l * sz + i * sz) + j by omega]
    exact this
end
theorem ownsRow_block {w : World} {e : TypeId} {sz m b : Nat} {v : Value} {xs : List Value} (h : w.ownsRow 0 e sz v m xs) (hb : v.ownBlock = some b) : b < w.heap.size := (h.lt b hb).2
theorem run_append_same {P : Program} {w : World} {t ty e : TypeId} {i : TypeInfo} (ht : P.underlying t = some (.slice e)) (hi : P.info? e = some i) {v : Value} {m : Nat} {xs : List Value} {sz : Nat} (hown : w.ownsRow 0 e sz v m xs)
    {a : Option Addr} {c : Nat} : (Builtin.append_ #[t, t] ty #[v, .slice a 0 c]).run P w = .ok v w := by
  have hf : (Builtin.firstCells i.size 0 (.slice a 0 c)).run P w = .ok #[] w := by
    cases a with
    | none => simp [Builtin.firstCells]
    | some a => simp [Builtin.firstCells, loadCells, loadCellsFrom]
  rcases hown.2 with ⟨rfl, rfl⟩ | ⟨g, cap, cur, rfl, _, hg, hnc, _, _, _⟩
  · simp [Builtin.append_, run_underlying ht, sizeOf, typeInfo, hi, Builtin.lenOf, hf]
  · simp [Builtin.append_, run_underlying ht, sizeOf, typeInfo, hi, Builtin.lenOf, hf, hnc, storeCells]
def Src (w : World) (u : Value) (sz cnt : Nat) (news : List Value) : Prop :=
  ∃ a c, u = .slice a cnt c ∧ news.length = cnt * sz ∧ ∀ j x, news[j]? = some x → ∃ ad, a = some ad ∧ w.cell? (ad.add j) = some x
theorem run_append_row {P : Program} {w : World} {t ty e : TypeId} {sz by_ : Nat} {z : Value} (ht : P.underlying t = some (.slice e)) (hi : TI P e sz by_ z) (hzs : z.cells.size = sz) (hsz : 0 < sz)
    {v u : Value} {m cnt : Nat} {xs news : List Value} (hown : w.ownsRow 0 e sz v m xs) (hs : Src w u sz cnt news) (h1 : ∀ x ∈ news, x.oneCell' = true) (hb : (m + cnt) * by_ ≤ 140737488355328) (h63 : m + cnt ≤ maxLen) :
    ∃ v' w', (Builtin.append_ #[t, t] ty #[v, u]).run P w = .ok v' w' ∧ w'.ownsRow 0 e sz v' (m + cnt) (xs ++ news) ∧ Chg v.ownBlock.toList w w' ∧ (∀ b, v'.ownBlock = some b → (v.ownBlock = some b ∨ w.heap.size ≤ b) ∧ b < w'.heap.size) ∧
      (v' = .slice none 0 0 ↔ v = .slice none 0 0 ∧ cnt = 0) := by
  obtain ⟨i, hii, rfl, rfl, hz⟩ := hi.get
  obtain ⟨a, c, rfl, hl, hn⟩ := hs
  by_cases h0 : cnt = 0
  · subst h0
    have hnil : news = [] := List.eq_nil_of_length_eq_zero (by simpa using hl)
    subst hnil
    exact ⟨v, w, run_append_same ht hii hown, by simpa using hown, Chg.refl _ _, fun b hb => ⟨.inl hb, ownsRow_block hown hb⟩, by simp⟩
  · have hpos : 0 < news.length := by rw [hl]; exact Nat.mul_pos (by omega) hsz
    obtain ⟨ad, rfl, _⟩ := hn 0 news[0] (by simp)
    have hn' : ∀ j x, news[j]? = some x → w.cell? (ad.add j) = some x := fun j x hj => by
      obtain ⟨ad', e, h⟩ := hn j x hj
      cases e; exact h
    obtain ⟨v', w', hr, h2, h3, h4⟩ := run_append_own (P := P) w 0 t ty e i z i.size i.bytes ht hii hz rfl rfl hzs hsz v m xs hown ad cnt c news hl hn' h1 h63 hb (Nat.zero_le _)
    refine ⟨v', w', hr, h2, Chg.of_grownBy h3, fun b hb' => ⟨?_, ownsRow_block h2 hb'⟩, by simpa [h0] using h4⟩
    rcases hown.2 with ⟨rfl, rfl⟩ | ⟨g, cap, cur, rfl, hbg, hg, hnc, hcm, hcs, htake⟩
    · have hx : xs = [] := List.eq_nil_of_length_eq_zero (by simpa using hown.1)
      have hr' := run_append_nil (P := P) w t ty e i z ht hii hz ad cnt c news hl hn' (by omega) (by simp only [maxLen] at h63; omega) (by simp only [Nat.zero_add] at hb; omega)
      rw [hr] at hr'
      cases hr'
      right
      simp only [Value.ownBlock, Option.some.injEq] at hb'
      omega
    · by_cases hroom : m + cnt ≤ cap
      · have hfit : m * i.size + news.length ≤ cur.size := by rw [hl, hcs, ← Nat.add_mul]; exact Nat.mul_le_mul_right _ hroom
        have hr' := run_append_room (P := P) w t ty e i ht hii g m cap cur hg ad cnt c news hl hn' h1 hroom hfit
        rw [hr] at hr'
        cases hr'
        left
        simpa [Value.ownBlock] using hb'
      · have holds : ∀ j u, xs[j]? = some u → w.cell? ((⟨g, 0, none⟩ : Addr).add j) = some u := hown.cells (g := g) rfl
        have hr' := run_append_grow (P := P) w t ty e i z ht hii hz ⟨g, 0, none⟩ m cap xs hown.1 holds ad cnt c news hl hn' (by omega) (by simp only [maxLen] at h63; omega) (growslice_fits (by omega) hb)
        rw [hr] at hr'
        cases hr'
        right
        simp only [Value.ownBlock, Option.some.injEq] at hb'
        omega
section
variable {r : Option Nat} {P : Program} {ops : Array Oper} {Q : Exit → Act → World → Prop} {rest : List Oper} {n : Nat} {s : List (Nat × Value)} {ds : List Deferred} {w : World}
variable {d : Nat} {ty : TypeId} {pos : String} {af : Array Edge} {g : Option (Nat × Bool)} {v u : Value} {x y : Operand} {bs : List (World × List Nat)} {L L' : List Res} {t e : TypeId} {sz by_ m cnt : Nat} {z : Value} {xs news : List Value}
theorem apd (i : Nat) (hg : takenB ops n s g = true) (hx : ev n s x = v) (hy : ev n s y = u) (ht : P.underlying t = some (.slice e)) (hi : TI P e sz by_ z) (hzs : z.cells.size = sz) (hsz : 0 < sz)
    (hst : St bs L w) (hL : L[i]? = some (row v e sz m xs)) (hs : Src w u sz cnt news) (h1 : ∀ x ∈ news, x.oneCell' = true) (hb : (m + cnt) * by_ ≤ 140737488355328) (h63 : m + cnt ≤ maxLen)
    (K : ∀ v' w', St bs (L.set i (row v' e sz (m + cnt) (xs ++ news))) w' → Chg v.ownBlock.toList w w' → WL r P ops Q rest (Fr n ((d, v') :: s) ds) w') :
    WL r P ops Q (⟨some d, .call ⟨.builtin .append, #[x, y], #[t, t]⟩, ty, pos, af, g⟩ :: rest) (Fr n s ds) w := by
  have hown : w.ownsRow 0 e sz v m xs := hst.own _ (List.mem_of_getElem? hL)
  obtain ⟨v', w', hr, h2, h3, h4, _⟩ := run_append_row (ty := ty) ht hi hzs hsz hown hs h1 hb h63
  refine pv hg rfl (v := v') (w' := w') (by simp only [execOp, resolve, invoke, builtin, Sem.run_bind, Sem.run_pure, Result.andThen_ok, List.map_toArray, List.map_cons, List.map_nil, hx, hy, hr]) (K v' w' ?_ h3)
  refine hst.upd hL h3 (fun b hb' => ?_) ?_ (fun b hb' => ?_) h2
  · simp only [row, Option.mem_toList] at hb'
    rcases (h4 b hb').1 with h | h
    · exact .inl (by simp [row, h])
    · exact .inr h
  · show v'.ownBlock.toList.Nodup
    cases v'.ownBlock <;> simp
  · simp only [row, Option.mem_toList] at hb'
    exact (h4 b hb').2
theorem lenR (i : Nat) (hg : takenB ops n s g = true) (hx : ev n s x = v) (ht : P.underlying t = some (.slice e)) (hst : St bs L w) (hL : L[i]? = some (row v e sz m xs))
    (K : WL r P ops Q rest (Fr n ((d, .int .i64 m) :: s) ds) w) : WL r P ops Q (⟨some d, .call ⟨.builtin .len, #[x], #[t]⟩, ty, pos, af, g⟩ :: rest) (Fr n s ds) w := by
  have hown : w.ownsRow 0 e sz v m xs := hst.own _ (List.mem_of_getElem? hL)
  rcases hown.2 with ⟨rfl, rfl⟩ | ⟨g', cap, cur, rfl, _⟩
  · exact lenS hg hx ht K
  · exact lenS hg hx ht K
theorem lenI {α : Type} {enc : World → α → List Value → Prop} {ok : Nat → Prop} {w0 : World} {ys : List α} (hg : takenB ops n s g = true) (hx : ev n s x = v) (ht : P.underlying t = some (.slice e)) (hI : Sl sz enc ok w0 v ys)
    (K : WL r P ops Q rest (Fr n ((d, .int .i64 ys.length) :: s) ds) w) : WL r P ops Q (⟨some d, .call ⟨.builtin .len, #[x], #[t]⟩, ty, pos, af, g⟩ :: rest) (Fr n s ds) w := by
  obtain ⟨a, c, rfl, _⟩ := hI
  exact lenS hg hx ht K
theorem ixI {k k' : IntKind} {ok : Nat → Prop} {ys : List Int} {i : Int} {el : Int} (hg : takenB ops n s g = true) (hx : ev n s x = v) (hy : ev n s y = .int k' i) (ht : P.underlying t = some (.slice e)) (hi : TI P e 1 by_ z)
    (hI : Ints k ok w v ys) (h0 : 0 ≤ i) (hel : ys[i.toNat]? = some el)
    (K : ∀ b o, w.cell? ⟨b, o, none⟩ = some (.int k el) → InK k el → ok b → WL r P ops Q rest (Fr n ((d, .pointer (some ⟨b, o, none⟩)) :: s) ds) w) :
    WL r P ops Q (⟨some d, .indexAddr t x y, ty, pos, af, g⟩ :: rest) (Fr n s ds) w := by
  have hlt := (List.getElem?_eq_some_iff.1 hel).1
  obtain ⟨a, c, rfl, _, _, h3⟩ := hI
  obtain ⟨b, o, vs, rfl, hob, hl, ⟨rfl, hin⟩, hc⟩ := h3 i.toNat el hel
  refine ixa hg hx hy ht hi ⟨h0, by omega⟩ rfl (K b _ ?_ hin hob)
  have := hc 0 (.int k el) (by simp)
  simpa using this
theorem slI {α : Type} {enc : World → α → List Value → Prop} {ok : Nat → Prop} {w0 : World} {ys : List α} {low high : Option Operand} {l h : Nat} (hg : takenB ops n s g = true) (hx : ev n s x = v) (ht : P.underlying t = some (.slice e)) (hi : TI P e sz by_ z)
    (hI : Sl sz enc ok w0 v ys) (hlo : match low with | none => l = 0 | some p => ∃ k, ev n s p = .int k (l : Int)) (hhi : match high with | none => h = ys.length | some p => ∃ k, ev n s p = .int k (h : Int)) (hlh : l ≤ h) (hh : h ≤ ys.length)
    (K : ∀ v', Sl sz enc ok w0 v' ((ys.take h).drop l) → WL r P ops Q rest (Fr n ((d, v') :: s) ds) w) :
    WL r P ops Q (⟨some d, .slice t x low high none, ty, pos, af, g⟩ :: rest) (Fr n s ds) w := by
  obtain ⟨a, c, rfl, h1, h2, h3⟩ := hI
  have hI : Sl sz enc ok w0 (.slice a ys.length c) ys := ⟨a, c, rfl, h1, h2, h3⟩
  refine pv hg rfl (w' := w) ?_ (K _ (hI.cut hlh hh))
  have b1 : ∀ (m : Nat) (code : BoundsCode) (k : IntKind) (q : Nat), q ≤ m → (Instr.sliceBound (.int k (q : Int)) m code).run P w = .ok q w := by
    intro m code k q hq
    have : (0 : Int) ≤ (q : Int) ∧ (q : Int) ≤ (m : Int) := by omega
    simp [Instr.sliceBound, asIntOf, this]
  have hc : h ≤ c := by omega
  have hlc : l ≤ ys.length := by omega
  cases low with
  | none =>
    simp only at hlo
    subst hlo
    cases high with
    | none =>
      simp only at hhi
      subst hhi
      simp [execOp, hx, Instr.sliceAt, Instr.slice, run_underlying ht, Instr.sliceBounds, hi.size]
    | some p =>
      obtain ⟨k, hp⟩ := hhi
      simp [execOp, hx, hp, Instr.sliceAt, Instr.slice, run_underlying ht, Instr.sliceBounds, hi.size, b1 _ _ _ _ hc]
  | some q =>
    obtain ⟨k, hq⟩ := hlo
    cases high with
    | none =>
      simp only at hhi
      subst hhi
      simp [execOp, hx, hq, Instr.sliceAt, Instr.slice, run_underlying ht, Instr.sliceBounds, hi.size, b1 _ _ _ _ hlc]
    | some p =>
      obtain ⟨k', hp⟩ := hhi
      simp [execOp, hx, hq, hp, Instr.sliceAt, Instr.slice, run_underlying ht, Instr.sliceBounds, hi.size, b1 _ _ _ _ hc, b1 _ _ _ _ hlh]
end
end Go.Sx
namespace Go.Sx
open Go
def slS (S : Nat → Bool) : Nat → List Oper → List Value → List (Nat × Value) → List (Nat × Value)
  | i, o :: l, v :: vs, s => slS S (i + 1) l vs (bif S i then putR o.dst v s else s)
  | _, _, _, s => s
def lastW (S : Nat → Bool) (t : Nat) : Nat → List Oper → List Value → Option Value
  | i, o :: l, v :: vs => match lastW S t (i + 1) l vs with
    | some u => some u
    | none => bif S i && (o.dst == some t) then some v else none
  | _, _, _ => none
theorem look_putR (d : Option Nat) (v : Value) (s : List (Nat × Value)) (t : Nat) : look (putR d v s) t = if d = some t then v else look s t := by
  cases d with
  | none => simp [putR]
  | some i => simp only [putR, look_cons, Option.some.injEq]
theorem look_slS (S : Nat → Bool) (t : Nat) (l : List Oper) : ∀ (i : Nat) (vs : List Value) (s : List (Nat × Value)), look (slS S i l vs s) t = (lastW S t i l vs).getD (look s t) := by
  induction l with
  | nil => intro i vs s; cases vs <;> simp [slS, lastW]
  | cons o l ih =>
    intro i vs s
    cases vs with
    | nil => simp [slS, lastW]
    | cons v vs =>
      simp only [slS, lastW]
      rw [ih]
      cases lastW S t (i + 1) l vs with
      | some u => rfl
      | none =>
        simp only [Option.getD_none]
        cases hS : S i with
        | false => simp
        | true =>
          simp only [cond_true, Bool.true_and, look_putR]
          by_cases hd : o.dst = some t
          · simp [hd]
          · have : (o.dst == some t) = false := by simpa using hd
            simp [hd, this]
theorem lastW_congr {S S' : Nat → Bool} {t : Nat} (l : List Oper) : ∀ (i : Nat) (vs vs' : List Value), vs.length = vs'.length →
    (∀ j o, l[j]? = some o → o.dst = some t → S (i + j) = S' (i + j) ∧ (S (i + j) = true → vs[j]? = vs'[j]?)) → lastW S t i l vs = lastW S' t i l vs' := by
  induction l with
  | nil => intro i vs vs' _ _; cases vs <;> cases vs' <;> simp [lastW]
  | cons o l ih =>
    intro i vs vs' hl h
    cases vs with
    | nil =>
      cases vs' with
      | nil => simp [lastW]
      | cons v' vs' => simp at hl
    | cons v vs =>
      cases vs' with
      | nil => simp at hl
      | cons v' vs' =>
        simp only [lastW]
        rw [ih (i + 1) vs vs' (by simpa using hl) (fun j o' hj hd => by
          have := h (j + 1) o' (by simpa using hj) hd
          rw [show i + 1 + j = i + (j + 1) by omega]
          simpa using this)]
        cases lastW S' t (i + 1) l vs' with
        | some u => rfl
        | none =>
          simp only
          by_cases hd : o.dst = some t
          · have := h 0 o rfl hd
            simp only [Nat.add_zero] at this
            obtain ⟨h1, h2⟩ := this
            rw [h1] at h2
            cases hS : S' i with
            | false => simp [h1, hS]
            | true => have h3 := h2 hS; simp at h3; simp [h1, hS, h3]
          · have : (o.dst == some t) = false := by simpa using hd
            simp [this]
theorem lastW_none {S : Nat → Bool} {t : Nat} (l : List Oper) : ∀ (i : Nat) (vs : List Value), (∀ j o, l[j]? = some o → o.dst = some t → S (i + j) = false) → lastW S t i l vs = none := by
  induction l with
  | nil => intro i vs _; cases vs <;> simp [lastW]
  | cons o l ih =>
    intro i vs h
    cases vs with
    | nil => simp [lastW]
    | cons v vs =>
      simp only [lastW]
      rw [ih (i + 1) vs (fun j o' hj hd => by rw [show i + 1 + j = i + (j + 1) by omega]; exact h (j + 1) o' (by simpa using hj) hd)]
      simp only
      by_cases hd : o.dst = some t
      · have := h 0 o rfl hd
        simp only [Nat.add_zero] at this
        simp [this]
      · have : (o.dst == some t) = false := by simpa using hd
        simp [this]
theorem lastW_at {S : Nat → Bool} {t : Nat} (l : List Oper) : ∀ (i k : Nat) (vs : List Value) (o : Oper) (v : Value), l[k]? = some o → o.dst = some t → vs[k]? = some v → S (i + k) = true →
    (∀ j o', k < j → l[j]? = some o' → o'.dst = some t → S (i + j) = false) → lastW S t i l vs = some v := by
  induction l with
  | nil => intro i k vs o v h; simp at h
  | cons o1 l ih =>
    intro i k vs o v ho hd hv hS hn
    cases vs with
    | nil => simp at hv
    | cons v1 vs =>
      simp only [lastW]
      cases k with
      | zero =>
        simp at ho hv
        subst ho hv
        rw [lastW_none l (i + 1) vs (fun j o' hj hd' => by rw [show i + 1 + j = i + (j + 1) by omega]; exact hn (j + 1) o' (by omega) (by simpa using hj) hd')]
        simp only [Nat.add_zero] at hS
        simp [hS, hd]
      | succ k =>
        rw [ih (i + 1) k vs o v (by simpa using ho) hd (by simpa using hv) (by rw [show i + 1 + k = i + (k + 1) by omega]; exact hS)
          (fun j o' hkj hj hd' => by rw [show i + 1 + j = i + (j + 1) by omega]; exact hn (j + 1) o' (by omega) (by simpa using hj) hd')]
def preOk (l : List Oper) (pre : List (List Nat)) : Bool :=
  (List.range l.length).all fun j => (pre.getD j []).all fun i => (l[j]?).any fun o => o.after.toList.any fun e => Region.binds .any e && decide (e.on < j) && (e.on == i || (pre.getD e.on []).contains i)
def touches (ops : Array Oper) (x y : Oper) : Bool :=
  match x.dst with
  | some d => (y.looksAt ops).contains d || y.dst == some d
  | none => false
def isSelect : Op → Bool
  | .select _ _ => true
  | _ => false
def regOk (l : List Oper) (pre : List (List Nat)) (mem : List Nat) : Bool :=
  preOk l pre &&
  (l.all fun o => !isSelect o.op) &&
  ((List.range l.length).all fun j => (l[j]?).all fun o => o.after.toList.all fun e => !Region.binds .any e || decide (e.on < j)) &&
  ((List.range l.length).all fun j => (List.range j).all fun i =>
    match l[i]?, l[j]? with
    | some x, some y => !(touches l.toArray x y || touches l.toArray y x || (mem.contains i && mem.contains j)) || (pre.getD j []).contains i
    | _, _ => true) &&
  (mem.all fun m => decide (m < l.length)) &&
  decide (mem.Pairwise (· < ·))
def loP (pre : List (List Nat)) (mem : List Nat) (i : Nat) : Nat := mem.countP fun m => (pre.getD i []).contains m
def hiP (pre : List (List Nat)) (mem : List Nat) (i : Nat) : Nat := mem.countP fun m => !(pre.getD m []).contains i
section
variable {Γ : Type} (P : Program) (ops : Array Oper) (Q : Exit → Act → World → Prop) (n : Nat) (ds : List Deferred) (s0 : List (Nat × Value))
def QOb (o : Oper) (s : List (Nat × Value)) (v : Value) (C : World → Prop) (w : World) : Prop :=
  (takenB ops n s o.guard = true ∧ notDefer o.op = true ∧ ((execOp (ev n s) o).run P w = .ok (.value v) w ∨ ∃ f args, (execOp (ev n s) o).run P w = .ok (.enter f args) w ∧ CR P f args w (fun v' w' => v' = v ∧ C w')))
  ∨ (takenB ops n s o.guard = false ∧ v = undef)
def MOb (l : List Oper) (o : Oper) (s : List (Nat × Value)) (Nx : Value → World → Prop) (w : World) : Prop :=
  (takenB ops n s o.guard = true ∧ notDefer o.op = true ∧ ((∃ v w', (execOp (ev n s) o).run P w = .ok (.value v) w' ∧ Nx v w') ∨ (∃ w', (execOp (ev n s) o).run P w = .ok .skip w' ∧ Nx undef w') ∨
    (∃ f args, (execOp (ev n s) o).run P w = .ok (.enter f args) w ∧ Calls P f args w (fun e w' => match e with
      | .returned v => Nx v w'
      | .panicked ch => ∀ s, (∀ t, (∀ o ∈ l, o.dst ≠ some t) → look s t = look s0 t) → Q (.panic ch) (Fr n s ds) w'
      | .outgrown => LetsOut Q))))
  ∨ (takenB ops n s o.guard = false ∧ Nx undef w)
def Stab (pre : List (List Nat)) (i : Nat) (g g' : Γ) : Nat → List (Γ → Value) → Prop
  | k, v :: vs => (bif (pre.getD k []).contains i || k == i then True else v g' = v g) ∧ Stab pre i g g' (k + 1) vs
  | _, [] => True
def Obl (l0 : List Oper) (pre : List (List Nat)) (mem : List Nat) (V : List (Γ → Value)) (M : Nat → Γ → World → Prop) : Nat → (Γ → List (Nat × Value)) → List Oper → List (Γ → Value) → Prop
  | i, s, o :: l, v :: vs =>
    (bif mem.contains i then ∀ g w, M (mem.idxOf i) g w → MOb P ops Q n ds s0 l0 o (s g) (fun v' w' => ∃ g', M (mem.idxOf i + 1) g' w' ∧ v' = v g' ∧ Stab pre i g g' 0 V) w
     else ∀ p g w, loP pre mem i ≤ p → p ≤ hiP pre mem i → M p g w → QOb P ops n o (s g) (v g) (M p g) w) ∧
    Obl l0 pre mem V M (i + 1) (fun g => putR o.dst (v g) (s g)) l vs
  | _, _, [], [] => True
  | _, _, _, _ => False
end
section
variable {Γ : Type} {r : Option Nat} {P : Program} {Q : Exit → Act → World → Prop} {n : Nat} {ds : List Deferred} {s0 : List (Nat × Value)} {l : List Oper} {pre : List (List Nat)} {mem : List Nat} {V : List (Γ → Value)} {M : Nat → Γ → World → Prop}
theorem Stab.get {i : Nat} {g g' : Γ} : ∀ (V : List (Γ → Value)) (b : Nat), Stab pre i g g' b V → ∀ k v, V[k]? = some v → ((pre.getD (b + k) []).contains i || (b + k) == i) = false → v g' = v g := by
  intro V
  induction V with
  | nil => intro b _ k v h; simp at h
  | cons v0 V ih =>
    intro b h k v hk hc
    cases k with
    | zero =>
      simp at hk
      subst hk
      have := h.1
      simp only [Nat.add_zero] at hc
      rw [hc] at this
      exact this
    | succ k => exact ih (b + 1) h.2 k v (by simpa using hk) (by rw [show b + 1 + k = b + (k + 1) by omega]; exact hc)
theorem Obl.get {l0 : List Oper} : ∀ (l : List Oper) (vs : List (Γ → Value)) (b : Nat) (s : Γ → List (Nat × Value)), Obl P l0.toArray Q n ds s0 l0 pre mem V M b s l vs → l.length = vs.length ∧
    ∀ k o, l[k]? = some o → ∃ v, vs[k]? = some v ∧
      (bif mem.contains (b + k) then ∀ g w, M (mem.idxOf (b + k)) g w → MOb P l0.toArray Q n ds s0 l0 o (slS (fun j => decide (j < b + k)) b l (vs.map (· g)) (s g)) (fun v' w' => ∃ g', M (mem.idxOf (b + k) + 1) g' w' ∧ v' = v g' ∧ Stab pre (b + k) g g' 0 V) w
       else ∀ p g w, loP pre mem (b + k) ≤ p → p ≤ hiP pre mem (b + k) → M p g w → QOb P l0.toArray n o (slS (fun j => decide (j < b + k)) b l (vs.map (· g)) (s g)) (v g) (M p g) w) := by
  intro l
  induction l with
  | nil => intro vs b s h; cases vs with | nil => exact ⟨rfl, fun k o hk => by simp at hk⟩ | cons v vs => exact h.elim
  | cons o l ih =>
    intro vs b s h
    cases vs with
    | nil => exact h.elim
    | cons v vs =>
      obtain ⟨h1, h2⟩ := h
      obtain ⟨e, h3⟩ := ih vs (b + 1) _ h2
      refine ⟨by simp [e], fun k o' hk => ?_⟩
      cases k with
      | zero =>
        simp at hk
        subst hk
        refine ⟨v, rfl, ?_⟩
        have hs : ∀ g, slS (fun j => decide (j < b + 0)) b (o :: l) ((v :: vs).map (· g)) (s g) = s g := by
          intro g
          have key : ∀ (l : List Oper) (us : List Value) (i : Nat) (s : List (Nat × Value)), b ≤ i → slS (fun j => decide (j < b + 0)) i l us s = s := by
            intro l
            induction l with
            | nil => intro us i s _; cases us <;> rfl
            | cons o l ih => intro us i s hi; cases us with | nil => rfl | cons u us => simp only [slS]; rw [show decide (i < b + 0) = false by simp; omega]; exact ih us (i + 1) s (by omega)
          exact key _ _ _ _ (Nat.le_refl _)
        simp only [hs]
        exact h1
      | succ k =>
        obtain ⟨v', hv', h4⟩ := h3 k o' (by simpa using hk)
        refine ⟨v', by simpa using hv', ?_⟩
        rw [show b + 1 + k = b + (k + 1) by omega] at h4
        have hs : ∀ g, slS (fun j => decide (j < b + (k + 1))) b (o :: l) ((v :: vs).map (· g)) (s g) = slS (fun j => decide (j < b + (k + 1))) (b + 1) l (vs.map (· g)) (putR o.dst (v g) (s g)) := by
          intro g
          simp only [List.map_cons, slS]
          rw [show decide (b < b + (k + 1)) = true by simp]
          rfl
        simp only [hs]
        exact h4
structure Down (l : List Oper) (S : Nat → Bool) : Prop where
  closed : ∀ j o, l[j]? = some o → S j = true → ∀ e ∈ o.after, Region.binds .any e = true → S e.on = true
theorem pre_sound {S : Nat → Bool} (hp : preOk l pre = true) (hd : Down l S) : ∀ j, S j = true → j < l.length → ∀ i, (pre.getD j []).contains i = true → S i = true := by
  intro j
  induction j using Nat.strongRecOn with
  | _ j ih =>
    intro hS hj i hi
    have h1 := List.all_eq_true.1 hp j (List.mem_range.2 hj)
    have h2 := List.all_eq_true.1 h1 i (by simpa using hi)
    rw [List.getElem?_eq_getElem hj] at h2
    simp only [Option.any_some, List.any_eq_true, Bool.and_eq_true, decide_eq_true_eq, Bool.or_eq_true, beq_iff_eq] at h2
    obtain ⟨e, he, ⟨hb, hlt⟩, h3⟩ := h2
    have hSe := hd.closed j _ (List.getElem?_eq_getElem hj) hS e (by simpa using he) hb
    rcases h3 with rfl | h3
    · exact hSe
    · exact ih e.on hlt hSe (by omega) i (by simpa using h3)
theorem countP_split {S : Nat → Bool} {i : Nat} : ∀ (mem : List Nat), mem.Pairwise (· < ·) → i ∈ mem → (∀ m ∈ mem, m < i → S m = true) → S i = false → (∀ m ∈ mem, i < m → S m = false) →
    mem.countP S = mem.idxOf i ∧ mem.countP (fun j => S j || j == i) = mem.idxOf i + 1 := by
  intro mem
  induction mem with
  | nil => intro _ h; simp at h
  | cons m mem ih =>
    intro hp hi h1 h2 h3
    rw [List.pairwise_cons] at hp
    by_cases e : m = i
    · subst e
      have hz : ∀ x ∈ mem, S x = false := fun x hx => h3 x (by simp [hx]) (hp.1 x hx)
      have hz' : ∀ x ∈ mem, (S x || x == m) = false := fun x hx => by
        have := hp.1 x hx
        simp [hz x hx]; omega
      rw [List.countP_cons, List.countP_cons, List.countP_eq_zero.2 (fun x hx => by simp [hz x hx]), List.countP_eq_zero.2 (fun x hx => by rw [hz' x hx]; simp)]
      simp [h2]
    · have hmem : i ∈ mem := by simpa [Ne.symm e] using hi
      have hlt := hp.1 i hmem
      obtain ⟨a, b⟩ := ih hp.2 hmem (fun x hx => h1 x (by simp [hx])) h2 (fun x hx => h3 x (by simp [hx]))
      have hm := h1 m (by simp) hlt
      rw [List.countP_cons, List.countP_cons, a, b, List.idxOf_cons]
      have : (m == i) = false := by simpa using e
      simp [hm, this]
theorem getD_set (listed : Array Bool) (i j : Nat) (hi : i < listed.size) : (listed.setIfInBounds i true).getD j false = (listed.getD j false || j == i) := by
  by_cases h : i = j
  · subst h; simp [hi]
  · have h' : (j == i) = false := by simpa using Ne.symm h
    simp [h', Array.getElem?_setIfInBounds_ne h]
theorem getD_rep (m j : Nat) : (Array.replicate m false).getD j false = false := by
  rcases Nat.lt_or_ge j m with h | h
  · simp [h]
  · simp [h]
theorem rgd {id : Nat} {w : World} (hm : P.follows .mixedOrders = true) (pre : List (List Nat)) (mem : List Nat) (hok : regOk l pre mem = true) (V : List (Γ → Value)) (M : Nat → Γ → World → Prop) (g0 : Γ) (sE : Γ → List (Nat × Value))
    (h0 : M 0 g0 w.drew) (hO : Obl P l.toArray Q n ds s0 l pre mem V M 0 (fun _ => s0) l V) (hE : ∀ g, slS (fun _ => true) 0 l (V.map (· g)) s0 = sE g)
    (hend : ∀ g w', M mem.length g w' → Q .normal (Fr n (sE g) ds) w') : WP r P (.region id l.toArray true) Q (Fr n s0 ds) w := by
  simp only [regOk, Bool.and_eq_true] at hok
  obtain ⟨⟨⟨⟨⟨hpre, hsel⟩, hacy⟩, hconf⟩, hmlt⟩, hpw⟩ := hok
  have hpw := of_decide_eq_true hpw
  obtain ⟨hlen, hget⟩ := Obl.get (l0 := l) l V 0 (fun _ => s0) hO
  simp only [Nat.zero_add] at hget
  -- conflicts are ordered
  have conf : ∀ i j x y, l[i]? = some x → l[j]? = some y → i < j → (touches l.toArray x y = true ∨ touches l.toArray y x = true ∨ (i ∈ mem ∧ j ∈ mem)) → (pre.getD j []).contains i = true := by
    intro i j x y hx hy hij h
    have hj : j < l.length := (List.getElem?_eq_some_iff.1 hy).1
    have h1 := List.all_eq_true.1 (List.all_eq_true.1 hconf j (List.mem_range.2 hj)) i (List.mem_range.2 hij)
    simp only [hx, hy] at h1
    rcases Bool.or_eq_true_iff.1 h1 with h2 | h2
    · exfalso
      have h3 : (touches l.toArray x y || touches l.toArray y x || (mem.contains i && mem.contains j)) = true := by
        rcases h with h | h | ⟨h, h'⟩ <;> simp [h]
        simp [h']
      rw [h3] at h2
      cases h2
    · exact h2
  refine wpIn_region_any hm ?_
  have hsz : l.toArray.size = l.length := by simp
  -- the invariant
  let Sof : Array Bool → Nat → Bool := fun listed i => listed.getD i false
  have main : ∀ (fuel : Nat) (listed : Array Bool) (g : Γ) (w : World), listed.size = l.length → listed.toList.countP (! ·) ≤ fuel → Down l (Sof listed) → M (mem.countP (Sof listed)) g w →
      wpAnyIn (FW r) 0 P .any l.toArray Q fuel listed (Fr n (slS (Sof listed) 0 l (V.map (· g)) s0) ds) w := by
    intro fuel
    have fin : ∀ (listed : Array Bool) (g : Γ) (w : World), listed.size = l.length → (∀ i, i < l.length → Sof listed i = true) → M (mem.countP (Sof listed)) g w → Q .normal (Fr n (slS (Sof listed) 0 l (V.map (· g)) s0) ds) w := by
      intro listed g w hs hall hM
      have e1 : mem.countP (Sof listed) = mem.length := List.countP_eq_length.2 fun m hm' => hall m (by simpa using of_decide_eq_true (List.all_eq_true.1 hmlt m hm'))
      rw [e1] at hM
      have e2 : Fr n (slS (Sof listed) 0 l (V.map (· g)) s0) ds = Fr n (sE g) ds := by
        rw [← hE g]
        refine Fr_ext ds fun t => ?_
        rw [look_slS, look_slS]
        congr 1
        refine lastW_congr l 0 _ _ rfl fun j o hj _ => ⟨?_, fun _ => rfl⟩
        rw [Nat.zero_add]
        exact hall j (List.getElem?_eq_some_iff.1 hj).1
      rw [e2]
      exact hend g w hM
    have allOf : ∀ (listed : Array Bool), listed.size = l.length → Region.ready .any l.toArray listed = [] → ∀ i, i < l.length → Sof listed i = true := by
      intro listed hs hr i
      induction i using Nat.strongRecOn with
      | _ i ih =>
        intro hi
        cases hc : Sof listed i with
        | true => rfl
        | false =>
          exfalso
          have : i ∈ Region.ready .any l.toArray listed := by
            rw [mem_ready]
            refine ⟨?_, l[i], by simp [hi], fun e he hb => ?_⟩
            · have : i < listed.size := by omega
              simp only [Sof] at hc
              simp [this] at hc ⊢
              exact hc
            · have h1 := List.all_eq_true.1 hacy i (List.mem_range.2 hi)
              rw [List.getElem?_eq_getElem hi] at h1
              simp only [Option.all_some, List.all_eq_true] at h1
              have h2 := h1 e (by simpa using he)
              rw [hb, Bool.not_true, Bool.false_or, decide_eq_true_eq] at h2
              exact ih e.on h2 (by omega)
          rw [hr] at this
          cases this
    induction fuel with
    | zero =>
      intro listed g w hs hc hd hM
      have hz : ∀ x ∈ listed.toList, x = true := by
        intro x hx
        have := List.countP_eq_zero.1 (Nat.le_zero.1 hc) x hx
        simpa using this
      have hall : ∀ i, i < l.length → Sof listed i = true := by
        intro i hi
        have hi' : i < listed.size := by omega
        simp only [Sof]
        simp [hi']
        exact hz _ (by simp)
      refine ⟨?_, fin listed g w hs hall hM⟩
      cases hr : Region.ready .any l.toArray listed with
      | nil => rfl
      | cons i rs =>
        have : i ∈ Region.ready .any l.toArray listed := by rw [hr]; simp
        rw [mem_ready] at this
        obtain ⟨h1, o, ho, _⟩ := this
        have hi : i < l.length := by simpa using (Array.getElem?_eq_some_iff.1 ho).1
        have := hall i hi
        simp only [Sof] at this
        have hi' : i < listed.size := by omega
        simp [hi'] at h1 this
        rw [h1] at this
        cases this
    | succ fuel ih =>
      intro listed g w hs hc hd hM
      refine ⟨fun hr => fin listed g w hs (allOf listed hs hr) hM, fun i hi => ?_⟩
      obtain ⟨hun, o, ho, hed⟩ := mem_ready.1 hi
      have ho' : l[i]? = some o := by simpa using ho
      have hil : i < l.length := (List.getElem?_eq_some_iff.1 ho').1
      have hil' : i < listed.size := by omega
      have hSi : Sof listed i = false := by
        simp only [Sof]; simp [hil'] at hun ⊢; exact hun
      -- the set behind it
      let S := Sof listed
      let S' := Sof (listed.setIfInBounds i true)
      have hSi : S i = false := hSi
      have hd : Down l S := hd
      have hS' : ∀ j, S' j = (S j || j == i) := fun j => getD_set listed i j hil'
      have hd' : Down l S' := ⟨fun j oj hj hSj e he hb => by
        rw [hS'] at hSj ⊢
        rcases Bool.or_eq_true_iff.1 hSj with h | h
        · rw [show S e.on = true from hd.closed j oj hj h e he hb]; rfl
        · have : j = i := by simpa using h
          subst this
          have : oj = o := Option.some.inj (hj.symm.trans ho')
          subst this
          rw [show S e.on = true from hed e he hb]; rfl⟩
      have hps := fun j => pre_sound (S := S) hpre hd j
      have hps' := fun j => pre_sound (S := S') hpre hd' j
      -- what waits for i has not come up
      have notYet : ∀ k, k < l.length → (pre.getD k []).contains i = true → S k = false := by
        intro k hk hki
        cases hSk : S k with
        | false => rfl
        | true => have := hps k hSk hk i hki; rw [hSi] at this; cases this
      -- what i waits for has
      have already : ∀ k, (pre.getD i []).contains k = true → S k = true := by
        intro k hk
        have h1 := hps' i (by rw [hS']; simp) hil k hk
        rw [hS'] at h1
        rcases Bool.or_eq_true_iff.1 h1 with h | h
        · exact h
        · exfalso
          have e : k = i := by simpa using h
          subst e
          have := notYet k hil hk
          -- k is in its own list: then it has come up before itself
          have h2 := List.all_eq_true.1 (List.all_eq_true.1 hpre k (List.mem_range.2 hil)) k (by simpa using hk)
          rw [List.getElem?_eq_getElem hil] at h2
          simp only [Option.any_some, List.any_eq_true, Bool.and_eq_true, decide_eq_true_eq, Bool.or_eq_true, beq_iff_eq] at h2
          obtain ⟨e, he, ⟨hb, hlt⟩, h3⟩ := h2
          have hSe : S e.on = true := by
            have : l[k] = o := by rw [List.getElem?_eq_getElem hil] at ho'; exact Option.some.inj ho'
            rw [this] at he
            exact hed e (by simpa using he) hb
          rcases h3 with h3 | h3
          · omega
          · have := hps e.on hSe (by omega) k (by simpa using h3)
            rw [hSi] at this; cases this
      -- the slots that it looks at hold what they hold in the order of the text
      have agree : ∀ t, t ∈ o.looksAt l.toArray → look (slS S 0 l (V.map (· g)) s0) t = look (slS (fun j => decide (j < i)) 0 l (V.map (· g)) s0) t := by
        intro t ht
        rw [look_slS, look_slS]
        congr 1
        refine lastW_congr l 0 _ _ rfl fun j oj hj hdj => ⟨?_, fun _ => rfl⟩
        rw [Nat.zero_add]
        have htou : touches l.toArray oj o = true := by simp [touches, hdj, ht]
        rcases Nat.lt_trichotomy j i with h | h | h
        · simp [h, already j (conf j i oj o hj ho' h (.inl htou))]
        · subst h; simp [hSi, S]
        · have := notYet j (List.getElem?_eq_some_iff.1 hj).1 (conf i j o oj ho' hj h (.inr (.inl htou)))
          simp [this]; omega
      have hev : execOp (ev n (slS S 0 l (V.map (· g)) s0)) o = execOp (ev n (slS (fun j => decide (j < i)) 0 l (V.map (· g)) s0)) o := by
        refine execOp_congr o (fun cs b e => ?_) fun x hx => ?_
        · have := List.all_eq_true.1 hsel o (List.mem_of_getElem? ho')
          rw [e] at this
          simp [isSelect] at this
        · cases x with
          | tmp t =>
            simp only [ev]
            rw [agree t (List.mem_append_left _ (List.mem_filterMap.2 ⟨.tmp t, by simpa using hx, rfl⟩))]
          | _ => rfl
      have htk : takenB l.toArray n (slS S 0 l (V.map (· g)) s0) o.guard = takenB l.toArray n (slS (fun j => decide (j < i)) 0 l (V.map (· g)) s0) o.guard := by
        cases hg : o.guard with
        | none => rfl
        | some gd =>
          obtain ⟨jg, want⟩ := gd
          simp only [takenB]
          have e : dstAt l.toArray.toList jg = (l.toArray[jg]?).bind (·.dst) := by rw [dstAt_eq]; simp
          rw [e]
          cases hdg : (l.toArray[jg]?).bind (·.dst) with
          | none => rfl
          | some d =>
            simp only [ev]
            rw [agree d (List.mem_append_right _ (by rw [hg]; simp only; rw [hdg]; simp))]
      -- the frame behind it
      have hcnt : (listed.setIfInBounds i true).toList.countP (! ·) ≤ fuel := by
        have : (listed.setIfInBounds i true).toList.countP (! ·) + 1 ≤ listed.toList.countP (! ·) := by
          rw [Array.toList_setIfInBounds]
          have hil2 : i < listed.toList.length := by simpa using hil'
          have hfalse : listed.toList[i] = false := by simp [hil'] at hun; simpa using hun
          have e := List.take_append_drop i listed.toList
          have e2 : listed.toList = listed.toList.take i ++ false :: listed.toList.drop (i + 1) := by
            conv => lhs; rw [← e, List.drop_eq_getElem_cons hil2, hfalse]
          have e3 : listed.toList.set i true = listed.toList.take i ++ true :: listed.toList.drop (i + 1) := by
            rw [List.set_eq_take_append_cons_drop, if_pos hil2]
          rw [e3]
          conv => rhs; rw [e2]
          simp [List.countP_append, List.countP_cons]
          omega
        omega
      have frame : ∀ (g' : Γ) (v : Γ → Value), V[i]? = some v → (∀ k u, V[k]? = some u → S k = true → u g' = u g) →
          (Fr n (slS S 0 l (V.map (· g)) s0) ds).put o.dst (v g') = Fr n (slS S' 0 l (V.map (· g')) s0) ds := by
        intro g' v hv hst
        rw [Fr_putR]
        refine Fr_ext ds fun t => ?_
        rw [look_putR, look_slS, look_slS]
        by_cases hdt : o.dst = some t
        · rw [if_pos hdt]
          have : lastW S' t 0 l (V.map (· g')) = some (v g') := by
            refine lastW_at l 0 i _ o (v g') ho' hdt (by simp [hv]) (by rw [Nat.zero_add, hS']; simp) fun j oj hij hj hdj => ?_
            rw [Nat.zero_add, hS']
            have hto : touches l.toArray o oj = true := by simp [touches, hdt, hdj]
            have := notYet j (List.getElem?_eq_some_iff.1 hj).1 (conf i j o oj ho' hj hij (.inl hto))
            simp [this]; omega
          rw [this]; rfl
        · rw [if_neg hdt]
          congr 1
          refine lastW_congr l 0 _ _ (by simp) fun j oj hj hdj => ?_
          rw [Nat.zero_add, hS']
          have hji : ¬ j = i := by
            rintro rfl
            have : oj = o := Option.some.inj (hj.symm.trans ho')
            subst this
            exact hdt hdj
          refine ⟨by simp [hji], fun hSj => ?_⟩
          have hjl : j < V.length := by have := (List.getElem?_eq_some_iff.1 hj).1; omega
          simp only [List.getElem?_map, List.getElem?_eq_getElem hjl, Option.map_some]
          rw [hst j _ (List.getElem?_eq_getElem hjl) hSj]
      obtain ⟨v, hv, hob⟩ := hget i o ho'
      unfold wpOpIn
      rw [ho]
      simp only
      by_cases himem : i ∈ mem
      · -- an operation on memory
        have hcon : mem.contains i = true := by simpa using himem
        rw [hcon] at hob
        have hord : ∀ m ∈ mem, (m < i → S m = true) ∧ (i < m → S m = false) := by
          intro m hm'
          have hml : m < l.length := of_decide_eq_true (List.all_eq_true.1 hmlt m hm')
          exact ⟨fun h => already m (conf m i _ o (List.getElem?_eq_getElem hml) ho' h (.inr (.inr ⟨hm', himem⟩))),
            fun h => notYet m hml (conf i m o _ ho' (List.getElem?_eq_getElem hml) h (.inr (.inr ⟨himem, hm'⟩)))⟩
        obtain ⟨c1, c2⟩ := countP_split (S := S) mem hpw himem (fun m hm' h => (hord m hm').1 h) hSi (fun m hm' h => (hord m hm').2 h)
        have c2' : mem.countP S' = mem.idxOf i + 1 := by rw [← c2]; exact List.countP_congr fun j _ => by rw [hS']
        have hM' : M (mem.idxOf i) g w := by rw [← c1]; exact hM
        have next : ∀ v' w', (∃ g', M (mem.idxOf i + 1) g' w' ∧ v' = v g' ∧ Stab pre i g g' 0 V) →
            wpAnyIn (FW r) 0 P .any l.toArray Q fuel (listed.setIfInBounds i true) ((Fr n (slS S 0 l (V.map (· g)) s0) ds).put o.dst v') w' := by
          rintro v' w' ⟨g', hM2, rfl, hstab⟩
          have := ih (listed.setIfInBounds i true) g' w' (by simpa using hs) hcnt hd' (by rw [show mem.countP (Sof (listed.setIfInBounds i true)) = mem.idxOf i + 1 from c2']; exact hM2)
          rw [frame g' v hv ?_]
          · exact this
          · intro k u hk hSk
            refine Stab.get V 0 hstab k u hk ?_
            rw [Nat.zero_add]
            have hkl : k < l.length := by have := (List.getElem?_eq_some_iff.1 hk).1; omega
            have h1 : (pre.getD k []).contains i = false := by
              cases h : (pre.getD k []).contains i with
              | false => rfl
              | true => have := notYet k hkl h; rw [hSk] at this; cases this
            have h2 : ¬ k = i := by rintro rfl; rw [hSi] at hSk; cases hSk
            rw [h1]; simp [h2]
        rcases hob g w hM' with ⟨ht, hnd, hcase⟩ | ⟨ht, hN⟩
        · rw [wanted_takenB, htk, ht, if_pos rfl]
          refine ⟨fun _ _ => trivial, ?_⟩
          rw [semAt_eq (notDefer_ne hnd), Fr_eval', hev]
          rcases hcase with ⟨v', w', hr, hN⟩ | ⟨w', hr, hN⟩ | ⟨f, args, hr, hC⟩
          · rw [hr]; exact next v' w' hN
          · rw [hr]; exact next undef w' hN
          · rw [hr]
            refine ⟨fun h => by simp [FW] at h, callsIn_FW.2 (Calls.mono hC ?_)⟩
            intro e w' he
            cases e with
            | returned v' => exact next v' w' he
            | panicked ch =>
              refine he _ fun t ht' => ?_
              rw [look_slS, lastW_none l 0 _ (fun j oj hj hdj => absurd hdj (ht' oj (List.mem_of_getElem? hj)))]
              rfl
            | outgrown => exact he
        · rw [wanted_takenB, htk, ht]
          exact ⟨fun _ _ => trivial, next undef w hN⟩
      · have hcon : mem.contains i = false := by simpa using himem
        rw [hcon] at hob
        have hc' : mem.countP S' = mem.countP S := by
          refine List.countP_congr fun j hj => ?_
          rw [hS']
          have : ¬ j = i := by rintro rfl; exact himem hj
          simp [this]
        have hlo : loP pre mem i ≤ mem.countP S := List.countP_mono_left fun m _ h => already m h
        have hhi : mem.countP S ≤ hiP pre mem i := List.countP_mono_left fun m hm' h => by
          have hml : m < l.length := of_decide_eq_true (List.all_eq_true.1 hmlt m hm')
          cases h2 : (pre.getD m []).contains i with
          | false => rfl
          | true => have := notYet m hml h2; rw [h] at this; cases this
        have next : ∀ w', M (mem.countP S) g w' → wpAnyIn (FW r) 0 P .any l.toArray Q fuel (listed.setIfInBounds i true) ((Fr n (slS S 0 l (V.map (· g)) s0) ds).put o.dst (v g)) w' := by
          intro w' hM2
          have := ih (listed.setIfInBounds i true) g w' (by simpa using hs) hcnt hd' (by rw [show mem.countP (Sof (listed.setIfInBounds i true)) = mem.countP S from hc']; exact hM2)
          rw [frame g v hv (fun _ _ _ _ => rfl)]
          exact this
        rcases hob (mem.countP S) g w hlo hhi hM with ⟨ht, hnd, hcase⟩ | ⟨ht, hN⟩
        · rw [wanted_takenB, htk, ht, if_pos rfl]
          refine ⟨fun _ _ => trivial, ?_⟩
          rw [semAt_eq (notDefer_ne hnd), Fr_eval', hev]
          rcases hcase with hr | ⟨f, args, hr, hC⟩
          · rw [hr]; exact next w hM
          · rw [hr]
            refine ⟨fun h => by simp [FW] at h, callsIn_FW.2 (Calls.mono hC ?_)⟩
            rintro e w' ⟨v', rfl, rfl, hC'⟩
            exact next w' hC'
        · rw [wanted_takenB, htk, ht]
          exact ⟨fun _ _ => trivial, by rw [← hN]; exact next w hM⟩
  have e0 : Fr n s0 ds = Fr n (slS (Sof (Array.replicate l.toArray.size false)) 0 l (V.map (· g0)) s0) ds := by
    refine Fr_ext ds fun t => ?_
    rw [look_slS, lastW_none l 0 _ (fun j o _ _ => ?_)]
    · rfl
    · simp only [Sof]; exact getD_rep _ _
  have hz : mem.countP (Sof (Array.replicate l.toArray.size false)) = 0 := List.countP_eq_zero.2 fun j _ => by
    simp only [Sof]; rw [getD_rep]; simp
  rw [e0]
  refine main _ _ g0 _ (by simp) (Nat.le_trans List.countP_le_length (by simp)) ⟨fun j o _ h => ?_⟩ (by rw [hz]; exact h0)
  exfalso
  simp only [Sof] at h
  rw [getD_rep] at h
  cases h
end
end Go.Sx
namespace Go.Sx
open Go
section
variable {r : Option Nat} {P : Program} {ops : Array Oper} {Q : Exit → Act → World → Prop} {rest : List Oper} {n : Nat} {s : List (Nat × Value)} {ds : List Deferred} {w w' : World}
variable {d : Nat} {dd : Option Nat} {ty : TypeId} {pos : String} {af : Array Edge} {g : Option (Nat × Bool)} {v u : Value} {x y : Operand} {bs : List (World × List Nat)} {L L' : List Res} {t e : TypeId} {sz by_ m cnt : Nat} {z : Value} {xs news : List Value}
theorem sto_r {b o : Nat} {T : TypeId} {cs cs' vs : List Value} (i : Nat) (hx : ev n s x = .pointer (some ⟨b, o, none⟩)) (hy : ev n s y = v) (hvs : v.cells.toList = vs)
    (ht : TI P t sz by_ z) (hsz : vs.length = sz) (h1 : vs.all (·.oneCell') = true) (hst : St bs L w) (hi : L[i]? = some (blk b T cs)) (hfit : o + vs.length ≤ cs.length)
    (hcs : setAt cs o vs = cs') (hL : L.set i (blk b T cs') = L') :
    ∃ w', (execOp (ev n s) ⟨dd, .store t x y, ty, pos, af, g⟩).run P w = .ok .skip w' ∧ St bs L' w' ∧ Chg [b] w w' := by
  have hh := hst.blkHeap hi
  have hrun := run_storeCells_at P b o T vs 0 cs.toArray w hh (by simpa using hfit) (by simpa using h1)
  have hlen : v.cells.size = sz := by rw [← hsz, ← hvs]; simp
  refine ⟨w.setRow b (cs'.toArray), ?_, ?_, Chg.setRow w b _⟩
  · simp only [execOp, hx, hy, Instr.storeAt, Instr.sureAddr, storeVar, Sem.run_bind, Sem.run_pure, Result.andThen_ok, ht.size, hlen, ne_eq, not_true, if_false, hvs]
    subst hcs
    simp only [Nat.add_zero] at hrun
    simp [hrun, setAt]
  · subst hL
    refine hst.upd hi (Chg.setRow w b _) (fun c hc => .inl hc) (by simp [blk]) (fun c hc => ?_) (setRow_heap w b cs.toArray cs'.toArray T (0, 0) hh)
    simp only [blk, List.mem_singleton] at hc
    subst hc
    simpa using (Array.getElem?_eq_some_iff.1 hh).1
theorem stoL {b o : Nat} {T : TypeId} {cs cs' vs : List Value} (i : Nat) (hg : takenB ops n s g = true) (hx : ev n s x = .pointer (some ⟨b, o, none⟩)) (hy : ev n s y = v) (hvs : v.cells.toList = vs)
    (ht : TI P t sz by_ z) (hsz : vs.length = sz) (h1 : vs.all (·.oneCell') = true) (hst : St bs L w) (hi : L[i]? = some (blk b T cs)) (hfit : o + vs.length ≤ cs.length)
    (hcs : setAt cs o vs = cs') (hL : L.set i (blk b T cs') = L')
    (K : ∀ w', St bs L' w' → Chg [b] w w' → WL r P ops Q rest (Fr n s ds) w') : WL r P ops Q (⟨none, .store t x y, ty, pos, af, g⟩ :: rest) (Fr n s ds) w := by
  obtain ⟨w', h2, h3, h4⟩ := sto_r (dd := none) (ty := ty) (pos := pos) (af := af) (g := g) i hx hy hvs ht hsz h1 hst hi hfit hcs hL
  exact wl_unit hg rfl h2 (K w' h3 h4)
theorem ixArr_r {T e : TypeId} {k : IntKind} {b o o' m : Nat} {i : Int} (hx : ev n s x = .pointer (some ⟨b, o, none⟩)) (hy : ev n s y = .int k i) (hT : P.underlying T = some (.array m e))
    (ht : TI P e sz by_ z) (h0 : 0 ≤ i ∧ i < m) (ho : o + i.toNat * sz = o') :
    (execOp (ev n s) ⟨dd, .indexAddr T x y, ty, pos, af, g⟩).run P w = .ok (.value (.pointer (some ⟨b, o', none⟩))) w := by
  subst ho
  simp only [execOp, hx, hy, Instr.indexAt, run_underlying hT, asIntOf, Sem.run_bind, Sem.run_pure, Result.andThen_ok, Instr.sureAddr]
  simp [h0, ht.size, Addr.add_lit]
theorem ixArr {T e : TypeId} {k : IntKind} {b o o' m : Nat} {i : Int} (hg : takenB ops n s g = true) (hx : ev n s x = .pointer (some ⟨b, o, none⟩)) (hy : ev n s y = .int k i) (hT : P.underlying T = some (.array m e))
    (ht : TI P e sz by_ z) (h0 : 0 ≤ i ∧ i < m) (ho : o + i.toNat * sz = o') (K : WL r P ops Q rest (Fr n ((d, .pointer (some ⟨b, o', none⟩)) :: s) ds) w) :
    WL r P ops Q (⟨some d, .indexAddr T x y, ty, pos, af, g⟩ :: rest) (Fr n s ds) w := pv hg rfl (ixArr_r hx hy hT ht h0 ho) K
theorem slArr_r {T e : TypeId} {b o m : Nat} (hx : ev n s x = .pointer (some ⟨b, o, none⟩)) (hT : P.underlying T = some (.array m e)) (ht : TI P e sz by_ z) :
    (execOp (ev n s) ⟨dd, .slice T x none none none, ty, pos, af, g⟩).run P w = .ok (.value (.slice (some ⟨b, o, none⟩) m m)) w := by
  simp only [execOp, hx, Instr.sliceAt, run_underlying hT, Sem.run_bind, Sem.run_pure, Result.andThen_ok, Instr.sureAddr, Instr.sliceBounds, ht.size, Option.map_none]
  simp [Addr.add]
theorem slArr {T e : TypeId} {b o m : Nat} (hg : takenB ops n s g = true) (hx : ev n s x = .pointer (some ⟨b, o, none⟩)) (hT : P.underlying T = some (.array m e)) (ht : TI P e sz by_ z)
    (K : WL r P ops Q rest (Fr n ((d, .slice (some ⟨b, o, none⟩) m m) :: s) ds) w) :
    WL r P ops Q (⟨some d, .slice T x none none none, ty, pos, af, g⟩ :: rest) (Fr n s ds) w := pv hg rfl (slArr_r hx hT ht) K
theorem slC_r {b o c l h : Nat} {low high : Option Operand} (hx : ev n s x = .slice (some ⟨b, o, none⟩) m c) (ht : P.underlying t = some (.slice e)) (hi : TI P e sz by_ z)
    (hlo : match low with | none => l = 0 | some p => ∃ k, ev n s p = .int k (l : Int)) (hhi : match high with | none => h = m | some p => ∃ k, ev n s p = .int k (h : Int)) (hlh : l ≤ h) (hh : h ≤ c) (hne : l = 0 ∨ l < c) :
    (execOp (ev n s) ⟨dd, .slice t x low high none, ty, pos, af, g⟩).run P w = .ok (.value (.slice (some ⟨b, o + l * sz, none⟩) (h - l) (c - l))) w := by
  have b1 : ∀ (m : Nat) (code : BoundsCode) (k : IntKind) (q : Nat), q ≤ m → (Instr.sliceBound (.int k (q : Int)) m code).run P w = .ok q w := by
    intro m code k q hq
    have : (0 : Int) ≤ (q : Int) ∧ (q : Int) ≤ (m : Int) := by omega
    simp [Instr.sliceBound, asIntOf, this]
  have hif : (if c = l then some (⟨b, o, none⟩ : Addr) else (some (⟨b, o, none⟩ : Addr)).map (·.add (l * sz))) = some ⟨b, o + l * sz, none⟩ := by
    split
    · have : l = 0 := by omega
      subst this; simp
    · simp [Addr.add_lit]
  have key : ∀ (lv hv : Option Value), (match lv with | none => l = 0 | some p => ∃ k, p = .int k (l : Int)) → (match hv with | none => h = m | some p => ∃ k, p = .int k (h : Int)) →
      (Instr.sliceBounds true m c lv hv none).run P w = .ok (l, h, c) w := by
    intro lv hv h1 h2
    unfold Instr.sliceBounds
    cases lv with
    | none =>
      simp only at h1; subst h1
      cases hv with
      | none => simp only at h2; subst h2; simp
      | some p => obtain ⟨k, rfl⟩ := h2; simp [b1 _ _ _ _ hh]
    | some q =>
      obtain ⟨k, rfl⟩ := h1
      cases hv with
      | none => simp only at h2; subst h2; simp [b1 _ _ _ _ hlh]
      | some p => obtain ⟨k', rfl⟩ := h2; simp [b1 _ _ _ _ hh, b1 _ _ _ _ hlh]
  have hk := key (low.map (ev n s)) (high.map (ev n s)) (by cases low with | none => exact hlo | some p => obtain ⟨k, hp⟩ := hlo; exact ⟨k, hp⟩) (by cases high with | none => exact hhi | some p => obtain ⟨k, hp⟩ := hhi; exact ⟨k, hp⟩)
  simp only [execOp, hx, Instr.sliceAt, Instr.slice, run_underlying ht, Sem.run_bind, Sem.run_pure, Result.andThen_ok, Option.map_none, hk, hi.size, hif]
theorem slC {b o c l h : Nat} {low high : Option Operand} (hg : takenB ops n s g = true) (hx : ev n s x = .slice (some ⟨b, o, none⟩) m c) (ht : P.underlying t = some (.slice e)) (hi : TI P e sz by_ z)
    (hlo : match low with | none => l = 0 | some p => ∃ k, ev n s p = .int k (l : Int)) (hhi : match high with | none => h = m | some p => ∃ k, ev n s p = .int k (h : Int)) (hlh : l ≤ h) (hh : h ≤ c) (hne : l = 0 ∨ l < c) (hv : .slice (some ⟨b, o + l * sz, none⟩) (h - l) (c - l) = v)
    (K : WL r P ops Q rest (Fr n ((d, v) :: s) ds) w) : WL r P ops Q (⟨some d, .slice t x low high none, ty, pos, af, g⟩ :: rest) (Fr n s ds) w := by
  subst hv
  exact pv hg rfl (slC_r hx ht hi hlo hhi hlh hh hne) K
theorem bld_r {ps : List (Nat × Operand)} {pvs : List (Nat × Value)} (hp : ps.map (fun q => (q.1, ev n s q.2)) = pvs) (hb : ∀ w, (Instr.build t pvs.toArray).run P w = .ok v w) :
    (execOp (ev n s) ⟨dd, .build t ps.toArray, ty, pos, af, g⟩).run P w = .ok (.value v) w := by
  have : (ps.toArray.map fun (i, x) => (i, ev n s x)) = pvs.toArray := by rw [← hp]; simp
  simp only [execOp, this, Sem.run_bind, hb, Result.andThen_ok, Sem.run_pure]
theorem bld {ps : List (Nat × Operand)} {pvs : List (Nat × Value)} (hg : takenB ops n s g = true) (hp : ps.map (fun q => (q.1, ev n s q.2)) = pvs) (hb : ∀ w, (Instr.build t pvs.toArray).run P w = .ok v w)
    (K : WL r P ops Q rest (Fr n ((d, v) :: s) ds) w) : WL r P ops Q (⟨some d, .build t ps.toArray, ty, pos, af, g⟩ :: rest) (Fr n s ds) w := pv hg rfl (bld_r hp hb) K
theorem fld_r {T : TypeId} {i : Nat} {fields : Array Field} {f : Field} {cs : Array Value} {uf : TypeDesc} (hx : ev n s x = .agg cs) (hT : P.underlying T = some (.struct fields)) (hf : fields[i]? = some f) (hu : P.underlying f.type = some uf) (hn : isAggD uf = false) (hv : cs[f.offset]? = some v) :
    (execOp (ev n s) ⟨dd, .field T x i, ty, pos, af, g⟩).run P w = .ok (.value v) w := by
  simp [execOp, hx, Instr.field, run_underlying hT, hf, asAgg, part, run_isAgg hu, hn, hv]
theorem fld {T : TypeId} {i : Nat} {fields : Array Field} {f : Field} {cs : Array Value} {uf : TypeDesc} (hg : takenB ops n s g = true) (hx : ev n s x = .agg cs) (hT : P.underlying T = some (.struct fields)) (hf : fields[i]? = some f) (hu : P.underlying f.type = some uf) (hn : isAggD uf = false) (hv : cs[f.offset]? = some v)
    (K : WL r P ops Q rest (Fr n ((d, v) :: s) ds) w) : WL r P ops Q (⟨some d, .field T x i, ty, pos, af, g⟩ :: rest) (Fr n s ds) w := pv hg rfl (fld_r hx hT hf hu hn hv) K
theorem min2_r {T : Array TypeId} {k : IntKind} {a b c : Int} (hx : ev n s x = .int k a) (hy : ev n s y = .int k b) (hc : (if b < a then b else a) = c) :
    (execOp (ev n s) ⟨dd, .call ⟨.builtin .min, #[x, y], T⟩, ty, pos, af, g⟩).run P w = .ok (.value (.int k c)) w := by
  subst hc; simp [execOp, resolve, invoke, builtin, hx, hy, Builtin.min_, Builtin.min2]
theorem min2 {T : Array TypeId} {k : IntKind} {a b c : Int} (hg : takenB ops n s g = true) (hx : ev n s x = .int k a) (hy : ev n s y = .int k b) (hc : (if b < a then b else a) = c)
    (K : WL r P ops Q rest (Fr n ((d, .int k c) :: s) ds) w) : WL r P ops Q (⟨some d, .call ⟨.builtin .min, #[x, y], T⟩, ty, pos, af, g⟩ :: rest) (Fr n s ds) w := pv hg rfl (min2_r hx hy hc) K
theorem max2_r {T : Array TypeId} {k : IntKind} {a b c : Int} (hx : ev n s x = .int k a) (hy : ev n s y = .int k b) (hc : (if a < b then b else a) = c) :
    (execOp (ev n s) ⟨dd, .call ⟨.builtin .max, #[x, y], T⟩, ty, pos, af, g⟩).run P w = .ok (.value (.int k c)) w := by
  subst hc; simp [execOp, resolve, invoke, builtin, hx, hy, Builtin.max_, Builtin.max2]
theorem max2 {T : Array TypeId} {k : IntKind} {a b c : Int} (hg : takenB ops n s g = true) (hx : ev n s x = .int k a) (hy : ev n s y = .int k b) (hc : (if a < b then b else a) = c)
    (K : WL r P ops Q rest (Fr n ((d, .int k c) :: s) ds) w) : WL r P ops Q (⟨some d, .call ⟨.builtin .max, #[x, y], T⟩, ty, pos, af, g⟩ :: rest) (Fr n s ds) w := pv hg rfl (max2_r hx hy hc) K
theorem eqNilS_r {a : Option Addr} {m c : Nat} {t' : TypeId} (hx : ev n s x = .slice a m c) (hy : ev n s y = .slice none 0 0) (ht : P.underlying t = some (.slice e)) :
    (execOp (ev n s) ⟨dd, .binOp .eql t x y t', ty, pos, af, g⟩).run P w = .ok (.value (.bool a.isNone)) w := by
  have h := Lib.run_eql_slice_nil (P := P) w t e a m c 0 0 ht
  simp [execOp, hx, hy, eqGuard, h]
theorem eqNilS {a : Option Addr} {m c : Nat} {t' : TypeId} (hg : takenB ops n s g = true) (hx : ev n s x = .slice a m c) (hy : ev n s y = .slice none 0 0) (ht : P.underlying t = some (.slice e))
    (K : WL r P ops Q rest (Fr n ((d, .bool a.isNone) :: s) ds) w) : WL r P ops Q (⟨some d, .binOp .eql t x y t', ty, pos, af, g⟩ :: rest) (Fr n s ds) w := pv hg rfl (eqNilS_r hx hy ht) K
theorem newRow' (hst : St bs L w) (e : TypeId) (sz len : Nat) (cs : List Value) (hl : cs.length = len * sz) (h63 : len ≤ maxLen) :
    St bs (row (.slice (some ⟨w.heap.size, 0, none⟩) len len) e sz len cs :: L) (w.alloc (.cells cs.toArray e)) :=
  hst.addNew (Chg.alloc [] w _) (fun b hb => by simp [row, Value.ownBlock] at hb; omega) (by simp [row, Value.ownBlock]) (fun b hb => by simp [row, Value.ownBlock] at hb; simp; omega)
    ⟨hl, .inr ⟨w.heap.size, len, cs.toArray, rfl, Nat.zero_le _, heap_alloc_new w _, Nat.le_refl _, h63, by simp [hl], by simp [← hl]⟩⟩
theorem bsl_r {len : Nat} {ps : List (Nat × Operand)} {pvs : List (Nat × Value)} {cs : List Value} (hp : ps.map (fun q => (q.1, ev n s q.2)) = pvs) (ht : P.underlying t = some (.slice e)) (hi : TI P e sz by_ z)
    (hc : Instr.fill (fun i => some (i * sz, sz)) ((Array.range (len * sz)).map (z.cells[· % z.cells.size]!)) pvs = some cs.toArray) (hsmall : len * sz ≤ 16777216) :
    (execOp (ev n s) ⟨dd, .buildSlice t len ps.toArray, ty, pos, af, g⟩).run P w = .ok (.value (.slice (some ⟨w.heap.size, 0, none⟩) len len)) (w.alloc (.cells cs.toArray e)) := by
  have h1 : (ps.toArray.map fun (i, x) => (i, ev n s x)) = pvs.toArray := by rw [← hp]; simp
  have h2 : ¬ len * sz > 2 ^ 24 := by simp; omega
  simp only [execOp, h1, Instr.buildSlice, Sem.run_bind, run_underlying ht, Result.andThen_ok, hi.size, Sem.run_pure]
  rw [if_neg h2]
  by_cases h0 : len * sz = 0
  · simp only [h0, if_true, Sem.run_bind, Sem.run_pure, Result.andThen_ok]
    rw [h0] at hc
    have hc' : Instr.fill (fun i => some (i * sz, sz)) ((Array.range 0).map ((#[] : Array Value)[· % (#[] : Array Value).size]!)) pvs = some cs.toArray := by
      rw [← hc]; simp [Array.range_zero']
    simp only [hc', Sem.run_bind, Sem.run_pure, Result.andThen_ok]
    rfl
  · simp only [h0, if_false, Sem.run_bind, hi.zeroRun, Sem.run_pure, Result.andThen_ok, hc]
    rfl
theorem bsl {len : Nat} {ps : List (Nat × Operand)} {pvs : List (Nat × Value)} {cs : List Value} (hg : takenB ops n s g = true) (hp : ps.map (fun q => (q.1, ev n s q.2)) = pvs) (ht : P.underlying t = some (.slice e)) (hi : TI P e sz by_ z)
    (hc : Instr.fill (fun i => some (i * sz, sz)) ((Array.range (len * sz)).map (z.cells[· % z.cells.size]!)) pvs = some cs.toArray) (hl : cs.length = len * sz) (hsmall : Nat.ble (len * sz) 16777216 = true) (h63 : Nat.ble len 16777216 = true) (hst : St bs L w)
    (K : ∀ b w', w.heap.size ≤ b → Chg [] w w' → St bs (row (.slice (some ⟨b, 0, none⟩) len len) e sz len cs :: L) w' → WL r P ops Q rest (Fr n ((d, .slice (some ⟨b, 0, none⟩) len len) :: s) ds) w') :
    WL r P ops Q (⟨some d, .buildSlice t len ps.toArray, ty, pos, af, g⟩ :: rest) (Fr n s ds) w :=
  pv hg rfl (bsl_r hp ht hi hc (Nat.le_of_ble_eq_true hsmall)) (K _ _ (Nat.le_refl _) (Chg.alloc [] w _) (newRow' hst e sz len cs hl (by have := Nat.le_of_ble_eq_true h63; simp only [maxLen]; omega)))
def idx : Nat → List Value → List (Nat × Value)
  | _, [] => []
  | i, v :: vs => (i, v) :: idx (i + 1) vs
theorem foldl_set (off : Nat) : ∀ (l : List Value) (j0 : Nat) (arr : Array Value), off + j0 + l.length ≤ arr.size →
    (l.zipIdx j0).foldl (fun cs (q : Value × Nat) => cs.setIfInBounds (off + q.2) q.1) arr = (arr.toList.take (off + j0) ++ l ++ arr.toList.drop (off + j0 + l.length)).toArray := by
  intro l
  induction l with
  | nil => intro j0 arr _; simp
  | cons c l ih =>
    intro j0 arr h
    simp only [List.zipIdx_cons, List.foldl_cons]
    rw [ih (j0 + 1) _ (by simp at h ⊢; omega)]
    simp only [List.length_cons] at h
    have hlt : off + j0 < arr.toList.length := by simp; omega
    congr 1
    rw [Array.toList_setIfInBounds, List.set_eq_take_append_cons_drop, if_pos hlt]
    have e1 : (arr.toList.take (off + j0) ++ c :: arr.toList.drop (off + j0 + 1)).take (off + (j0 + 1)) = arr.toList.take (off + j0) ++ [c] := by
      rw [List.take_append, List.length_take, Nat.min_eq_left (by omega), show off + (j0 + 1) - (off + j0) = 1 by omega, List.take_of_length_le (by simp; omega)]
      simp
    have e2 : (arr.toList.take (off + j0) ++ c :: arr.toList.drop (off + j0 + 1)).drop (off + (j0 + 1) + l.length) = arr.toList.drop (off + j0 + (l.length + 1)) := by
      rw [List.drop_append, List.length_take, Nat.min_eq_left (by omega), List.drop_of_length_le (by simp; omega), show off + (j0 + 1) + l.length - (off + j0) = l.length + 1 by omega]
      simp only [List.nil_append, List.drop_succ_cons, List.drop_drop]
      congr 1; omega
    rw [e1, e2]
    simp
theorem fill_idx (sz : Nat) : ∀ (vs : List Value) (k : Nat) (arr : Array Value), (∀ v ∈ vs, v.cells.size = sz) → k * sz + vs.length * sz ≤ arr.size →
    Instr.fill (fun i => some (i * sz, sz)) arr (idx k vs) = some (arr.toList.take (k * sz) ++ vs.flatMap (·.cells.toList) ++ arr.toList.drop (k * sz + vs.length * sz)).toArray := by
  intro vs
  induction vs with
  | nil => intro k arr _ _; simp [idx, Instr.fill]
  | cons v vs ih =>
    intro k arr hs hl
    have hv := hs v (by simp)
    simp only [List.length_cons, Nat.add_mul, Nat.one_mul] at hl
    simp only [idx, Instr.fill, hv]
    rw [if_neg (by simp; omega)]
    have hf := foldl_set (k * sz) v.cells.toList 0 arr (by simp [hv]; omega)
    have hz : Array.foldl (fun cs (q : Value × Nat) => cs.setIfInBounds (k * sz + q.2) q.1) arr v.cells.zipIdx = (arr.toList.take (k * sz) ++ v.cells.toList ++ arr.toList.drop (k * sz + sz)).toArray := by
      rw [← Array.foldl_toList, Array.toList_zipIdx]
      simp only [Nat.add_zero, Array.length_toList, hv] at hf
      exact hf
    rw [show (Array.foldl (fun cs (x : Value × Nat) => match x with | (c, j) => cs.setIfInBounds (k * sz + j) c) arr v.cells.zipIdx) = _ from hz]
    have hvl : v.cells.toList.length = sz := by simp [hv]
    rw [ih (k + 1) _ (fun u hu => hs u (by simp [hu])) (by simp [hvl, Nat.add_mul]; omega)]
    congr 2
    simp only [List.toList_toArray, Nat.add_mul, Nat.one_mul, List.flatMap_cons, List.length_cons]
    have e1 : (arr.toList.take (k * sz) ++ v.cells.toList ++ arr.toList.drop (k * sz + sz)).take (k * sz + sz) = arr.toList.take (k * sz) ++ v.cells.toList := by
      rw [List.take_append, List.take_of_length_le (by simp [hvl]; omega)]
      simp [hvl]; omega
    have e2 : (arr.toList.take (k * sz) ++ v.cells.toList ++ arr.toList.drop (k * sz + sz)).drop (k * sz + sz + vs.length * sz) = arr.toList.drop (k * sz + (vs.length * sz + sz)) := by
      rw [List.drop_append, List.drop_of_length_le (by simp [hvl]; omega)]
      simp only [List.length_append, List.length_take, Array.length_toList, hvl, List.nil_append, List.drop_drop]
      congr 1; omega
    rw [e1, e2]
    simp
theorem bsv {len : Nat} {ps : List (Nat × Operand)} {vs cs : List Value} (hg : takenB ops n s g = true) (hp : ps.map (fun q => (q.1, ev n s q.2)) = idx 0 vs) (ht : P.underlying t = some (.slice e)) (hi : TI P e sz by_ z)
    (hlen : vs.length = len) (hv : ∀ v ∈ vs, v.cells.size = sz) (hcs : vs.flatMap (·.cells.toList) = cs) (hsmall : Nat.ble (len * sz) 16777216 = true) (h63 : Nat.ble len 16777216 = true) (hst : St bs L w)
    (K : ∀ b w', w.heap.size ≤ b → Chg [] w w' → St bs (row (.slice (some ⟨b, 0, none⟩) len len) e sz len cs :: L) w' → WL r P ops Q rest (Fr n ((d, .slice (some ⟨b, 0, none⟩) len len) :: s) ds) w') :
    WL r P ops Q (⟨some d, .buildSlice t len ps.toArray, ty, pos, af, g⟩ :: rest) (Fr n s ds) w := by
  subst hlen hcs
  have hfl : (vs.flatMap (·.cells.toList)).length = vs.length * sz := by
    clear hp hsmall h63 K
    induction vs with
    | nil => simp
    | cons v vs ih => simp only [List.flatMap_cons, List.length_append, List.length_cons, Array.length_toList, hv v (by simp), ih (fun u hu => hv u (by simp [hu])), Nat.add_mul]; omega
  refine bsl hg hp ht hi ?_ hfl hsmall h63 hst K
  rw [fill_idx sz vs 0 _ hv (by simp)]
  simp
theorem madeCells_one (z0 : Value) (k : Nat) : madeCells #[z0] k = (List.replicate k z0).toArray := by
  unfold madeCells
  apply Array.ext
  · simp
  · intro i h1 h2
    simp [Nat.mod_one]
theorem mks_r {k k' : IntKind} {c m : Nat} (hx : ev n s x = .int k (m : Int)) (hy : ev n s y = .int k' (c : Int)) (ht : P.underlying t = some (.slice e)) (hi : TI P e 1 by_ z) (hz : z.cells = #[z]) (hm : m ≤ c) (hb : by_ * c ≤ 281474976710656) (h63 : c ≤ 9223372036854775807) :
    (execOp (ev n s) ⟨dd, .makeSlice t x y, ty, pos, af, g⟩).run P w = .ok (.value (.slice (some ⟨w.heap.size, 0, none⟩) m c)) (w.alloc (.cells (List.replicate c z).toArray e)) := by
  obtain ⟨i, hii, h1, h2, h3⟩ := hi.get
  subst h2
  have hr := run_make (P := P) w t e i z ht hii h3 k k' m c (by omega) (by omega) (by rw [← Int.natCast_mul]; omega) (by omega)
  rw [hz, h1, Nat.mul_one] at hr
  simp only [Int.toNat_natCast] at hr
  rw [madeCells_one] at hr
  simp only [execOp, hx, hy, Sem.run_bind, hr, Result.andThen_ok, Sem.run_pure]
theorem mks {k k' : IntKind} {c m : Nat} (hg : takenB ops n s g = true) (hx : ev n s x = .int k (m : Int)) (hy : ev n s y = .int k' (c : Int)) (ht : P.underlying t = some (.slice e)) (hi : TI P e 1 by_ z) (hz : z.cells = #[z]) (hm : m ≤ c) (hb : by_ * c ≤ 281474976710656) (h63 : c ≤ 9223372036854775807) (hst : St bs L w)
    (K : ∀ b w', w.heap.size ≤ b → Chg [] w w' → St bs (blk b e (List.replicate c z) :: L) w' → WL r P ops Q rest (Fr n ((d, .slice (some ⟨b, 0, none⟩) m c) :: s) ds) w') :
    WL r P ops Q (⟨some d, .makeSlice t x y, ty, pos, af, g⟩ :: rest) (Fr n s ds) w :=
  pv hg rfl (mks_r hx hy ht hi hz hm hb h63) (K _ _ (Nat.le_refl _) (Chg.alloc [] w _) (newBlk hst e _))
theorem St.toRow {i b : Nat} {cs : List Value} {m c sz : Nat} (h : St bs L w) (hi : L[i]? = some (blk b e cs)) (hl : cs.length = c * sz) (hm : m ≤ c) (hc : c ≤ maxLen) :
    St bs (L.set i (row (.slice (some ⟨b, 0, none⟩) m c) e sz m (cs.take (m * sz)))) w := by
  have hh := h.blkHeap hi
  refine h.upd hi (Chg.refl _ _) (fun x hx => .inl (by simpa [row, Value.ownBlock, blk] using hx)) (by simp [row, Value.ownBlock]) (fun x hx => ?_) ?_
  · simp [row, Value.ownBlock] at hx
    subst hx
    exact (Array.getElem?_eq_some_iff.1 hh).1
  · refine ⟨by simp [hl]; rw [← Nat.mul_min_mul_right, Nat.min_eq_left (Nat.mul_le_mul_right _ hm)], .inr ⟨b, c, cs.toArray, rfl, Nat.zero_le _, hh, hm, hc, by simp [hl], by simp⟩⟩
theorem St.rowSrc {i : Nat} (h : St bs L w) (hi : L[i]? = some (row v e sz m xs)) : Src w v sz m xs := by
  have hown : w.ownsRow 0 e sz v m xs := h.own _ (List.mem_of_getElem? hi)
  rcases hown.2 with ⟨rfl, rfl⟩ | ⟨g', cap, cur, rfl, _⟩
  · exact ⟨none, 0, rfl, hown.1, fun j x hj => by have := hown.1; simp at this; subst this; simp at hj⟩
  · exact ⟨some ⟨g', 0, none⟩, cap, rfl, hown.1, fun j x hj => ⟨_, rfl, hown.cells rfl j x hj⟩⟩
theorem St.blkSrc {i b o c : Nat} {cs : List Value} {T : TypeId} (h : St bs L w) (hi : L[i]? = some (blk b T cs)) (hn : (cs.drop o).take (m * sz) = xs) (hl : xs.length = m * sz) : Src w (.slice (some ⟨b, o, none⟩) m c) sz m xs :=
  ⟨_, c, rfl, hl, fun j x hj => ⟨_, rfl, by rw [Addr.add_lit]; exact h.blkCells hi (by rw [hl]; exact hn) j x hj⟩⟩
theorem Ints.src {k : IntKind} {ok : Nat → Prop} {ys : List Int} (h : Ints k ok w v ys) : Src w v 1 ys.length (ys.map (.int k)) := by
  obtain ⟨a, c, rfl, h1, h2, h3⟩ := h
  refine ⟨a, c, rfl, by simp, fun j x hj => ?_⟩
  rw [List.getElem?_map] at hj
  cases hy : ys[j]? with
  | none => rw [hy] at hj; cases hj
  | some y =>
    rw [hy] at hj
    simp at hj
    subst hj
    obtain ⟨b, o, vs, rfl, _, _, ⟨rfl, _⟩, hc⟩ := h3 j y hy
    refine ⟨_, rfl, ?_⟩
    rw [Addr.add_lit]
    have := hc 0 (.int k y) (by simp)
    simpa using this
theorem cpy_r {i b o dl dc : Nat} {T : TypeId} {cs cs' : List Value} {t' : TypeId} (hx : ev n s x = .slice (some ⟨b, o, none⟩) dl dc) (hy : ev n s y = u) (ht : P.underlying t = some (.slice e)) (hi : TI P e 1 by_ z)
    (hs : Src w u 1 cnt news) (h1 : ∀ x ∈ news, x.oneCell' = true) (hst : St bs L w) (hL : L[i]? = some (blk b T cs)) (hfit : o + min cnt dl ≤ cs.length) (hcs : setAt cs o (news.take dl) = cs') (hL' : L.set i (blk b T cs') = L') :
    ∃ w', (execOp (ev n s) ⟨dd, .call ⟨.builtin .copy, #[x, y], #[t, t']⟩, ty, pos, af, g⟩).run P w = .ok (.value (.int .i64 ((min cnt dl : Nat) : Int))) w' ∧ St bs L' w' ∧ Chg [b] w w' := by
  obtain ⟨a, c, rfl, hl, hn⟩ := hs
  rw [Nat.mul_one] at hl
  have hh := hst.blkHeap hL
  have hlt : (news.take dl).length = min cnt dl := by rw [List.length_take, hl, Nat.min_comm]
  have hf : (Builtin.firstCells 1 (Nat.min cnt dl) (.slice a cnt c)).run P w = .ok (news.take dl).toArray w := by
    cases a with
    | none =>
      have : news = [] := by
        cases news with
        | nil => rfl
        | cons q qs => obtain ⟨ad, h, _⟩ := hn 0 q rfl; cases h
      subst this
      simp [Builtin.firstCells]
    | some a =>
      refine run_firstCells_some w 1 (Nat.min cnt dl) a cnt c (news.take dl) ?_ ?_
      · rw [hlt, Nat.mul_one]
      · intro j v hj
        rw [List.getElem?_take] at hj
        split at hj
        · obtain ⟨ad, he, h2⟩ := hn j v hj
          cases he; exact h2
        · cases hj
  have hrun := run_storeCells_at P b o T (news.take dl) 0 cs.toArray w hh (by rw [hlt]; simpa using hfit) (fun v hv => h1 v (List.mem_of_mem_take hv))
  simp only [Nat.add_zero] at hrun
  refine ⟨w.setRow b cs'.toArray, ?_, ?_, Chg.setRow w b _⟩
  · subst hcs
    simp only [execOp, resolve, invoke, builtin, Sem.run_bind, Sem.run_pure, Result.andThen_ok, List.map_toArray, List.map_cons, List.map_nil, hx, hy]
    simp [Builtin.copy_, run_underlying ht, Builtin.lenOf, hi.size, hf, hrun, setAt, goInt]
  · subst hL'
    refine hst.upd hL (Chg.setRow w b _) (fun c hc => .inl hc) (by simp [blk]) (fun c hc => ?_) (setRow_heap w b cs.toArray cs'.toArray T (0, 0) hh)
    simp only [blk, List.mem_singleton] at hc
    subst hc
    simpa using (Array.getElem?_eq_some_iff.1 hh).1
theorem cpy {b o dl dc : Nat} {T : TypeId} {cs cs' : List Value} {t' : TypeId} (i : Nat) (hg : takenB ops n s g = true) (hx : ev n s x = .slice (some ⟨b, o, none⟩) dl dc) (hy : ev n s y = u) (ht : P.underlying t = some (.slice e)) (hi : TI P e 1 by_ z)
    (hs : Src w u 1 cnt news) (h1 : ∀ x ∈ news, x.oneCell' = true) (hst : St bs L w) (hL : L[i]? = some (blk b T cs)) (hfit : o + min cnt dl ≤ cs.length) (hcs : setAt cs o (news.take dl) = cs') (hL' : L.set i (blk b T cs') = L')
    (K : ∀ w', St bs L' w' → Chg [b] w w' → WL r P ops Q rest (Fr n (putR dd (.int .i64 ((min cnt dl : Nat) : Int)) s) ds) w') :
    WL r P ops Q (⟨dd, .call ⟨.builtin .copy, #[x, y], #[t, t']⟩, ty, pos, af, g⟩ :: rest) (Fr n s ds) w := by
  obtain ⟨w', h2, h3, h4⟩ := cpy_r (dd := dd) (ty := ty) (pos := pos) (af := af) (g := g) (t' := t') hx hy ht hi hs h1 hst hL hfit hcs hL'
  exact wl_val hg rfl h2 (by rw [Fr_putR]; exact K w' h3 h4)
theorem St.rowInts {i : Nat} {k : IntKind} {ys : List Int} (h : St bs L w) (hi : L[i]? = some (row v e 1 ys.length (ys.map (.int k)))) (hk : ∀ y ∈ ys, InK k y) : Ints k (fun b => b ∈ feet L) w v ys := by
  have hown : w.ownsRow 0 e 1 v ys.length (ys.map (.int k)) := h.own _ (List.mem_of_getElem? hi)
  rcases hown.2 with ⟨rfl, h0⟩ | ⟨g', cap, cur, rfl, _, hg, h1, h2, _⟩
  · have : ys = [] := List.eq_nil_of_length_eq_zero h0
    subst this
    exact Sl.nil _ _ _ _
  · refine ⟨_, cap, rfl, h1, h2, fun j y hj => ⟨g', 0, [.int k y], rfl, mem_feet_of hi (by simp [row, Value.ownBlock]), rfl, ⟨rfl, hk y (List.mem_of_getElem? hj)⟩, fun q u hq => ?_⟩⟩
    cases q with
    | zero =>
      simp at hq
      subst hq
      have := hown.cells (g := g') rfl j (.int k y) (by simp [hj])
      rw [Addr.add_lit] at this
      simpa using this
    | succ q => simp at hq
theorem St.blkInts {i b : Nat} {k : IntKind} {T : TypeId} {ys : List Int} {c : Nat} (h : St bs L w) (hi : L[i]? = some (blk b T (ys.map (.int k)))) (hk : ∀ y ∈ ys, InK k y) (hm : ys.length = m) (hc : m ≤ c) (h63 : c ≤ maxLen) : Ints k (fun b => b ∈ feet L) w (.slice (some ⟨b, 0, none⟩) m c) ys := by
  subst hm
  refine ⟨_, c, rfl, hc, h63, fun j y hj => ⟨b, 0, [.int k y], rfl, mem_feet_of hi (by simp [blk]), rfl, ⟨rfl, hk y (List.mem_of_getElem? hj)⟩, fun q u hq => ?_⟩⟩
  cases q with
  | zero =>
    simp at hq
    subst hq
    have := h.blkCell (o := j) hi (v := .int k y) (by simp [hj])
    simpa using this
  | succ q => simp at hq
end
section
variable {P : Program} {ops : Array Oper} {Q : Exit → Act → World → Prop} {n : Nat} {s s0 : List (Nat × Value)} {ds : List Deferred} {w w' : World} {o : Oper} {v : Value} {C : World → Prop} {l : List Oper} {Nx : Value → World → Prop}
theorem qv (hg : takenB ops n s o.guard = true) (hd : notDefer o.op = true) (h : (execOp (ev n s) o).run P w = .ok (.value v) w) : QOb P ops n o s v C w := .inl ⟨hg, hd, .inl h⟩
theorem qs (hg : takenB ops n s o.guard = false) (h : v = undef) : QOb P ops n o s v C w := .inr ⟨hg, h⟩
theorem qc {f : FuncId} {args : Array Value} (hg : takenB ops n s o.guard = true) (hd : notDefer o.op = true) (h : (execOp (ev n s) o).run P w = .ok (.enter f args) w) (hc : CR P f args w (fun v' w' => v' = v ∧ C w')) : QOb P ops n o s v C w := .inl ⟨hg, hd, .inr ⟨f, args, h, hc⟩⟩
theorem mvl (hg : takenB ops n s o.guard = true) (hd : notDefer o.op = true) (h : (execOp (ev n s) o).run P w = .ok (.value v) w') (hN : Nx v w') : MOb P ops Q n ds s0 l o s Nx w := .inl ⟨hg, hd, .inl ⟨v, w', h, hN⟩⟩
theorem mun (hg : takenB ops n s o.guard = true) (hd : notDefer o.op = true) (h : (execOp (ev n s) o).run P w = .ok .skip w') (hN : Nx undef w') : MOb P ops Q n ds s0 l o s Nx w := .inl ⟨hg, hd, .inr (.inl ⟨w', h, hN⟩)⟩
theorem msk (hg : takenB ops n s o.guard = false) (hN : Nx undef w) : MOb P ops Q n ds s0 l o s Nx w := .inr ⟨hg, hN⟩
theorem mcl {f : FuncId} {args : Array Value} {R : Value → World → Prop} (hg : takenB ops n s o.guard = true) (hd : notDefer o.op = true) (h : (execOp (ev n s) o).run P w = .ok (.enter f args) w) (hc : CR P f args w R) (hN : ∀ v w', R v w' → Nx v w') : MOb P ops Q n ds s0 l o s Nx w :=
  .inl ⟨hg, hd, .inr (.inr ⟨f, args, h, Calls.mono hc (fun e w' ⟨v, he, hR⟩ => by subst he; exact hN v w' hR)⟩)⟩
theorem mce {f : FuncId} {args : Array Value} {R : Ending → World → Prop} (hg : takenB ops n s o.guard = true) (hd : notDefer o.op = true) (h : (execOp (ev n s) o).run P w = .ok (.enter f args) w) (hc : Calls P f args w R)
    (hN : ∀ e w', R e w' → (match e with
      | .returned v => Nx v w'
      | .panicked ch => ∀ s, (∀ t, (∀ o ∈ l, o.dst ≠ some t) → look s t = look s0 t) → Q (.panic ch) (Fr n s ds) w'
      | .outgrown => LetsOut Q)) : MOb P ops Q n ds s0 l o s Nx w :=
  .inl ⟨hg, hd, .inr (.inr ⟨f, args, h, Calls.mono hc hN⟩)⟩
variable {dd : Option Nat} {ty : TypeId} {pos : String} {af : Array Edge} {g : Option (Nat × Bool)}
theorem clF_r {f : FuncId} {az : List Operand} {T : Array TypeId} {vl : List Value} (hvs : az.map (ev n s) = vl) (he : EntersF P f) :
    (execOp (ev n s) ⟨dd, .call ⟨.value (.func f), az.toArray, T⟩, ty, pos, af, g⟩).run P w = .ok (.enter f vl.toArray) w := by
  simp only [execOp, resolve, invoke, Deferred.ofValue, map_toArray', hvs]
  simp [ev, he _ _]
theorem clV_r {x : Operand} {f : FuncId} {fi ca : List Value} {az : List Operand} {T : Array TypeId} {vl : List Value}
    (hx : ev n s x = .func (.func f) fi.toArray ca.toArray) (hvs : fi ++ az.map (ev n s) ++ ca = vl) (he : EntersF P f) :
    (execOp (ev n s) ⟨dd, .call ⟨.value x, az.toArray, T⟩, ty, pos, af, g⟩).run P w = .ok (.enter f vl.toArray) w := by
  subst hvs
  simp only [execOp, resolve, invoke, Deferred.ofValue, map_toArray', hx]
  simp [he _ _]
end
end Go.Sx
namespace Go.Sx
open Go
abbrev rowI (k : IntKind) (v : Value) (e : TypeId) (ys : List Int) : Res := row v e 1 ys.length (ys.map (.int k))
def RowIs (k : IntKind) (w : World) (v : Value) (e : TypeId) (ys : List Int) : Prop := w.ownsRow 0 e 1 v ys.length (ys.map (.int k))
structure Took (k : IntKind) (w : World) (v : Value) (w' : World) (r : Value) (e : TypeId) (zs : List Int) : Prop where
  own : RowIs k w' r e zs
  chg : Chg v.ownBlock.toList w w'
  place : ∀ b, r.ownBlock = some b → v.ownBlock = some b ∨ w.heap.size ≤ b
structure Fresh (k : IntKind) (w : World) (w' : World) (r : Value) (e : TypeId) (zs : List Int) : Prop where
  own : RowIs k w' r e zs
  place : ∀ b, r.ownBlock = some b → w.heap.size ≤ b
section
variable {r : Option Nat} {P : Program} {ops : Array Oper} {Q : Exit → Act → World → Prop} {rest : List Oper} {n : Nat} {s : List (Nat × Value)} {ds : List Deferred} {w w' w0 : World}
variable {d : Nat} {dd : Option Nat} {ty : TypeId} {pos : String} {af : Array Edge} {g : Option (Nat × Bool)} {v u : Value} {x y : Operand} {bs : List (World × List Nat)} {L L' : List Res} {t e : TypeId} {sz by_ m cnt : Nat} {z : Value} {k : IntKind} {ys zs : List Int}
theorem ints_one (k : IntKind) (zs : List Int) : ∀ x ∈ zs.map (Value.int k), x.oneCell' = true := by
  intro x hx
  obtain ⟨y, _, rfl⟩ := List.mem_map.1 hx
  rfl
theorem apdI {LL : Value → List Res} (i : Nat) (hg : takenB ops n s g = true) (hx : ev n s x = v) (hy : ev n s y = u) (ht : P.underlying t = some (.slice e)) (hi : TI P e 1 by_ z) (hzs : z.cells.size = 1)
    (hst : St bs L w) (hL : L[i]? = some (rowI k v e ys)) (hs : Src w u 1 zs.length (zs.map (.int k))) (hb : (ys.length + zs.length) * by_ ≤ 140737488355328) (h63 : ys.length + zs.length ≤ 9223372036854775807)
    (hLL : ∀ v', L.set i (rowI k v' e (ys ++ zs)) = LL v')
    (K : ∀ v' w', St bs (LL v') w' → Chg v.ownBlock.toList w w' → WL r P ops Q rest (Fr n ((d, v') :: s) ds) w') :
    WL r P ops Q (⟨some d, .call ⟨.builtin .append, #[x, y], #[t, t]⟩, ty, pos, af, g⟩ :: rest) (Fr n s ds) w := by
  refine apd i hg hx hy ht hi hzs (by decide) hst hL hs (ints_one k zs) hb (by simp only [maxLen]; omega) fun v' w' h1 h2 => K v' w' ?_ h2
  rw [← hLL]
  simpa [rowI] using h1
theorem St.addNil (h : St bs L w) (e : TypeId) (sz : Nat) : St bs (row (.slice none 0 0) e sz 0 [] :: L) w :=
  h.add (lo := w.heap.size) (fun p hp => (h.base p hp).chg.size) h.lt (fun b hb => by simp [row, Value.ownBlock] at hb) (by simp [row, Value.ownBlock]) (fun b hb => by simp [row, Value.ownBlock] at hb) (World.ownsRow_nil w 0 e sz)
theorem St.addFresh {r : Value} (h : St bs L w) (hc : Chg [] w w') (hf : Fresh k w w' r e zs) : St bs (rowI k r e zs :: L) w' :=
  h.addNew hc (fun b hb => hf.place b (by simpa [row] using hb)) (by show r.ownBlock.toList.Nodup; cases r.ownBlock <;> simp) (fun b hb => ownsRow_block hf.own (by simpa [row] using hb)) hf.own
theorem St.took {r : Value} {LL : List Res} (i : Nat) (h : St bs L w) (hL : L[i]? = some (rowI k v e ys)) (ht : Took k w v w' r e zs) (hLL : L.set i (rowI k r e zs) = LL) : St bs LL w' := by
  subst hLL
  refine h.upd hL ht.chg (fun b hb => ?_) (by show r.ownBlock.toList.Nodup; cases r.ownBlock <;> simp) (fun b hb => ownsRow_block ht.own (by simpa [row] using hb)) ht.own
  rcases ht.place b (by simpa [row] using hb) with h1 | h1
  · exact .inl (by simp [row, h1])
  · exact .inr h1
theorem St.initRow (w : World) (h : RowIs k w v e ys) : St [(w, v.ownBlock.toList)] [rowI k v e ys] w := by
  have := St.initL w [rowI k v e ys] (fun R hR => by simp only [List.mem_singleton] at hR; subst hR; exact h) (by show (v.ownBlock.toList ++ []).Nodup; cases v.ownBlock <;> simp)
    (fun b hb => ownsRow_block h (by have : b ∈ v.ownBlock.toList ++ [] := hb; simpa using this))
  simpa [feet, row] using this
theorem St.endTook {r : Value} {w0 : World} {v0 : Value} (h : St bs (rowI k r e zs :: L) w) (hb : (w0, v0.ownBlock.toList) ∈ bs) : Took k w0 v0 w r e zs := by
  have hB := h.base _ hb
  refine ⟨h.own (rowI k r e zs) (by simp), hB.chg, fun b hb' => ?_⟩
  rcases hB.mine b (by rw [feet_cons]; simp [row, hb']) with h1 | h1
  · exact .inl (by simpa using h1)
  · exact .inr h1
theorem St.endFresh {r : Value} {w0 : World} (h : St bs (rowI k r e zs :: L) w) (hb : (w0, []) ∈ bs) : Fresh k w0 w r e zs := by
  have hB := h.base _ hb
  refine ⟨h.own (rowI k r e zs) (by simp), fun b hb' => ?_⟩
  rcases hB.mine b (by rw [feet_cons]; simp [row, hb']) with h1 | h1
  · simp at h1
  · exact h1
theorem Fresh.nil (k : IntKind) (w w' : World) (e : TypeId) : Fresh k w w' (.slice none 0 0) e [] := ⟨World.ownsRow_nil w' 0 e 1, fun b hb => by simp [Value.ownBlock] at hb⟩
theorem Took.len {r : Value} (h : Took k w v w' r e zs) : RowIs k w' r e zs := h.own
theorem Fresh.ints {r : Value} (h : Fresh k w w' r e zs) (hk : ∀ y ∈ zs, InK k y) : Ints k (fun b => w.heap.size ≤ b) w' r zs := by
  rcases h.own.2 with ⟨rfl, h0⟩ | ⟨g', cap, cur, rfl, _, hg, h1, h2, _⟩
  · have : zs = [] := List.eq_nil_of_length_eq_zero h0
    subst this
    exact Sl.nil _ _ _ _
  · refine ⟨_, cap, rfl, h1, h2, fun j y hj => ⟨g', 0, [.int k y], rfl, h.place g' rfl, rfl, ⟨rfl, hk y (List.mem_of_getElem? hj)⟩, fun q u hq => ?_⟩⟩
    cases q with
    | zero =>
      simp at hq
      subst hq
      have := h.own.cells (g := g') rfl j (.int k y) (by simp [hj])
      rw [Addr.add_lit] at this
      simpa using this
    | succ q => simp at hq
end
end Go.Sx
namespace Go.Sx
open Go
section
variable {Γ : Type} {r : Option Nat} {P : Program} {ops : Array Oper} {Q : Exit → Act → World → Prop} {n : Nat} {ds : List Deferred} {s0 : List (Nat × Value)} {l0 l : List Oper} {pre : List (List Nat)} {mem : List Nat} {V vs : List (Γ → Value)} {v : Γ → Value}
variable {bs : List (World × List Nat)} {Ls : List ((Γ → List Res) × (Γ → World → Prop))} {i lo : Nat} {s : Γ → List (Nat × Value)} {o : Oper} {L L' L1 L2 : Γ → List Res} {F F' F1 F2 : Γ → World → Prop}
def PhS (bs : List (World × List Nat)) (Ls : List ((Γ → List Res) × (Γ → World → Prop))) (p : Nat) (g : Γ) (w : World) : Prop :=
  match Ls[p]? with
  | some (L, F) => St bs (L g) w ∧ F g w
  | none => False
theorem PhS.at {p : Nat} (h : Ls[p]? = some (L, F)) {g : Γ} {w : World} : PhS bs Ls p g w ↔ (St bs (L g) w ∧ F g w) := by simp only [PhS, h]
theorem Stab.refl (g : Γ) : ∀ (V : List (Γ → Value)) (k : Nat), Stab pre i g g k V := by
  intro V
  induction V with
  | nil => intro k; trivial
  | cons v V ih => intro k; exact ⟨by cases ((pre.getD k []).contains i || k == i) <;> simp, ih (k + 1)⟩
theorem ob_n : Obl P ops Q n ds s0 l0 pre mem V (PhS bs Ls) i s [] [] := trivial
theorem ob_p (hm : mem.contains i = false) (h : ∀ g w C, QOb P ops n o (s g) (v g) C w) (K : Obl P ops Q n ds s0 l0 pre mem V (PhS bs Ls) (i + 1) (fun g => putR o.dst (v g) (s g)) l vs) :
    Obl P ops Q n ds s0 l0 pre mem V (PhS bs Ls) i s (o :: l) (v :: vs) := by
  refine ⟨?_, K⟩
  rw [hm]
  exact fun p g w _ _ _ => h g w _
theorem QOb.congr {C C' : World → Prop} {s : List (Nat × Value)} {v : Value} {w : World} (hC : ∀ w, C w → C' w) (h : QOb P ops n o s v C w) : QOb P ops n o s v C' w := by
  rcases h with ⟨h1, h2, h3 | ⟨f, args, h3, h4⟩⟩ | h
  · exact .inl ⟨h1, h2, .inl h3⟩
  · exact .inl ⟨h1, h2, .inr ⟨f, args, h3, h4.mono fun v' w' h => ⟨h.1, hC w' h.2⟩⟩⟩
  · exact .inr h
theorem ob_q1 (hm : mem.contains i = false) (hlo : loP pre mem i = lo) (hhi : hiP pre mem i = lo) (hL : Ls[lo]? = some (L, F))
    (h : ∀ g w, St bs (L g) w → F g w → QOb P ops n o (s g) (v g) (fun w' => St bs (L g) w' ∧ F g w') w) (K : Obl P ops Q n ds s0 l0 pre mem V (PhS bs Ls) (i + 1) (fun g => putR o.dst (v g) (s g)) l vs) :
    Obl P ops Q n ds s0 l0 pre mem V (PhS bs Ls) i s (o :: l) (v :: vs) := by
  refine ⟨?_, K⟩
  rw [hm]
  intro p g w h1 h2 hM
  obtain rfl : p = lo := by omega
  have hM' := (PhS.at hL).1 hM
  exact (h g w hM'.1 hM'.2).congr fun w' h => (PhS.at hL).2 h
theorem ob_q2 (hm : mem.contains i = false) (hlo : loP pre mem i = lo) (hhi : hiP pre mem i = lo + 1) (hL : Ls[lo]? = some (L, F)) (hL1 : Ls[lo + 1]? = some (L1, F1))
    (h : ∀ g w, St bs (L g) w → F g w → QOb P ops n o (s g) (v g) (fun w' => St bs (L g) w' ∧ F g w') w) (h' : ∀ g w, St bs (L1 g) w → F1 g w → QOb P ops n o (s g) (v g) (fun w' => St bs (L1 g) w' ∧ F1 g w') w)
    (K : Obl P ops Q n ds s0 l0 pre mem V (PhS bs Ls) (i + 1) (fun g => putR o.dst (v g) (s g)) l vs) :
    Obl P ops Q n ds s0 l0 pre mem V (PhS bs Ls) i s (o :: l) (v :: vs) := by
  refine ⟨?_, K⟩
  rw [hm]
  intro p g w h1 h2 hM
  rcases (show p = lo ∨ p = lo + 1 by omega) with rfl | rfl
  · have hM' := (PhS.at hL).1 hM
    exact (h g w hM'.1 hM'.2).congr fun w' h => (PhS.at hL).2 h
  · have hM' := (PhS.at hL1).1 hM
    exact (h' g w hM'.1 hM'.2).congr fun w' h => (PhS.at hL1).2 h
theorem ob_q3 (hm : mem.contains i = false) (hlo : loP pre mem i = lo) (hhi : hiP pre mem i = lo + 2) (hL : Ls[lo]? = some (L, F)) (hL1 : Ls[lo + 1]? = some (L1, F1)) (hL2 : Ls[lo + 2]? = some (L2, F2))
    (h : ∀ g w, St bs (L g) w → F g w → QOb P ops n o (s g) (v g) (fun w' => St bs (L g) w' ∧ F g w') w) (h' : ∀ g w, St bs (L1 g) w → F1 g w → QOb P ops n o (s g) (v g) (fun w' => St bs (L1 g) w' ∧ F1 g w') w)
    (h'' : ∀ g w, St bs (L2 g) w → F2 g w → QOb P ops n o (s g) (v g) (fun w' => St bs (L2 g) w' ∧ F2 g w') w)
    (K : Obl P ops Q n ds s0 l0 pre mem V (PhS bs Ls) (i + 1) (fun g => putR o.dst (v g) (s g)) l vs) :
    Obl P ops Q n ds s0 l0 pre mem V (PhS bs Ls) i s (o :: l) (v :: vs) := by
  refine ⟨?_, K⟩
  rw [hm]
  intro p g w h1 h2 hM
  rcases (show p = lo ∨ p = lo + 1 ∨ p = lo + 2 by omega) with rfl | rfl | rfl
  · have hM' := (PhS.at hL).1 hM
    exact (h g w hM'.1 hM'.2).congr fun w' h => (PhS.at hL).2 h
  · have hM' := (PhS.at hL1).1 hM
    exact (h' g w hM'.1 hM'.2).congr fun w' h => (PhS.at hL1).2 h
  · have hM' := (PhS.at hL2).1 hM
    exact (h'' g w hM'.1 hM'.2).congr fun w' h => (PhS.at hL2).2 h
theorem MOb.mono {s : List (Nat × Value)} {w : World} {N N' : Value → World → Prop} (hN : ∀ v w, N v w → N' v w) (h : MOb P ops Q n ds s0 l0 o s N w) : MOb P ops Q n ds s0 l0 o s N' w := by
  rcases h with ⟨h1, h2, ⟨v, w', h3, h4⟩ | ⟨w', h3, h4⟩ | ⟨f, args, h3, h4⟩⟩ | ⟨h1, h2⟩
  · exact .inl ⟨h1, h2, .inl ⟨v, w', h3, hN _ _ h4⟩⟩
  · exact .inl ⟨h1, h2, .inr (.inl ⟨w', h3, hN _ _ h4⟩)⟩
  · refine .inl ⟨h1, h2, .inr (.inr ⟨f, args, h3, Calls.mono h4 fun e w' he => ?_⟩)⟩
    cases e with
    | returned v => exact hN _ _ he
    | panicked ch => exact he
    | outgrown => exact he
  · exact .inr ⟨h1, hN _ _ h2⟩
theorem ob_m {k : Nat} (hm : mem.contains i = true) (hk : mem.idxOf i = k) (hL : Ls[k]? = some (L, F)) (hL' : Ls[k + 1]? = some (L', F'))
    (h : ∀ g w, St bs (L g) w → F g w → MOb P ops Q n ds s0 l0 o (s g) (fun v' w' => ∃ g', (St bs (L' g') w' ∧ F' g' w') ∧ v' = v g' ∧ Stab pre i g g' 0 V) w)
    (K : Obl P ops Q n ds s0 l0 pre mem V (PhS bs Ls) (i + 1) (fun g => putR o.dst (v g) (s g)) l vs) :
    Obl P ops Q n ds s0 l0 pre mem V (PhS bs Ls) i s (o :: l) (v :: vs) := by
  refine ⟨?_, K⟩
  rw [hm, hk]
  intro g w hM
  have hM' := (PhS.at hL).1 hM
  exact (h g w hM'.1 hM'.2).mono fun v' w' ⟨g', h1, h2, h3⟩ => ⟨g', (PhS.at hL').2 h1, h2, h3⟩
theorem rgs {id : Nat} {w : World} (hm : P.follows .mixedOrders = true) (pre : List (List Nat)) (mem : List Nat) (hok : regOk l pre mem = true) (V : List (Γ → Value)) (Ls : List ((Γ → List Res) × (Γ → World → Prop))) (g0 : Γ)
    (sE : Γ → List (Nat × Value)) (hL : Ls[0]? = some (L, F)) (hst : St bs (L g0) w) (hF : ∀ w', Chg [] w w' → F g0 w') (hO : Obl P l.toArray Q n ds s0 l pre mem V (PhS bs Ls) 0 (fun _ => s0) l V)
    (hE : ∀ g, slS (fun _ => true) 0 l (V.map (· g)) s0 = sE g) (hLe : Ls[mem.length]? = some (L', F'))
    (hend : ∀ g w', St bs (L' g) w' → F' g w' → Q .normal (Fr n (sE g) ds) w') : WP r P (.region id l.toArray true) Q (Fr n s0 ds) w :=
  rgd hm pre mem hok V (PhS bs Ls) g0 sE ((PhS.at hL).2 ⟨hst.grow (Chg.drew [] w), hF _ (Chg.drew [] w)⟩) hO hE fun g w' h => hend g w' ((PhS.at hLe).1 h).1 ((PhS.at hLe).1 h).2
theorem St.drew {L : List Res} {w : World} (h : St bs L w) : St bs L w.drew := h.grow (Chg.drew [] w)
end
def adr (sz : Nat) (v : Value) (i : Nat) : Value := match v with
  | .slice (some ⟨b, o, _⟩) _ _ => .pointer (some ⟨b, o + i * sz, none⟩)
  | _ => .pointer none
def cutV (sz : Nat) (v : Value) (l h : Nat) : Value := match v with
  | .slice a _ c => .slice (if c = l then a else a.map (·.add (l * sz))) (h - l) (c - l)
  | _ => v
section
variable {P : Program} {n : Nat} {s : List (Nat × Value)} {w : World} {dd : Option Nat} {ty : TypeId} {pos : String} {af : Array Edge} {g : Option (Nat × Bool)} {v : Value} {x y : Operand} {t e : TypeId} {sz by_ : Nat} {z : Value} {u : TypeDesc}
theorem Sl.cutV {α : Type} {sz : Nat} {enc : World → α → List Value → Prop} {ok : Nat → Prop} {w : World} {v : Value} {xs : List α} {l h : Nat} (hs : Sl sz enc ok w v xs) (hlh : l ≤ h) (hh : h ≤ xs.length) : Sl sz enc ok w (Go.Sx.cutV sz v l h) ((xs.take h).drop l) := by
  obtain ⟨a, c, rfl, h1, h2, h3⟩ := hs
  have hI : Sl sz enc ok w (.slice a xs.length c) xs := ⟨a, c, rfl, h1, h2, h3⟩
  exact hI.cut hlh hh
theorem lenI_r {α : Type} {enc : World → α → List Value → Prop} {ok : Nat → Prop} {w0 : World} {ys : List α} (hx : ev n s x = v) (ht : P.underlying t = some (.slice e)) (hI : Sl sz enc ok w0 v ys) :
    (execOp (ev n s) ⟨dd, .call ⟨.builtin .len, #[x], #[t]⟩, ty, pos, af, g⟩).run P w = .ok (.value (.int .i64 ys.length)) w := by
  obtain ⟨a, c, rfl, _⟩ := hI
  exact lenS_r hx ht
theorem ixI_r {α : Type} {k' : IntKind} {enc : World → α → List Value → Prop} {ok : Nat → Prop} {w0 : World} {ys : List α} {i : Int} {el : α} (hx : ev n s x = v) (hy : ev n s y = .int k' i) (ht : P.underlying t = some (.slice e)) (hi : TI P e sz by_ z)
    (hI : Sl sz enc ok w0 v ys) (h0 : 0 ≤ i) (hel : ys[i.toNat]? = some el) :
    (execOp (ev n s) ⟨dd, .indexAddr t x y, ty, pos, af, g⟩).run P w = .ok (.value (adr sz v i.toNat)) w := by
  have hlt := (List.getElem?_eq_some_iff.1 hel).1
  obtain ⟨a, c, rfl, _, _, h3⟩ := hI
  obtain ⟨b, o, vs, rfl, _, hl, _, hc⟩ := h3 i.toNat el hel
  exact ixa_r hx hy ht hi ⟨h0, by omega⟩ rfl
theorem ldI_r {k : IntKind} {ok : Nat → Prop} {ys : List Int} {i : Nat} {el : Int} (hx : ev n s x = adr 1 v i) (hu : P.underlying t = some u) (hn : isAggD u = false) (hI : Ints k ok w v ys) (hel : ys[i]? = some el) :
    (execOp (ev n s) ⟨dd, .load t x, ty, pos, af, g⟩).run P w = .ok (.value (.int k el)) w := by
  obtain ⟨a, c, rfl, _, _, h3⟩ := hI
  obtain ⟨b, o, vs, rfl, _, hl, ⟨rfl, _⟩, hc⟩ := h3 i el hel
  refine ld_r (a := ⟨b, o + i * 1, none⟩) hx hu hn ?_
  have := hc 0 (.int k el) (by simp)
  simpa using this
theorem ldE_r {α : Type} {enc : World → α → List Value → Prop} {ok : Nat → Prop} {ys : List α} {i : Nat} {el : α} {cs : List Value} (hx : ev n s x = adr sz v i) (hu : P.underlying t = some u) (hn : isAggD u = true) (ht : TI P t sz by_ z)
    (hI : Sl sz enc ok w v ys) (hel : ys[i]? = some el) (hcs : ∀ vs, enc w el vs → vs = cs) :
    (execOp (ev n s) ⟨dd, .load t x, ty, pos, af, g⟩).run P w = .ok (.value (.agg cs.toArray)) w := by
  obtain ⟨a, c, rfl, _, _, h3⟩ := hI
  obtain ⟨b, o, vs, rfl, _, hl, he, hc⟩ := h3 i el hel
  obtain rfl := hcs vs he
  refine ldA_r (b := b) (o := o + i * sz) hx hu hn ht hl fun j u hj => ?_
  have := hc j u hj
  simpa using this
theorem slI_r {α : Type} {enc : World → α → List Value → Prop} {ok : Nat → Prop} {w0 : World} {ys : List α} {low high : Option Operand} {l h : Nat} (hx : ev n s x = v) (ht : P.underlying t = some (.slice e)) (hi : TI P e sz by_ z)
    (hI : Sl sz enc ok w0 v ys) (hlo : match low with | none => l = 0 | some p => ∃ k, ev n s p = .int k (l : Int)) (hhi : match high with | none => h = ys.length | some p => ∃ k, ev n s p = .int k (h : Int)) (hlh : l ≤ h) (hh : h ≤ ys.length) :
    (execOp (ev n s) ⟨dd, .slice t x low high none, ty, pos, af, g⟩).run P w = .ok (.value (Go.Sx.cutV sz v l h)) w := by
  obtain ⟨a, c, rfl, h1, h2, h3⟩ := hI
  have b1 : ∀ (m : Nat) (code : BoundsCode) (k : IntKind) (q : Nat), q ≤ m → (Instr.sliceBound (.int k (q : Int)) m code).run P w = .ok q w := by
    intro m code k q hq
    have : (0 : Int) ≤ (q : Int) ∧ (q : Int) ≤ (m : Int) := by omega
    simp [Instr.sliceBound, asIntOf, this]
  have hc : h ≤ c := by omega
  have hlc : l ≤ ys.length := by omega
  cases low with
  | none =>
    simp only at hlo
    subst hlo
    cases high with
    | none =>
      simp only at hhi
      subst hhi
      simp [execOp, hx, Instr.sliceAt, Instr.slice, run_underlying ht, Instr.sliceBounds, hi.size, Go.Sx.cutV]
    | some p =>
      obtain ⟨k, hp⟩ := hhi
      simp [execOp, hx, hp, Instr.sliceAt, Instr.slice, run_underlying ht, Instr.sliceBounds, hi.size, b1 _ _ _ _ hc, Go.Sx.cutV]
  | some q =>
    obtain ⟨k, hq⟩ := hlo
    cases high with
    | none =>
      simp only at hhi
      subst hhi
      simp [execOp, hx, hq, Instr.sliceAt, Instr.slice, run_underlying ht, Instr.sliceBounds, hi.size, b1 _ _ _ _ hlc, Go.Sx.cutV]
    | some p =>
      obtain ⟨k', hp⟩ := hhi
      simp [execOp, hx, hq, hp, Instr.sliceAt, Instr.slice, run_underlying ht, Instr.sliceBounds, hi.size, b1 _ _ _ _ hc, b1 _ _ _ _ hlh, Go.Sx.cutV]
end
section
variable {Γ : Type} {P : Program} {ops : Array Oper} {Q : Exit → Act → World → Prop} {n : Nat} {s s0 : List (Nat × Value)} {ds : List Deferred} {w : World} {o : Oper} {v u : Value} {l : List Oper} {Nx : Value → World → Prop}
variable {dd : Option Nat} {d : Nat} {ty : TypeId} {pos : String} {af : Array Edge} {g : Option (Nat × Bool)} {x y : Operand} {t e : TypeId} {sz by_ cnt : Nat} {z : Value} {bs : List (World × List Nat)} {L L' : List Res} {news : List Value}
variable {pre : List (List Nat)} {i : Nat} {V : List (Γ → Value)} {a b : Γ} {k : Nat} {f : Γ → Value}
theorem st_c (h : bif (pre.getD k []).contains i || k == i then True else f b = f a) (K : Stab pre i a b (k + 1) V) : Stab pre i a b k (f :: V) := ⟨h, K⟩
theorem st_n : Stab pre i a b k [] := trivial
theorem m_sto {b o : Nat} {T : TypeId} {cs cs' vs : List Value} (i : Nat) (hg : takenB ops n s g = true) (hx : ev n s x = .pointer (some ⟨b, o, none⟩)) (hy : ev n s y = v) (hvs : v.cells.toList = vs)
    (ht : TI P t sz by_ z) (hsz : vs.length = sz) (h1 : vs.all (·.oneCell') = true) (hst : St bs L w) (hi : L[i]? = some (blk b T cs)) (hfit : Nat.ble (o + vs.length) cs.length = true)
    (hcs : setAt cs o vs = cs') (hL : L.set i (blk b T cs') = L') (K : ∀ w', St bs L' w' → Nx undef w') :
    MOb P ops Q n ds s0 l ⟨none, .store t x y, ty, pos, af, g⟩ s Nx w := by
  obtain ⟨w', h2, h3, h4⟩ := sto_r (dd := none) (ty := ty) (pos := pos) (af := af) (g := g) i hx hy hvs ht hsz h1 hst hi (Nat.le_of_ble_eq_true hfit) hcs hL
  exact mun hg rfl h2 (K w' h3)
theorem m_al {cs : List Value} (hg : takenB ops n s g = true) (ht : TI P t sz by_ z) (hcs : z.cells.toList = cs) (hst : St bs L w)
    (K : ∀ b w', St bs (blk b t cs :: L) w' → Nx (.pointer (some ⟨b, 0, none⟩)) w') : MOb P ops Q n ds s0 l ⟨dd, .alloc t, ty, pos, af, g⟩ s Nx w := by
  subst hcs
  refine mvl (v := .pointer (some ⟨w.heap.size, 0, none⟩)) (w' := w.alloc (.cells z.cells t)) hg rfl ?_ (K _ _ ?_)
  · simp only [execOp, Instr.alloc, Sem.run_bind, ht.zeroRun, Result.andThen_ok]
    rfl
  · have := newBlk hst t z.cells.toList
    simpa using this
theorem m_bx {cs : List Value} (hg : takenB ops n s g = true) (hx : ev n s x = v) (hcs : v.cells.toList = cs) (hst : St bs L w)
    (K : ∀ b w', St bs (blk b t cs :: L) w' → Nx (.pointer (some ⟨b, 0, none⟩)) w') : MOb P ops Q n ds s0 l ⟨dd, .box t x, ty, pos, af, g⟩ s Nx w := by
  subst hcs
  refine mvl (v := .pointer (some ⟨w.heap.size, 0, none⟩)) (w' := w.alloc (.cells v.cells t)) hg rfl ?_ (K _ _ ?_)
  · simp only [execOp, hx, Instr.box]
    rfl
  · have := newBlk hst t v.cells.toList
    simpa using this
theorem m_cpy {b o dl dc : Nat} {T : TypeId} {cs cs' : List Value} {t' : TypeId} (i : Nat) (hg : takenB ops n s g = true) (hx : ev n s x = .slice (some ⟨b, o, none⟩) dl dc) (hy : ev n s y = u) (ht : P.underlying t = some (.slice e)) (hi : TI P e 1 by_ z)
    (hs : Src w u 1 cnt news) (h1 : ∀ x ∈ news, x.oneCell' = true) (hst : St bs L w) (hL : L[i]? = some (blk b T cs)) (hfit : o + min cnt dl ≤ cs.length) (hcs : setAt cs o (news.take dl) = cs') (hL' : L.set i (blk b T cs') = L')
    (K : ∀ w', St bs L' w' → Nx (.int .i64 ((min cnt dl : Nat) : Int)) w') :
    MOb P ops Q n ds s0 l ⟨dd, .call ⟨.builtin .copy, #[x, y], #[t, t']⟩, ty, pos, af, g⟩ s Nx w := by
  obtain ⟨w', h2, h3, h4⟩ := cpy_r (dd := dd) (ty := ty) (pos := pos) (af := af) (g := g) (t' := t') hx hy ht hi hs h1 hst hL hfit hcs hL'
  exact mvl hg rfl h2 (K w' h3)
end
end Go.Sx
namespace Go.Sx
open Go
section
variable {w w' w0 : World} {bs : List (World × List Nat)} {L : List Res} {b : Nat} {T : TypeId} {cs cs' : List Value}
theorem St.initBlk (w : World) (h : (blk b T cs).holds w) : St [(w, [b])] [blk b T cs] w := by
  have := St.initL w [blk b T cs] (fun R hR => by simp only [List.mem_singleton] at hR; subst hR; exact h) (by simp [feet, blk])
    (fun c hc => by
      simp only [feet, List.flatMap_cons, List.flatMap_nil, List.append_nil, blk, List.mem_singleton] at hc
      subst hc
      exact (Array.getElem?_eq_some_iff.1 (show w.heap[c]? = _ from h)).1)
  simpa [feet, blk] using this
theorem St.updB {LL : List Res} (i : Nat) (h : St bs L w) (hL : L[i]? = some (blk b T cs)) (hh : (blk b T cs').holds w') (hc : Chg [b] w w') (hLL : L.set i (blk b T cs') = LL) : St bs LL w' := by
  subst hLL
  exact h.upd hL hc (fun x hx => .inl hx) (by simp [blk]) (fun x hx => by
    simp only [blk, List.mem_singleton] at hx
    subst hx
    exact (Array.getElem?_eq_some_iff.1 (show w'.heap[x]? = _ from hh)).1) hh
theorem Sl.old {α : Type} {sz : Nat} {enc : World → α → List Value → Prop} {ok : Nat → Prop} {v : Value} {xs : List α} (h : Sl sz enc ok w v xs) (hp : 0 < sz) : Sl sz enc (fun b => ok b ∧ b < w.heap.size) w v xs := by
  obtain ⟨a, c, e, h1, h2, h3⟩ := h
  refine ⟨a, c, e, h1, h2, fun i x hi => ?_⟩
  obtain ⟨b, o, vs, ha, hb, hl, hx, hc⟩ := h3 i x hi
  refine ⟨b, o, vs, ha, ⟨hb, ?_⟩, hl, hx, hc⟩
  cases vs with
  | nil => simp at hl; omega
  | cons u vs => exact World.block_lt_of_cell? w _ (hc 0 u rfl)
theorem St.size {X : List Nat} (h : St bs L w) (hb : (w0, X) ∈ bs) : w0.heap.size ≤ w.heap.size := (h.chg hb).size
end
end Go.Sx
namespace Go.Sx
open Go
section
variable {P : Program} {n : Nat} {s : List (Nat × Value)} {w : World} {fn : Func} {bs : List (World × List Nat)} {L : List Res} {x y z : ResultVar} {v v' v'' : Value} {t : TypeId} {u : TypeDesc}
def RV (P : Program) (n : Nat) (s : List (Nat × Value)) (w : World) (v : Value) : ResultVar → Prop
  | .tmp t => ev n s (.tmp t) = v
  | .cell a T => ∃ ad, ev n s (.tmp a) = .pointer (some ad) ∧ (loadVar T ad).run P w = .ok v w
def rvS (tmps : Array Value) : ResultVar → Sem Value
  | .tmp t => pure (tmps.getD t undef)
  | .cell a t => do loadVar t (← asAddr (tmps.getD a undef))
theorem rv_run (h : RV P n s w v x) : (rvS (Fr n s []).tmps x).run P w = .ok v w := by
  cases x with
  | tmp t => simp only [rvS, Sem.run_pure]; rw [getD_Fr]; rw [show ev n s (.tmp t) = v from h]
  | cell a T =>
    obtain ⟨ad, h1, h2⟩ := h
    simp only [rvS, Sem.run_bind]
    rw [getD_Fr, h1]
    simp [asAddr, h2]
theorem results_rvS (tmps : Array Value) : results fn tmps = (do let vs ← fn.results.mapM (rvS tmps); pure (if h : vs.size = 1 then vs[0] else .tuple vs)) := by
  unfold results
  congr 2
theorem resL2 (hr : fn.results = #[x, y]) (h1 : RV P n s w v x) (h2 : RV P n s w v' y) : (results fn (Fr n s []).tmps).run P w = .ok (.tuple #[v, v']) w := by
  rw [results_rvS, hr]
  simp [Sem.run_bind, Result.andThen, rv_run h1, rv_run h2]
theorem resL3 (hr : fn.results = #[x, y, z]) (h1 : RV P n s w v x) (h2 : RV P n s w v' y) (h3 : RV P n s w v'' z) : (results fn (Fr n s []).tmps).run P w = .ok (.tuple #[v, v', v'']) w := by
  rw [results_rvS, hr]
  simp [Sem.run_bind, Result.andThen, rv_run h1, rv_run h2, rv_run h3]
theorem retL2 {R : Value → World → Prop} (hr : fn.results = #[x, y]) (h1 : RV P n s w v x) (h2 : RV P n s w v' y) (h : R (.tuple #[v, v']) w) :
    bodyPost P fn (fun e w' => ∃ v, e = .returned v ∧ R v w') .ret (Fr n s []) w := ⟨rfl, _, resL2 hr h1 h2, _, rfl, h⟩
theorem retL3 {R : Value → World → Prop} (hr : fn.results = #[x, y, z]) (h1 : RV P n s w v x) (h2 : RV P n s w v' y) (h3 : RV P n s w v'' z) (h : R (.tuple #[v, v', v'']) w) :
    bodyPost P fn (fun e w' => ∃ v, e = .returned v ∧ R v w') .ret (Fr n s []) w := ⟨rfl, _, resL3 hr h1 h2 h3, _, rfl, h⟩
theorem rvT {t : Nat} (h : ev n s (.tmp t) = v) : RV P n s w v (.tmp t) := h
theorem rvC {a b o : Nat} {T : TypeId} (hx : ev n s (.tmp a) = .pointer (some ⟨b, o, none⟩)) (hu : P.underlying T = some u) (hn : isAggD u = false) (hv : w.cell? ⟨b, o, none⟩ = some v) : RV P n s w v (.cell a T) :=
  ⟨_, hx, by simp only [loadVar, Sem.run_bind, run_isAgg hu, hn, Result.andThen_ok]; simp [load, Sem.run, hv]⟩
theorem rvA {a b o sz by_ : Nat} {T : TypeId} {cs : List Value} {z : Value} (hx : ev n s (.tmp a) = .pointer (some ⟨b, o, none⟩)) (hu : P.underlying T = some u) (hn : isAggD u = true) (ht : TI P T sz by_ z)
    (hl : cs.length = sz) (hv : ∀ j u, cs[j]? = some u → w.cell? ⟨b, o + j, none⟩ = some u) : RV P n s w (.agg cs.toArray) (.cell a T) := by
  subst hl
  have := run_loadCells_list (P := P) w ⟨b, o, none⟩ cs (fun j u hj => by rw [Addr.add_lit]; exact hv j u hj)
  exact ⟨_, hx, by simp only [loadVar, Sem.run_bind, run_isAgg hu, hn, Result.andThen_ok, ht.size, this, if_true, Sem.run_pure]⟩
end
end Go.Sx
namespace Go.Sx
open Go
section
variable {P : Program} {n : Nat} {s : List (Nat × Value)} {w : World} {v : Value} {T : TypeId} {sz by_ : Nat} {z : Value} {bs : List (World × List Nat)} {L : List Res}
theorem cells_one (h : v.oneCell' = true) : v.cells.toList = [v] := by cases v <;> first | rfl | (simp [Value.oneCell'] at h)
theorem Sl.one1 {α : Type} {sz : Nat} {enc : World → α → List Value → Prop} {ok : Nat → Prop} {xs : List α} (h : Sl sz enc ok w v xs) : v.oneCell' = true := by
  obtain ⟨a, c, rfl, _⟩ := h
  rfl
theorem owns_one {e : TypeId} {m : Nat} {xs : List Value} (h : w.ownsRow 0 e sz v m xs) : v.oneCell' = true := by
  rcases h.2 with ⟨rfl, _⟩ | ⟨g, cap, cur, rfl, _⟩ <;> rfl
theorem St.row1 {i : Nat} {e : TypeId} {m : Nat} {xs : List Value} (h : St bs L w) (hi : L[i]? = some (row v e sz m xs)) : v.oneCell' = true := owns_one (h.own _ (List.mem_of_getElem? hi))
theorem all0 : ([] : List Value).all (·.oneCell') = true := rfl
theorem all1 {l : List Value} (h : v.oneCell' = true) (k : l.all (·.oneCell') = true) : (v :: l).all (·.oneCell') = true := by simp only [List.all_cons, h, k, Bool.and_self]
theorem St.at {R : Res} {i : Nat} (h : St bs L w) (hi : L[i]? = some R) : R.holds w := h.own _ (List.mem_of_getElem? hi)
def fillL (pl : List (Nat × Nat)) : List Value → List (Nat × List Value) → Option (List Value)
  | cs, [] => some cs
  | cs, (i, vs) :: rest => match pl[i]? with
    | none => none
    | some (off, sz) => bif Nat.beq vs.length sz && Nat.ble (off + vs.length) cs.length then fillL pl (setAt cs off vs) rest else none
def CellsOf : List (Nat × Value) → List (Nat × List Value) → Prop
  | [], [] => True
  | (i, v) :: l, (j, vs) :: m => i = j ∧ v.cells.toList = vs ∧ CellsOf l m
  | _, _ => False
theorem fill_fillL (pl : List (Nat × Nat)) : ∀ (ps : List (Nat × Value)) (qs : List (Nat × List Value)) (cs out : List Value), CellsOf ps qs → fillL pl cs qs = some out → Instr.fill (pl.toArray[·]?) cs.toArray ps = some out.toArray := by
  intro ps
  induction ps with
  | nil =>
    intro qs cs out h hf
    cases qs with
    | nil => simp only [fillL, Option.some.injEq] at hf; subst hf; rfl
    | cons q qs => cases h
  | cons p ps ih =>
    intro qs cs out h hf
    cases qs with
    | nil => cases h
    | cons q qs =>
      obtain ⟨i, v⟩ := p
      obtain ⟨j, vs⟩ := q
      obtain ⟨rfl, hv, h⟩ := h
      simp only [fillL] at hf
      simp only [Instr.fill, List.getElem?_toArray]
      cases hp : pl[i]? with
      | none => rw [hp] at hf; cases hf
      | some p =>
        obtain ⟨off, sz⟩ := p
        rw [hp] at hf
        simp only at hf
        cases hb : (Nat.beq vs.length sz && Nat.ble (off + vs.length) cs.length) with
        | false => rw [hb] at hf; cases hf
        | true =>
          rw [hb] at hf
          simp only [cond_true] at hf
          rw [Bool.and_eq_true] at hb
          have h1 : vs.length = sz := Nat.eq_of_beq_eq_true hb.1
          have h2 := Nat.le_of_ble_eq_true hb.2
          have hs : v.cells.size = vs.length := by rw [← hv]; simp
          simp only [hs]
          rw [if_neg (by simp; omega)]
          have hfo := foldl_set off v.cells.toList 0 cs.toArray (by simp [hs]; omega)
          have hz : Array.foldl (fun cs (q : Value × Nat) => cs.setIfInBounds (off + q.2) q.1) cs.toArray v.cells.zipIdx = (setAt cs off vs).toArray := by
            rw [← Array.foldl_toList, Array.toList_zipIdx]
            simp only [Nat.add_zero, Array.length_toList, hs, hv] at hfo ⊢
            rw [hfo]
            simp [setAt]
          rw [show (Array.foldl (fun cs (x : Value × Nat) => match x with | (c, j) => cs.setIfInBounds (off + j) c) cs.toArray v.cells.zipIdx) = _ from hz]
          simpa only [List.getElem?_toArray] using ih qs _ out h hf
def PLs (P : Program) (T : TypeId) (pl : List (Nat × Nat)) : Prop :=
  ∃ fields, P.underlying T = some (.struct fields) ∧ ∀ w, (fields.mapM (fun f => do pure (f.offset, ← sizeOf f.type) : Field → Sem (Nat × Nat))).run P w = .ok pl.toArray w
theorem buildS {pl : List (Nat × Nat)} {ps : List (Nat × Value)} (qs : List (Nat × List Value)) {cs out : List Value} (ht : TI P T sz by_ z) (hp : PLs P T pl) (hz : z.cells.toList = cs) (hc : CellsOf ps qs) (hf : fillL pl cs qs = some out) (w : World) :
    (Instr.build T ps.toArray).run P w = .ok (.agg out.toArray) w := by
  obtain ⟨fields, hu, hm⟩ := hp
  have := fill_fillL pl ps qs cs out hc hf
  subst hz
  simp only [Array.toArray_toList] at this
  simp only [Instr.build, Sem.run_bind, ht.zeroRun, Result.andThen_ok, run_underlying hu, hm, this, Sem.run_pure]
theorem buildA {e : TypeId} {len szE byE : Nat} {zE : Value} {ps : List (Nat × Value)} (qs : List (Nat × List Value)) {cs out : List Value} (ht : TI P T sz by_ z) (hu : P.underlying T = some (.array len e)) (hE : TI P e szE byE zE) (hz : z.cells.toList = cs)
    (hc : CellsOf ps qs) (hf : fillL ((List.range len).map fun i => (i * szE, szE)) cs qs = some out) (hlt : ∀ p ∈ ps, p.1 < len) (w : World) :
    (Instr.build T ps.toArray).run P w = .ok (.agg out.toArray) w := by
  have h1 := fill_fillL _ ps qs cs out hc hf
  have h2 : ∀ (l : List (Nat × Value)) (arr : Array Value), (∀ p ∈ l, p.1 < len) → Instr.fill (fun i => some (i * szE, szE)) arr l = Instr.fill ((((List.range len).map fun i => (i * szE, szE)).toArray)[·]?) arr l := by
    intro l
    induction l with
    | nil => intro arr _; rfl
    | cons p l ih =>
      intro arr h
      obtain ⟨i, v⟩ := p
      have hi := h (i, v) (by simp)
      simp only at hi
      simp only [Instr.fill, List.getElem?_toArray, List.getElem?_map, List.getElem?_range hi, Option.map_some]
      split
      · rfl
      · simpa only [List.getElem?_toArray, List.getElem?_map] using ih _ (fun p hp => h p (by simp [hp]))
  subst hz
  simp only [Array.toArray_toList] at h1
  simp only [Instr.build, Sem.run_bind, ht.zeroRun, Result.andThen_ok, run_underlying hu, hE.size, h2 _ _ hlt, h1, Sem.run_pure]
end
end Go.Sx
namespace Go.Sx
open Go
section
variable {P : Program} {n : Nat} {s : List (Nat × Value)} {w : World} {dd : Option Nat} {ty : TypeId} {pos : String} {af : Array Edge} {g : Option (Nat × Bool)} {x : Operand} {name : String} {az : List Operand} {T : Array TypeId} {t : TypeId} {v : Value} {f : FuncId} {vl al : List Value}
theorem inv_r (hx : ev n s x = .iface t v) (hvs : az.map (ev n s) = al) (hm : ∀ w, (callMethod (.iface t v) name al.toArray).run P w = .ok (.enter f vl.toArray) w) :
    (execOp (ev n s) ⟨dd, .call ⟨.invoke x name, az.toArray, T⟩, ty, pos, af, g⟩).run P w = .ok (.enter f vl.toArray) w := by
  have h1 : (#[Value.iface t v] ++ al.toArray)[0]? = some (.iface t v) := by simp
  have h2 : (#[Value.iface t v] ++ al.toArray).extract 1 (#[Value.iface t v] ++ al.toArray).size = al.toArray := by
    apply Array.ext' ; simp
  simp only [execOp, resolve, invoke, map_toArray', hvs, hx, Sem.run_bind, Sem.run_pure, Result.andThen_ok, h1, h2, hm]
theorem nilcM_r {fi ca : List Value} (hx : ev n s x = .func (.method name) (.iface t v :: fi).toArray ca.toArray) (hn : ∀ w, (nilAhead (P.types.size + Made.depth) t v name).run P w = .ok (some false) w) :
    (execOp (ev n s) ⟨dd, .nilCheck x, ty, pos, af, g⟩).run P w = .ok (.value (.func (.method name) (.iface t v :: fi).toArray ca.toArray)) w := by
  simp [execOp, hx, hn]
end
section
variable {w w' : World} {bs : List (World × List Nat)} {L : List Res}
def two (R R' : Res) : Res where
  foot := R.foot ++ R'.foot
  holds w := R.holds w ∧ R'.holds w
  loc w w' h hh := ⟨R.loc w w' (fun b hb => h b (List.mem_append_left _ hb)) hh.1, R'.loc w w' (fun b hb => h b (List.mem_append_right _ hb)) hh.2⟩
theorem feet_two (R R' : Res) (L : List Res) : feet (two R R' :: L) = feet (R :: R' :: L) := by simp [feet, two]
theorem St.merge {R R' : Res} (h : St bs (R :: R' :: L) w) : St bs (two R R' :: L) w := by
  refine ⟨fun p hp => ⟨(h.base p hp).chg, fun b hb => (h.base p hp).mine b (by rw [← feet_two]; exact hb)⟩, fun Q hQ => ?_, by rw [feet_two]; exact h.sep, fun b hb => h.lt b (by rw [← feet_two]; exact hb)⟩
  rcases List.mem_cons.1 hQ with rfl | hQ
  · exact ⟨h.own R (by simp), h.own R' (by simp)⟩
  · exact h.own Q (by simp [hQ])
theorem St.unmerge {R R' : Res} (h : St bs (two R R' :: L) w) : St bs (R :: R' :: L) w := by
  have ht := h.own (two R R') (by simp)
  refine ⟨fun p hp => ⟨(h.base p hp).chg, fun b hb => (h.base p hp).mine b (by rw [feet_two]; exact hb)⟩, fun Q hQ => ?_, by rw [← feet_two]; exact h.sep, fun b hb => h.lt b (by rw [feet_two]; exact hb)⟩
  rcases List.mem_cons.1 hQ with rfl | hQ
  · exact ht.1
  rcases List.mem_cons.1 hQ with rfl | hQ
  · exact ht.2
  · exact h.own Q (by simp [hQ])
theorem St.upd2 {a b : Nat} {A B : TypeId} {cs cs' ds ds' : List Value} (h : St bs (blk a A cs :: blk b B ds :: L) w) (h1 : (blk a A cs').holds w') (h2 : (blk b B ds').holds w') (hc : Chg [a, b] w w') : St bs (blk a A cs' :: blk b B ds' :: L) w' := by
  have hab : a ≠ b := by
    have := h.sep
    simp only [feet, List.flatMap_cons, blk] at this
    intro e
    subst e
    simp at this
  refine (h.merge.upd (i := 0) (R' := two (blk a A cs') (blk b B ds')) rfl hc (fun x hx => .inl hx) ?_ ?_ ⟨h1, h2⟩).unmerge
  · simp [two, blk, hab]
  · intro x hx
    simp only [two, blk, List.cons_append, List.nil_append, List.mem_cons, List.not_mem_nil, or_false] at hx
    rcases hx with rfl | rfl
    · exact (Array.getElem?_eq_some_iff.1 (show w'.heap[x]? = _ from h1)).1
    · exact (Array.getElem?_eq_some_iff.1 (show w'.heap[x]? = _ from h2)).1
theorem St.init2 {a b : Nat} {A B : TypeId} {cs ds : List Value} (w : World) (h1 : (blk a A cs).holds w) (h2 : (blk b B ds).holds w) (hab : a ≠ b) : St [(w, [a, b])] [blk a A cs, blk b B ds] w := by
  have := St.initL w [blk a A cs, blk b B ds] (fun R hR => by
    simp only [List.mem_cons, List.not_mem_nil, or_false] at hR
    rcases hR with rfl | rfl
    · exact h1
    · exact h2) (by simp [feet, blk, hab]) (fun x hx => by
    simp only [feet, List.flatMap_cons, List.flatMap_nil, List.append_nil, blk, List.cons_append, List.nil_append, List.mem_cons, List.not_mem_nil, or_false] at hx
    rcases hx with rfl | rfl
    · exact (Array.getElem?_eq_some_iff.1 (show w.heap[x]? = _ from h1)).1
    · exact (Array.getElem?_eq_some_iff.1 (show w.heap[x]? = _ from h2)).1)
  simpa [feet, blk] using this
end
end Go.Sx
namespace Go.Sx
open Go
section
variable {w w' w0 : World} {bs : List (World × List Nat)} {L : List Res} {R R' : Res}
structure Own (R : Res) (w : World) : Prop where
  holds : R.holds w
  nodup : R.foot.Nodup
  lt : ∀ b ∈ R.foot, b < w.heap.size
structure Turn (R : Res) (w w' : World) (R' : Res) : Prop where
  holds : R'.holds w'
  chg : Chg R.foot w w'
  place : ∀ b ∈ R'.foot, b ∈ R.foot ∨ w.heap.size ≤ b
  nodup : R'.foot.Nodup
  lt : ∀ b ∈ R'.foot, b < w'.heap.size
theorem sublist_nodup {α β : Type} {f : α → List β} : ∀ {l : List α} {x : α}, (l.flatMap f).Nodup → x ∈ l → (f x).Nodup := by
  intro l
  induction l with
  | nil => intro x _ h; simp at h
  | cons y l ih =>
    intro x h hx
    rw [List.flatMap_cons] at h
    rcases List.mem_cons.1 hx with rfl | hx
    · exact (List.nodup_append.1 h).1
    · exact ih (List.nodup_append.1 h).2.1 hx
theorem St.ownR {i : Nat} (h : St bs L w) (hi : L[i]? = some R) : Own R w :=
  ⟨h.own R (List.mem_of_getElem? hi), sublist_nodup h.sep (List.mem_of_getElem? hi), fun b hb => h.lt b (mem_feet_of hi hb)⟩
theorem St.turn {LL : List Res} (i : Nat) (h : St bs L w) (hi : L[i]? = some R) (ht : Turn R w w' R') (hL : L.set i R' = LL) : St bs LL w' := by
  subst hL
  exact h.upd hi ht.chg ht.place ht.nodup ht.lt ht.holds
theorem St.initR (h : Own R w) : St [(w, R.foot)] [R] w := by
  have := St.initL w [R] (fun Q hQ => by simp only [List.mem_singleton] at hQ; subst hQ; exact h.holds) (by simpa [feet] using h.nodup) (fun b hb => h.lt b (by simpa [feet] using hb))
  simpa [feet] using this
theorem St.endTurn (h : St bs (R' :: L) w') (hb : (w, R.foot) ∈ bs) : Turn R w w' R' := by
  have hB := h.base _ hb
  refine ⟨h.own R' (by simp), hB.chg, fun b hb' => hB.mine b (by rw [feet_cons]; simp [hb']), sublist_nodup (x := R') h.sep (by simp), fun b hb' => h.lt b (by rw [feet_cons]; simp [hb'])⟩
theorem Turn.refl (h : Own R w) : Turn R w w R := ⟨h.holds, Chg.refl _ _, fun b hb => .inl hb, h.nodup, h.lt⟩
theorem Turn.own (h : Turn R w w' R') : Own R' w' := ⟨h.holds, h.nodup, h.lt⟩
theorem Turn.trans {R'' : Res} {w'' : World} (h : Turn R w w' R') (k : Turn R' w' w'' R'') : Turn R w w'' R'' := by
  refine ⟨k.holds, ⟨k.chg.os.trans h.chg.os, k.chg.tape.trans h.chg.tape, k.chg.output.trans h.chg.output, Nat.le_trans h.chg.size k.chg.size, fun b hb hX => ?_⟩, fun b hb => ?_, k.nodup, k.lt⟩
  · refine (k.chg.block b (Nat.lt_of_lt_of_le hb h.chg.size) fun hb' => ?_).trans (h.chg.block b hb hX)
    rcases h.place b hb' with h1 | h1
    · exact hX h1
    · omega
  · rcases k.place b hb with h1 | h1
    · exact h.place b h1
    · exact .inr (Nat.le_trans h.chg.size h1)
theorem St.feetNew {bs : List (World × List Nat)} {L : List Res} {w w0 : World} {b : Nat} (h : St bs L w) (hb : (w0, []) ∈ bs) (hf : b ∈ feet L) : w0.heap.size ≤ b := by
  rcases (h.base _ hb).mine b hf with h1 | h1
  · simp at h1
  · exact h1
theorem St.notMine {X : List Nat} {b : Nat} (h : St bs L w) (hb : (w0, X) ∈ bs) (hlt : b < w0.heap.size) (hX : b ∉ X) : b ∉ feet L := by
  intro hf
  rcases (h.base _ hb).mine b hf with h1 | h1
  · exact hX h1
  · exact absurd hlt (Nat.not_lt.2 h1)
theorem St.sep2 {X : List Nat} {b : Nat} (h : St bs (R :: R' :: L) w) (hb : (w0, X) ∈ bs) (hlt : b < w0.heap.size) (hX : b ∉ X) : b ∉ (two R R').foot := by
  intro hf
  refine h.notMine hb hlt hX ?_
  rw [← feet_two, feet_cons]
  exact List.mem_append_left _ hf
theorem blk_cell {b o : Nat} {T : TypeId} {cs : List Value} {v : Value} (h : (blk b T cs).holds w) (hv : cs[o]? = some v) : w.cell? ⟨b, o, none⟩ = some v := by
  have h0 : (blk b T cs).holds w := h
  have := (St.initBlk w h0).blkCell (i := 0) (o := o) rfl hv
  exact this
end
end Go.Sx
namespace Go.Sx
open Go
section
variable {P : Program} {n : Nat} {s : List (Nat × Value)} {w : World} {fn : Func} {RR : Ending → World → Prop} {v v' v'' : Value} {x y z : ResultVar}
theorem gret0 (hr : fn.results = #[]) (h : RR (.returned (.tuple #[])) w) : bodyPost P fn RR .ret (Fr n s []) w := ⟨rfl, _, results_none hr _ _ _, h⟩
theorem gend0 (hr : fn.results = #[]) (h : RR (.returned (.tuple #[])) w) : bodyPost P fn RR .normal (Fr n s []) w := ⟨rfl, _, results_none hr _ _ _, h⟩
theorem gret1 {t : Nat} (hr : fn.results = #[.tmp t]) (hv : ev n s (.tmp t) = v) (h : RR (.returned v) w) : bodyPost P fn RR .ret (Fr n s []) w :=
  ⟨rfl, _, results_tmp hr _ _ _, by rw [getD_Fr, hv]; exact h⟩
theorem resL1 (hr : fn.results = #[x]) (h1 : RV P n s w v x) : (results fn (Fr n s []).tmps).run P w = .ok v w := by
  rw [results_rvS, hr]
  simp [Sem.run_bind, Result.andThen, rv_run h1]
theorem gretL1 (hr : fn.results = #[x]) (h1 : RV P n s w v x) (h : RR (.returned v) w) : bodyPost P fn RR .ret (Fr n s []) w := ⟨rfl, _, resL1 hr h1, h⟩
theorem retL1 {R : Value → World → Prop} (hr : fn.results = #[x]) (h1 : RV P n s w v x) (h : R v w) :
    bodyPost P fn (fun e w' => ∃ v, e = .returned v ∧ R v w') .ret (Fr n s []) w := ⟨rfl, _, resL1 hr h1, _, rfl, h⟩
theorem gretL2 (hr : fn.results = #[x, y]) (h1 : RV P n s w v x) (h2 : RV P n s w v' y) (h : RR (.returned (.tuple #[v, v'])) w) : bodyPost P fn RR .ret (Fr n s []) w := ⟨rfl, _, resL2 hr h1 h2, h⟩
theorem gretL3 (hr : fn.results = #[x, y, z]) (h1 : RV P n s w v x) (h2 : RV P n s w v' y) (h3 : RV P n s w v'' z) (h : RR (.returned (.tuple #[v, v', v''])) w) : bodyPost P fn RR .ret (Fr n s []) w := ⟨rfl, _, resL3 hr h1 h2 h3, h⟩
theorem gpan {ch : List PanicEntry} (h : RR (.panicked ch) w) : bodyPost P fn RR (.panic ch) (Fr n s []) w := ⟨rfl, h⟩
end
def pch (t : TypeId) (v : Value) : List PanicEntry := [{ v := .iface t v, recovered := false }]
section
variable {r : Option Nat} {P : Program} {ops : Array Oper} {Q : Exit → Act → World → Prop} {rest : List Oper} {n : Nat} {s : List (Nat × Value)} {ds : List Deferred} {w : World}
variable {d : Option Nat} {ty t : TypeId} {pos : String} {af : Array Edge} {g : Option (Nat × Bool)} {v : Value} {x : Operand}
theorem pan (hg : takenB ops n s g = true) (hx : ev n s x = .iface t v) (K : Q (.panic (pch t v)) (Fr n s ds) w) : WL r P ops Q (⟨d, .panic x, ty, pos, af, g⟩ :: rest) (Fr n s ds) w := by
  refine wl_panic (w' := w) hg rfl ?_ K
  simp [execOp, hx, Instr.panic, goPanic, Sem.run]
end
def RP {α : Type} (t : TypeId) (v : Value) (S : List Nat) (w : World) (o : Option α) (Ret : α → Value → World → Prop) (e : Ending) (w' : World) : Prop :=
  match o with
  | some a => ∃ r, e = .returned r ∧ Ret a r w'
  | none => e = .panicked (pch t v) ∧ Chg S w w'
section
variable {P : Program} {f : FuncId} {vs : Array Value} {w : World} {α : Type} {t : TypeId} {v : Value} {S : List Nat} {o : Option α} {Ret : α → Value → World → Prop}
theorem rp_some {a : α} (h : Calls P f vs w (RP t v S w o Ret)) (ho : o = some a) : CR P f vs w (Ret a) := by subst ho; exact h
theorem rp_none (h : Calls P f vs w (RP t v S w o Ret)) (ho : o = none) : Calls P f vs w (fun e w' => e = .panicked (pch t v) ∧ Chg S w w') := by subst ho; exact h
theorem rp_ret {a : α} {r : Value} {w' : World} (ho : o = some a) (h : Ret a r w') : RP t v S w o Ret (.returned r) w' := by subst ho; exact ⟨r, rfl, h⟩
theorem rp_pan {w' : World} (ho : o = none) (h : Chg S w w') : RP t v S w o Ret (.panicked (pch t v)) w' := by subst ho; exact ⟨rfl, h⟩
end
section
variable {r : Option Nat} {P : Program} {ops : Array Oper} {Q : Exit → Act → World → Prop} {rest : List Oper} {n : Nat} {s : List (Nat × Value)} {ds : List Deferred} {w : World}
variable {d : Option Nat} {ty : TypeId} {pos : String} {af : Array Edge} {g : Option (Nat × Bool)}
theorem clFP {f : FuncId} {az : List Operand} {T : Array TypeId} {vl : List Value} {ch : List PanicEntry} {R : World → Prop} (hg : takenB ops n s g = true) (hvs : az.map (ev n s) = vl) (he : EntersF P f)
    (hc : Calls P f vl.toArray w (fun e w' => e = .panicked ch ∧ R w')) (K : ∀ w', R w' → Q (.panic ch) (Fr n s ds) w') :
    WL r P ops Q (⟨d, .call ⟨.value (.func f), az.toArray, T⟩, ty, pos, af, g⟩ :: rest) (Fr n s ds) w :=
  clE hg hvs he hc fun e w' h => by obtain ⟨rfl, hR⟩ := h; exact K w' hR
theorem clVP {x : Operand} {f : FuncId} {fi ca : List Value} {az : List Operand} {T : Array TypeId} {vl : List Value} {ch : List PanicEntry} {R : World → Prop} (hg : takenB ops n s g = true)
    (hx : ev n s x = .func (.func f) fi.toArray ca.toArray) (hvs : fi ++ az.map (ev n s) ++ ca = vl) (he : EntersF P f)
    (hc : Calls P f vl.toArray w (fun e w' => e = .panicked ch ∧ R w')) (K : ∀ w', R w' → Q (.panic ch) (Fr n s ds) w') :
    WL r P ops Q (⟨d, .call ⟨.value x, az.toArray, T⟩, ty, pos, af, g⟩ :: rest) (Fr n s ds) w :=
  clVE hg hx hvs he hc fun e w' h => by obtain ⟨rfl, hR⟩ := h; exact K w' hR
theorem mcp {s0 : List (Nat × Value)} {l : List Oper} {o : Oper} {Nx : Value → World → Prop} {f : FuncId} {args : Array Value} {ch : List PanicEntry} {R : World → Prop} (hg : takenB ops n s o.guard = true) (hd : notDefer o.op = true)
    (h : (execOp (ev n s) o).run P w = .ok (.enter f args) w) (hc : Calls P f args w (fun e w' => e = .panicked ch ∧ R w')) (hN : ∀ w' s', (∀ t, (∀ o ∈ l, o.dst ≠ some t) → look s' t = look s0 t) → R w' → Q (.panic ch) (Fr n s' ds) w') : MOb P ops Q n ds s0 l o s Nx w :=
  mce hg hd h hc fun e w' he => by obtain ⟨rfl, hR⟩ := he; exact fun s hs => hN w' s hs hR
end
section
variable {w w' w0 : World} {bs : List (World × List Nat)} {L : List Res} {R R' : Res} {k : IntKind} {e : TypeId} {ys : List Int} {lv : Value}
theorem St.turnFresh (h : St bs (R :: L) w) (ht : Turn R w w' R') (hf : Fresh k w w' lv e ys) (hsub : ∀ b ∈ R'.foot, b ∈ R.foot) : St bs (rowI k lv e ys :: R' :: L) w' := by
  have h1 : St bs (R' :: L) w' := h.turn 0 rfl ht rfl
  refine h1.add (lo := w.heap.size) (fun p hp => (h.base p hp).chg.size) (fun b hb => ?_) (fun b hb => hf.place b (by simpa [row] using hb)) (by show lv.ownBlock.toList.Nodup; cases lv.ownBlock <;> simp) (fun b hb => ownsRow_block hf.own (by simpa [row] using hb)) hf.own
  rw [feet_cons] at hb
  refine h.lt b ?_
  rw [feet_cons]
  rcases List.mem_append.1 hb with h2 | h2
  · exact List.mem_append_left _ (hsub b h2)
  · exact List.mem_append_right _ h2
theorem St.chgIn {X S : List Nat} (h : St bs L w) (hb : (w0, X) ∈ bs) (hc : Chg S w w') (hS : ∀ b ∈ S, b ∈ feet L) : Chg X w0 w' := by
  have hB := h.base _ hb
  refine ⟨hc.os.trans hB.chg.os, hc.tape.trans hB.chg.tape, hc.output.trans hB.chg.output, Nat.le_trans hB.chg.size hc.size, fun b hlt hX => ?_⟩
  refine (hc.block b (Nat.lt_of_lt_of_le hlt hB.chg.size) fun hb' => ?_).trans (hB.chg.block b hlt hX)
  rcases hB.mine b (hS b hb') with h1 | h1
  · exact hX h1
  · exact absurd hlt (Nat.not_lt.2 h1)
def junk (R : Res) : Res where
  foot := R.foot
  holds _ := True
  loc _ _ _ _ := trivial
theorem St.spoil (h : St bs (R :: L) w) (hc : Chg R.foot w w') : St bs L w' := by
  have h1 : St bs (junk R :: L) w' := h.upd (i := 0) (R := R) (R' := junk R) rfl hc (fun b hb => .inl hb) (sublist_nodup (x := R) h.sep (by simp)) (fun b hb => Nat.lt_of_lt_of_le (h.lt b (by rw [feet_cons]; exact List.mem_append_left _ hb)) hc.size) trivial
  exact h1.sub (List.sublist_cons_self _ _)
end
theorem St.perm {bs : List (World × List Nat)} {L L' : List Res} {w : World} (h : St bs L w) (hp : L.Perm L') : St bs L' w := by
  have hf : (feet L).Perm (feet L') := hp.flatMap_right _
  exact ⟨fun p hp' => ⟨(h.base p hp').chg, fun b hb => (h.base p hp').mine b (hf.mem_iff.2 hb)⟩, fun X hX => h.own X (hp.mem_iff.2 hX), hf.nodup_iff.1 h.sep, fun b hb => h.lt b (hf.mem_iff.2 hb)⟩
theorem St.swap {bs : List (World × List Nat)} {L : List Res} {R R' : Res} {w : World} (h : St bs (R :: R' :: L) w) : St bs (R' :: R :: L) w := h.perm (List.Perm.swap _ _ _)
theorem St.turnFreshB {bs : List (World × List Nat)} {L : List Res} {w w' : World} {b : Nat} {T e : TypeId} {cs cs' : List Value} {k : IntKind} {lv : Value} {ys : List Int} (h : St bs (blk b T cs :: L) w) (hh : (blk b T cs').holds w') (hc : Chg [b] w w') (hf : Fresh k w w' lv e ys) :
    St bs (rowI k lv e ys :: blk b T cs' :: L) w' :=
  h.turnFresh (R' := blk b T cs') ⟨hh, hc, fun x hx => .inl hx, by simp [blk], fun x hx => by
    simp only [blk, List.mem_singleton] at hx
    subst hx
    exact (Array.getElem?_eq_some_iff.1 (show w'.heap[x]? = _ from hh)).1⟩ hf (fun x hx => hx)
theorem ble_of {a b : Nat} (h : a ≤ b) : Nat.ble a b = true := Nat.ble_eq_true_of_le h
theorem Ints.dropV {k : IntKind} {ok : Nat → Prop} {w : World} {v : Value} {xs : List Int} {n : Nat} (h : Ints k ok w v xs) (hn : n ≤ xs.length) : Ints k ok w (cutV 1 v n xs.length) (xs.drop n) := by
  have := Sl.cutV h hn (Nat.le_refl _)
  rwa [List.take_length] at this
section
variable {P : Program} {n : Nat} {s : List (Nat × Value)} {ds : List Deferred} {w : World} {fn : Func} {f : FuncId} {c : Code} {vs : List Value} {RR : Ending → World → Prop}
theorem enterD (hf : P.funcs[f]? = some fn) (hb : fn.body = some c) (hn : fn.ntmps = n) (hs : Nat.ble vs.length n = true)
    (h : WP none P c (bodyPostDIn (FW none) 0 P fn RR) (Fr n (argS vs 0) []) w) : Calls P f vs.toArray w RR := by
  refine callsIn_FW.1 (callsIn_of_wp_defers (F := FW none) (n := 0) hf hb trivial ?_)
  rw [hn, Fr_args vs n (Nat.le_of_ble_eq_true hs)]
  exact h
theorem enterDef {u : FrameMode} {m : Nat} {R : Ending → FrameMode → World → Prop} (hf : P.funcs[f]? = some fn) (hb : fn.body = some c) (hn : fn.ntmps = n) (hs : Nat.ble vs.length n = true)
    (h : ∀ (c₀ : Frame) (cs : List Frame), c₀.mode = u → c.wpSIn (FW none) m P (bodyPostS P fn c₀ cs R) (Fr n (argS vs 0) []) (c₀ :: cs) w) : CallsDIn (FW none) m P f vs.toArray u w R := by
  refine callsDIn_of_wpSIn hf hb trivial fun c₀ cs hu => ?_
  rw [hn, Fr_args vs n (Nat.le_of_ble_eq_true hs)]
  exact h c₀ cs hu
variable {ops : Array Oper} {Q : Exit → Act → World → Prop} {rest : List Oper} {ty : TypeId} {pos : String} {af : Array Edge} {g : Option (Nat × Bool)} {x : Operand}
theorem dfr {fi ca : List Value} {az : List Operand} {T : Array TypeId} {vl : List Value} (hg : takenB ops n s g = true) (hx : ev n s x = .func (.func f) fi.toArray ca.toArray) (hvs : fi ++ az.map (ev n s) = vl)
    (K : WL none P ops Q rest (Fr n s (⟨.fn (.func f) ca.toArray, vl.toArray⟩ :: ds)) w) : WL none P ops Q (⟨none, .defer ⟨.value x, az.toArray, T⟩, ty, pos, af, g⟩ :: rest) (Fr n s ds) w := by
  refine ⟨?_⟩
  unfold wpListIn
  rw [wanted_takenB, hg, if_pos rfl]
  refine ⟨fun _ _ => trivial, ?_⟩
  have : (Oper.semAt (FW none).round (Fr n s ds).eval (⟨none, .defer ⟨.value x, az.toArray, T⟩, ty, pos, af, g⟩ : Oper)).run P w = .ok (.defer ⟨.fn (.func f) ca.toArray, vl.toArray⟩) w := by
    rw [show (FW none).round = none from rfl, Oper.semAt_none, Fr_eval', ← hvs]
    simp [execOp, resolve, Deferred.ofValue, hx]
  rw [this]
  exact K.out
theorem leave1 {ca vl al : List Value} {u : FrameMode} {tmps : Array Value} (hu : u ≠ .run) (he : EntersF P f) (hal : vl ++ ca = al)
    (hd : CallsDIn (FW none) 0 P f al.toArray u w (fun e u' w' => (∃ v, e = .returned v) ∧ settle u' = .returning ∧ ∃ v, (results fn tmps).run P w' = .ok v w' ∧ RR (.returned v) w')) :
    LeavesIn (FW none) 0 P fn tmps RR [⟨.fn (.func f) ca.toArray, vl.toArray⟩] u w := by
  refine leavesIn_cons (f := f) (args := al.toArray) hu (fun h => by simp [FW] at h) ?_ (fun _ _ => trivial) (CallsDIn.mono hd ?_)
  · subst hal
    have := he (vl.toArray ++ ca.toArray) w
    simp only [invoke]
    rw [this]
    simp
  · rintro e u' w' ⟨⟨v, rfl⟩, h1, v', h2, h3⟩
    show LeavesIn (FW none) 0 P fn tmps RR [] (settle u') w'
    rw [h1]
    exact ⟨v', h2, h3⟩
theorem neNil_r {d : Nat} {ms : Array (String × TypeId)} {t t' : TypeId} {d2 : Option Nat} {v : Value} {b : Bool} (hx : ev n s (.tmp d) = v) (hv : (v = .nilIface ∧ b = false) ∨ ((∃ u y, v = .iface u y) ∧ b = true)) (ht : P.underlying t = some (.interface ms)) :
    (execOp (ev n s) (⟨d2, .binOp .neq t (.tmp d) (.const .nilIface) t', ty, pos, af, g⟩ : Oper)).run P w = .ok (.value (.bool b)) w := by
  have hm : P.underlying t = some (.interface (P.methodsAt t)) := by simp [Program.methodsAt, ht]
  have hc : ev n s (.const .nilIface) = .nilIface := rfl
  rcases hv with ⟨rfl, rfl⟩ | ⟨⟨u, y, rfl⟩, rfl⟩
  · have h1 := run_neq_nil_nil (P := P) w t hm
    have h2 : (eqGuard .neq t (.tmp d) (.const .nilIface) .nilIface .nilIface).run P w = .ok () w := rfl
    simp only [execOp, hx, hc, Sem.run_bind, h1, h2, Result.andThen_ok, Sem.run_pure]
  · have h1 := run_neq_held_nil (P := P) w t u y hm
    have h2 : (eqGuard .neq t (.tmp d) (.const .nilIface) (.iface u y) .nilIface).run P w = .ok () w := rfl
    simp only [execOp, hx, hc, Sem.run_bind, h1, h2, Result.andThen_ok, Sem.run_pure]
theorem recAny {c₀ : Frame} {cs cs' : List Frame} {m : Nat} {Qs : Exit → Act → List Frame → World → Prop} {id d d2 : Nat} {T : Array TypeId} {ty2 t t' : TypeId} {pos2 : String} {af2 : Array Edge} {ms : Array (String × TypeId)} {v : Value} {b : Bool} (hd : Nat.blt d n = true)
    (ht : P.underlying t = some (.interface ms)) (hm : (recoverD (c₀ :: cs) = none ∧ v = .nilIface ∧ b = false ∧ cs' = c₀ :: cs) ∨ (recoverD (c₀ :: cs) = some (v, cs') ∧ (∃ u y, v = .iface u y) ∧ b = true))
    (h : Qs .normal (Fr n ((d2, .bool b) :: (d, v) :: s) []) cs' w) :
    (Code.region id #[⟨some d, .call ⟨.builtin .recover, #[], T⟩, ty, pos, af, none⟩, ⟨some d2, .binOp .neq t (.tmp d) (.const .nilIface) t', ty2, pos2, af2, none⟩] false).wpSIn (FW none) m P Qs (Fr n s []) (c₀ :: cs) w := by
  refine wpSIn_region ?_
  have e1 : (execOp (Fr n s []).eval (⟨some d, .call ⟨.builtin .recover, #[], T⟩, ty, pos, af, none⟩ : Oper)).run P w = .ok .recover w := rfl
  have hx : ev n ((d, v) :: s) (.tmp d) = v := by simp [ev, hd, look_cons]
  have e2 : (execOp (Fr n ((d, v) :: s) []).eval (⟨some d2, .binOp .neq t (.tmp d) (.const .nilIface) t', ty2, pos2, af2, none⟩ : Oper)).run P w = .ok (.value (.bool b)) w := by
    rw [Fr_eval']
    refine neNil_r hx ?_ ht
    rcases hm with ⟨_, h1, h2, _⟩ | ⟨_, h1, h2⟩
    · exact .inl ⟨h1, h2⟩
    · exact .inr ⟨h1, h2⟩
  rcases hm with ⟨hm, rfl, rfl, rfl⟩ | ⟨hm, _, rfl⟩
  all_goals
    simp only [List.size_toArray, List.length_cons, List.length_nil, Nat.zero_add, show List.range (1 + 1) = [0, 1] from rfl, wpOpsSIn, List.getElem?_toArray, List.getElem?_cons_zero, List.getElem?_cons_succ, Region.wanted, if_true, e1, hm]
    refine ⟨fun _ _ => trivial, ?_⟩
    rw [Fr_put]
    simp only [e2]
    refine ⟨fun _ _ => trivial, ?_⟩
    rw [Fr_put]
    exact h
end
end Go.Sx
namespace Go.Sx
open Go
def lobj (l : Nat) (r : Loop) : Res where
  foot := [l]
  holds w := w.heap[l]? = some (.loop r)
  loc w w' h hh := (h l (by simp)).trans hh
def dobj (d : Nat) (o : Option (List Deferred)) : Res where
  foot := [d]
  holds w := w.heap[d]? = some (.deferred o)
  loc w w' h hh := (h d (by simp)).trans hh
theorem Chg.putObj (w : World) (r : Nat) (o : Obj) : Chg [r] w (w.putObj r o) :=
  ⟨rfl, rfl, rfl, by simp, fun b _ hb => World.putObj_heap_other (by simpa using hb)⟩
section
variable {w w' : World} {bs : List (World × List Nat)} {L LL : List Res} {i l d : Nat} {rc : Loop}
theorem St.loopHeap (h : St bs L w) (hi : L[i]? = some (lobj l rc)) : w.heap[l]? = some (.loop rc) := h.own _ (List.mem_of_getElem? hi)
theorem St.putLoop (h : St bs L w) (hi : L[i]? = some (lobj l rc)) (rc' : Loop) : St bs (L.set i (lobj l rc')) (w.putObj l (.loop rc')) := by
  have hlt : l < w.heap.size := h.lt l (mem_feet_of hi (by simp [lobj]))
  exact h.upd hi (Chg.putObj w l _) (fun b hb => .inl hb) (by simp [lobj]) (fun b hb => by simp [lobj] at hb; subst hb; simpa using hlt) (World.putObj_heap_same hlt)
theorem St.putDef {o : Option (List Deferred)} (h : St bs L w) (hi : L[i]? = some (dobj d o)) (o' : Option (List Deferred)) : St bs (L.set i (dobj d o')) (w.putObj d (.deferred o')) := by
  have hlt : d < w.heap.size := h.lt d (mem_feet_of hi (by simp [dobj]))
  exact h.upd hi (Chg.putObj w d _) (fun b hb => .inl hb) (by simp [dobj]) (fun b hb => by simp [dobj] at hb; subst hb; simpa using hlt) (World.putObj_heap_same hlt)
end
def allR (L : List Res) : Res where
  foot := feet L
  holds w := ∀ R ∈ L, R.holds w
  loc w w' h hh R hR := R.loc w w' (fun b hb => h b (List.mem_flatMap.2 ⟨R, hR, hb⟩)) (hh R hR)
section
variable {w w0 : World} {bs : List (World × List Nat)} {A B : List Res} {R : Res}
theorem feet_append (A B : List Res) : feet (A ++ B) = feet A ++ feet B := by simp [feet]
theorem feet_all (A B : List Res) : feet (allR A :: B) = feet (A ++ B) := by rw [feet_cons, feet_append]; rfl
theorem St.pack (A B : List Res) (h : St bs (A ++ B) w) : St bs (allR A :: B) w :=
  ⟨fun p hp => ⟨(h.base p hp).chg, fun b hb => (h.base p hp).mine b (by rw [← feet_all]; exact hb)⟩, fun Q hQ => by
    rcases List.mem_cons.1 hQ with rfl | hQ
    · exact fun R hR => h.own R (List.mem_append_left _ hR)
    · exact h.own Q (List.mem_append_right _ hQ), by rw [feet_all]; exact h.sep, fun b hb => h.lt b (by rw [← feet_all]; exact hb)⟩
theorem St.unpack (h : St bs (allR A :: B) w) : St bs (A ++ B) w :=
  ⟨fun p hp => ⟨(h.base p hp).chg, fun b hb => (h.base p hp).mine b (by rw [feet_all]; exact hb)⟩, fun Q hQ => by
    rcases List.mem_append.1 hQ with hQ | hQ
    · exact h.own (allR A) (by simp) Q hQ
    · exact h.own Q (by simp [hQ]), by rw [← feet_all]; exact h.sep, fun b hb => h.lt b (by rw [feet_all]; exact hb)⟩
theorem St.notIn {b : Nat} (h : St bs (R :: B) w) (hb : b ∈ feet B) : b ∉ R.foot := fun hr => by
  have := h.sep
  rw [feet_cons] at this
  exact (List.nodup_append.1 this).2.2 b hr b hb rfl
theorem St.apart {b : Nat} (h : St bs (R :: B) w) (hb : (w0, []) ∈ bs) (hlt : b < w0.heap.size) : b ∉ R.foot := fun hr => by
  have := h.feetNew hb (b := b) (by rw [feet_cons]; exact List.mem_append_left _ hr)
  omega
end
def YR (P : Program) (l : Nat) (vl : List Value) (w : World) (R : Value → World → Prop) : Prop :=
  ∃ f tmps assign body, (Instr.yield l vl.toArray).run P w = .ok (.round l f tmps assign body) w ∧ RoundIn (FW none) 0 P l f tmps assign body w (fun e w' => ∃ v, e = .returned v ∧ R v w')
theorem YR.mono {P : Program} {l : Nat} {vl : List Value} {w : World} {R R' : Value → World → Prop} (h : YR P l vl w R) (hr : ∀ v w', R v w' → R' v w') : YR P l vl w R' := by
  obtain ⟨f, tmps, assign, body, h1, h2⟩ := h
  exact ⟨f, tmps, assign, body, h1, RoundIn.mono h2 fun e w' ⟨v, he, hR⟩ => ⟨v, he, hr v w' hR⟩⟩
section
variable {P : Program} {ops : Array Oper} {Q : Exit → Act → World → Prop} {rest : List Oper} {n : Nat} {s : List (Nat × Value)} {ds : List Deferred} {w : World}
variable {d : Option Nat} {ty : TypeId} {pos : String} {af : Array Edge} {g : Option (Nat × Bool)} {x : Operand} {l : Nat}
theorem yl {az : List Operand} {T : Array TypeId} {vl : List Value} {R : Value → World → Prop} (hg : takenB ops n s g = true) (hx : ev n s x = .func (.yield l) #[] #[]) (hvs : az.map (ev n s) = vl) (hy : YR P l vl w R)
    (K : ∀ v w', R v w' → WL none P ops Q rest (Fr n (putR d v s) ds) w') : WL none P ops Q (⟨d, .call ⟨.value x, az.toArray, T⟩, ty, pos, af, g⟩ :: rest) (Fr n s ds) w := by
  obtain ⟨f, tmps, assign, body, h1, h2⟩ := hy
  refine ⟨?_⟩
  unfold wpListIn
  rw [wanted_takenB, hg, if_pos rfl]
  refine ⟨fun _ _ => trivial, ?_⟩
  have hr : (Oper.semAt (FW none).round (Fr n s ds).eval (⟨d, .call ⟨.value x, az.toArray, T⟩, ty, pos, af, g⟩ : Oper)).run P w = .ok (.round l f tmps assign body) w := by
    rw [show (FW none).round = none from rfl, Oper.semAt_none, Fr_eval']
    simp only [execOp, resolve, Deferred.ofValue, hx, map_toArray', hvs, Sem.run_bind, Sem.run_pure, Result.andThen_ok, invoke]
    simpa using h1
  rw [hr]
  refine ⟨fun h => by simp [FW] at h, RoundIn.mono h2 ?_⟩
  rintro e w' ⟨v, rfl, hR⟩
  have := (K v w' hR).out
  rw [← Fr_putR] at this
  exact this
def puts : List Nat → List Value → List (Nat × Value) → List (Nat × Value)
  | p :: ps, v :: vs, s => puts ps vs ((p, v) :: s)
  | _, _, s => s
theorem Fr_tmps_put (p : Nat) (v : Value) : (Fr n s ds).tmps.setIfInBounds p v = (Fr n ((p, v) :: s) ds).tmps := congrArg Act.tmps (Fr_put n s ds p v)
theorem puts_tmpsL : ∀ (ps : List Nat) (vs : List Value) (s : List (Nat × Value)), ((ps.zip vs).foldl (fun (t : Array Value) (q : Nat × Value) => t.setIfInBounds q.1 q.2) (Fr n s ds).tmps) = (Fr n (puts ps vs s) ds).tmps := by
  intro ps
  induction ps with
  | nil => intro vs s; simp [puts]
  | cons p ps ih =>
    intro vs s
    cases vs with
    | nil => simp [puts]
    | cons v vs =>
      simp only [List.zip_cons_cons, List.foldl_cons, puts]
      rw [Fr_tmps_put]
      exact ih vs _
theorem puts_tmps (ps : List Nat) (vs : List Value) (s : List (Nat × Value)) : ((ps.toArray.zip vs.toArray).foldl (fun (t : Array Value) (q : Nat × Value) => t.setIfInBounds q.1 q.2) (Fr n s ds).tmps) = (Fr n (puts ps vs s) ds).tmps := by
  rw [← puts_tmpsL, List.zip_toArray, List.foldl_toArray]
variable {bs : List (World × List Nat)} {L LL : List Res} {i : Nat} {rc : Loop}
theorem rnd {ps : List Nat} {vl : List Value} {s' : List (Nat × Value)} {fn dd : Nat} {assign body : Code} {R : Value → World → Prop} (i : Nat) (hrc : rc = ⟨.ready, none, fn, (Fr n s ds).tmps, ps.toArray, assign, body, dd⟩) (hst : St bs L w) (hi : L[i]? = some (lobj l rc))
    (hlen : vl.length = ps.length) (hs : puts ps vl s = s')
    (h : WP (some l) P assign (Exit.then (fun a w₁ => ∃ w₂, (Instr.beginRound l).run P w₁ = .ok () w₂ ∧ WP (some l) P body (roundPost P l (fun e w' => ∃ v, e = .returned v ∧ R v w')) a w₂) (fun _ _ _ => False)) (Fr n s' []) w) : YR P l vl w R := by
  subst hs hrc
  refine ⟨_, _, _, _, run_yield (hst.loopHeap hi) (by simpa using hlen), roundIn_of_wpIn trivial ?_⟩
  have e := puts_tmps (n := n) (ds := ds) ps vl s
  show assign.wpIn (FW (some l)) 0 P _ { tmps := ((ps.toArray.zip vl.toArray).foldl (fun (t : Array Value) (q : Nat × Value) => t.setIfInBounds q.1 q.2) (Fr n s ds).tmps), defers := [] } w
  rw [e]
  exact h
theorem begR {B : World → Prop} (i : Nat) (hst : St bs L w) (hi : L[i]? = some (lobj l rc)) (hr : rc.state = .ready) (hL : L.set i (lobj l { rc with state := .busy }) = LL) (K : ∀ w₂, St bs LL w₂ → B w₂) : ∃ w₂, (Instr.beginRound l).run P w = .ok () w₂ ∧ B w₂ :=
  ⟨_, run_beginRound (hst.loopHeap hi) hr, K _ (by subst hL; exact hst.putLoop hi _)⟩
theorem endR {R : Ending → World → Prop} {a : Act} (i : Nat) (hst : St bs L w) (hi : L[i]? = some (lobj l { rc with state := .busy })) (hr : rc.state = .ready) (hp : rc.pending = none) (hL : L.set i (lobj l rc) = LL) (K : ∀ w', St bs LL w' → R (.returned (.bool true)) w') : roundPost P l R .normal a w := by
  refine ⟨_, _, run_endRound none (hst.loopHeap hi), K _ ?_⟩
  subst hL
  have := hst.putLoop hi rc
  obtain ⟨a, b, c, d, e, f, g, h⟩ := rc
  simp only at hr hp
  subst hr hp
  exact this
theorem rf {f : FuncId} {fi ca : List Value} {ps : List Nat} {assign body : Code} {α : Type} (LZ : α → List Res) (C : α → Prop) (hst : St bs L w) (hx : ev n s x = .func (.func f) fi.toArray ca.toArray) (he : EntersF P f)
    (h1 : ∀ fn dd l w₁ rc, rc = (⟨.ready, none, fn, (Fr n s ds).tmps, ps.toArray, assign, body, dd⟩ : Loop) → St bs (lobj l rc :: dobj dd (some []) :: L) w₁ →
      CR P f (fi ++ [Value.func (.yield l) #[] #[]] ++ ca).toArray w₁ (fun _ w₃ => ∃ z, C z ∧ St bs (lobj l rc :: dobj dd (some []) :: LZ z) w₃))
    (h2 : ∀ z dd w₄, C z → St bs (dobj dd (some []) :: LZ z) w₄ → Q .normal (Fr n s (⟨.collected dd, #[]⟩ :: ds)) w₄) : WP none P (.rangeFunc x ps.toArray assign body) Q (Fr n s ds) w := by
  refine wpIn_rangeFunc fun fn _ => ?_
  have hs1 : St bs (dobj w.heap.size (some []) :: L) (w.alloc (.deferred (some []))) :=
    hst.addNew (Chg.alloc [] w _) (fun b hb => by simp [dobj] at hb; omega) (by simp [dobj]) (fun b hb => by simp [dobj] at hb; simp; omega) (World.alloc_heap_new w _)
  have hs2 : St bs (lobj (w.heap.size + 1) ⟨.ready, none, fn, (Fr n s ds).tmps, ps.toArray, assign, body, w.heap.size⟩ :: dobj w.heap.size (some []) :: L) ((w.alloc (.deferred (some []))).alloc (.loop ⟨.ready, none, fn, (Fr n s ds).tmps, ps.toArray, assign, body, w.heap.size⟩)) :=
    hs1.addNew (Chg.alloc [] _ _) (fun b hb => by simp [lobj] at hb; simp; omega) (by simp [lobj]) (fun b hb => by simp [lobj] at hb; simp; omega) (by have := World.alloc_heap_new (w.alloc (.deferred (some []))) (.loop ⟨.ready, none, fn, (Fr n s ds).tmps, ps.toArray, assign, body, w.heap.size⟩); simpa [lobj] using this)
  refine ⟨w.heap.size + 1, _, _, ⟨.fn (.func f) ca.toArray, (fi ++ [Value.func (.yield (w.heap.size + 1)) #[] #[]]).toArray⟩, ((w.alloc (.deferred (some []))).alloc (.loop ⟨.ready, none, fn, (Fr n s ds).tmps, ps.toArray, assign, body, w.heap.size⟩)), f, (fi ++ [Value.func (.yield (w.heap.size + 1)) #[] #[]] ++ ca).toArray, ((w.alloc (.deferred (some []))).alloc (.loop ⟨.ready, none, fn, (Fr n s ds).tmps, ps.toArray, assign, body, w.heap.size⟩)), run_enterLoop_outer fn _ _ _ _, ?_, fun _ _ => trivial, ?_, fun h => by simp [FW] at h, ?_⟩
  · rw [Fr_eval']
    simp only [resolve, rangeCall, Deferred.ofValue, hx]
    simp [ev]
  · have := he ((fi ++ [Value.func (.yield (w.heap.size + 1)) #[] #[]] ++ ca).toArray) ((w.alloc (.deferred (some []))).alloc (.loop ⟨.ready, none, fn, (Fr n s ds).tmps, ps.toArray, assign, body, w.heap.size⟩))
    simp only [invoke]
    simpa using this
  · refine callsIn_FW.2 (Calls.mono (h1 fn w.heap.size (w.heap.size + 1) _ _ rfl hs2) ?_)
    rintro e w₃ ⟨v, rfl, z, hC, hs3⟩
    refine ⟨none, _, run_endLoop (hs3.loopHeap (i := 0) rfl) (by simp), ?_⟩
    refine h2 z w.heap.size _ hC ?_
    exact (hs3.putLoop (i := 0) rfl _).sub (List.sublist_cons_self _ _)
end
section
variable {P : Program} {n : Nat} {s : List (Nat × Value)} {w : World} {fn : Func} {f : FuncId} {c : Code} {vs : List Value} {RR : Ending → World → Prop} {bs : List (World × List Nat)} {L LL : List Res} {d : Nat} {tmps : Array Value}
theorem enterM (hf : P.funcs[f]? = some fn) (hb : fn.body = some c) (hn : fn.ntmps = n) (hs : Nat.ble vs.length n = true)
    (h : WP none P c (bodyPostM (FW none) 0 P fn RR) (Fr n (argS vs 0) []) w) : Calls P f vs.toArray w RR := by
  refine callsIn_FW.1 (callsIn_of_wp_marks (F := FW none) (n := 0) hf hb trivial ?_)
  rw [hn, Fr_args vs n (Nat.le_of_ble_eq_true hs)]
  exact h
theorem leaveM (i : Nat) (hst : St bs L w) (hi : L[i]? = some (dobj d (some []))) (hL : L.set i (dobj d none) = LL) (K : ∀ w', St bs LL w' → ∃ v, (results fn tmps).run P w' = .ok v w' ∧ RR (.returned v) w') :
    LeavesInM (FW none) 0 P fn tmps RR [⟨.collected d, #[]⟩] .returning w :=
  ⟨by simp, .inl ⟨d, _, rfl, run_takeDeferred (hst.own _ (List.mem_of_getElem? hi)), K _ (by subst hL; exact hst.putDef hi none)⟩⟩
end
end Go.Sx
namespace Go.Sx
open Go
section
variable {P : Program} {w : World} {t e : TypeId} {k : IntKind} {by_ : Nat} {z : Value}
theorem run_eqInt (d : Nat) (he : P.underlying e = some (.int k)) (a b : Int) : (Op.equalIn (d + 1) e (.int k a) (.int k b)).run P w = .ok (a == b) w := by
  simp [Op.equalIn, run_underlying he]
theorem run_eqBool (d : Nat) (he : P.underlying t = some .bool) (a b : Bool) : (Op.equalIn (d + 1) t (.bool a) (.bool b)).run P w = .ok (a == b) w := by
  simp [Op.equalIn, run_underlying he]
theorem run_part (he : P.underlying e = some (.int k)) (xs : Array Value) (i : Nat) (v : Value) (h : xs[i]? = some v) : (part e xs i).run P w = .ok v w := by
  simp [part, run_isAgg he, isAggD, h]
theorem run_eqArr4 (ht : P.underlying t = some (.array 4 e)) (he : P.underlying e = some (.int k)) (hi : TI P e 1 by_ z) (a0 a1 a2 a3 b0 b1 b2 b3 : Int) :
    (Op.equal t (.agg #[.int k a0, .int k a1, .int k a2, .int k a3]) (.agg #[.int k b0, .int k b1, .int k b2, .int k b3])).run P w = .ok (decide ([a0, a1, a2, a3] = [b0, b1, b2, b3])) w := by
  have p : ∀ (x0 x1 x2 x3 : Value), (part e #[x0, x1, x2, x3] 0).run P w = .ok x0 w ∧ (part e #[x0, x1, x2, x3] 1).run P w = .ok x1 w ∧ (part e #[x0, x1, x2, x3] 2).run P w = .ok x2 w ∧ (part e #[x0, x1, x2, x3] 3).run P w = .ok x3 w := fun x0 x1 x2 x3 =>
    ⟨run_part he _ _ _ rfl, run_part he _ _ _ rfl, run_part he _ _ _ rfl, run_part he _ _ _ rfl⟩
  have q := fun a b => run_eqInt (P := P) (w := w) 9998 he a b
  simp only [Nat.reduceAdd] at q
  show (Op.equalIn 10000 t _ _).run P w = _
  unfold Op.equalIn
  simp only [Sem.run_bind, run_underlying ht, Result.andThen_ok, hi.size, Std.Legacy.Range.forIn_eq_forIn_range', Std.Legacy.Range.size]
  simp only [show List.range' 0 ((4 - 0 + 1 - 1) / 1) 1 = [0, 1, 2, 3] from rfl, List.forIn_cons, List.forIn_nil, Sem.run_bind, Nat.mul_one, (p _ _ _ _).1, (p _ _ _ _).2.1, (p _ _ _ _).2.2.1, (p _ _ _ _).2.2.2, Result.andThen_ok, q]
  by_cases h0 : a0 = b0
  · by_cases h1 : a1 = b1
    · by_cases h2 : a2 = b2
      · by_cases h3 : a3 = b3
        · simp [h0, h1, h2, h3, p, q, Result.andThen]
        · simp [h0, h1, h2, h3, p, q, Result.andThen]
      · simp [h0, h1, h2, p, q, Result.andThen]
    · simp [h0, h1, p, q, Result.andThen]
  · simp [h0, p, q, Result.andThen]
end
section
variable {r : Option Nat} {P : Program} {ops : Array Oper} {Q : Exit → Act → World → Prop} {rest : List Oper} {n : Nat} {s : List (Nat × Value)} {ds : List Deferred} {w : World}
variable {d : Nat} {dd : Option Nat} {ty t t' e : TypeId} {pos : String} {af : Array Edge} {g : Option (Nat × Bool)} {x y : Operand} {k : IntKind} {by_ : Nat} {z : Value} {a0 a1 a2 a3 b0 b1 b2 b3 : Int} {c : Bool}
theorem run_eqGuard_agg (op : BinOp) (hgd : P.eqGuardType P.depth t = false) (xs ys : Array Value) : (eqGuard op t x y (.agg xs) (.agg ys)).run P w = .ok () w := by
  unfold eqGuard
  cases op <;> simp [hgd, program, Sem.run]
theorem neArr_r (hx : ev n s x = .agg #[.int k a0, .int k a1, .int k a2, .int k a3]) (hy : ev n s y = .agg #[.int k b0, .int k b1, .int k b2, .int k b3]) (ht : P.underlying t = some (.array 4 e)) (he : P.underlying e = some (.int k)) (hi : TI P e 1 by_ z)
    (hgd : P.eqGuardType P.depth t = false) (hc : (!decide ([a0, a1, a2, a3] = [b0, b1, b2, b3])) = c) :
    (execOp (ev n s) ⟨dd, .binOp .neq t x y t', ty, pos, af, g⟩).run P w = .ok (.value (.bool c)) w := by
  subst hc
  have h := run_eqArr4 (P := P) (w := w) ht he hi a0 a1 a2 a3 b0 b1 b2 b3
  simp only [execOp, hx, hy, Sem.run_bind, run_eqGuard_agg .neq hgd, Result.andThen_ok]
  simp only [binOp, Sem.run_bind, h, Result.andThen_ok, Sem.run_pure]
theorem neBool_r {a b : Bool} (hx : ev n s x = .bool a) (hy : ev n s y = .bool b) (ht : P.underlying t = some .bool) (hc : (!(a == b)) = c) :
    (execOp (ev n s) ⟨dd, .binOp .neq t x y t', ty, pos, af, g⟩).run P w = .ok (.value (.bool c)) w := by
  subst hc
  have h1 : (Op.equal t (.bool a) (.bool b)).run P w = .ok (a == b) w := run_eqBool 9999 ht a b
  have h2 : (eqGuard .neq t x y (.bool a) (.bool b)).run P w = .ok () w := rfl
  simp only [execOp, hx, hy, Sem.run_bind, h2, Result.andThen_ok]
  simp only [binOp, Sem.run_bind, h1, Result.andThen_ok, Sem.run_pure]
theorem neBool {a b : Bool} (hg : takenB ops n s g = true) (hx : ev n s x = .bool a) (hy : ev n s y = .bool b) (ht : P.underlying t = some .bool) (hc : (!(a == b)) = c) (K : WL r P ops Q rest (Fr n ((d, .bool c) :: s) ds) w) :
    WL r P ops Q (⟨some d, .binOp .neq t x y t', ty, pos, af, g⟩ :: rest) (Fr n s ds) w := pv hg rfl (neBool_r hx hy ht hc) K
theorem eqBool_r {a b : Bool} (hx : ev n s x = .bool a) (hy : ev n s y = .bool b) (ht : P.underlying t = some .bool) (hc : (a == b) = c) :
    (execOp (ev n s) ⟨dd, .binOp .eql t x y t', ty, pos, af, g⟩).run P w = .ok (.value (.bool c)) w := by
  subst hc
  have h1 : (Op.equal t (.bool a) (.bool b)).run P w = .ok (a == b) w := run_eqBool 9999 ht a b
  have h2 : (eqGuard .eql t x y (.bool a) (.bool b)).run P w = .ok () w := rfl
  simp only [execOp, hx, hy, Sem.run_bind, h2, Result.andThen_ok]
  simp only [binOp, Sem.run_bind, h1, Result.andThen_ok, Sem.run_pure]
theorem eqBool {a b : Bool} (hg : takenB ops n s g = true) (hx : ev n s x = .bool a) (hy : ev n s y = .bool b) (ht : P.underlying t = some .bool) (hc : (a == b) = c) (K : WL r P ops Q rest (Fr n ((d, .bool c) :: s) ds) w) :
    WL r P ops Q (⟨some d, .binOp .eql t x y t', ty, pos, af, g⟩ :: rest) (Fr n s ds) w := pv hg rfl (eqBool_r hx hy ht hc) K
theorem neArr (hg : takenB ops n s g = true) (hx : ev n s x = .agg #[.int k a0, .int k a1, .int k a2, .int k a3]) (hy : ev n s y = .agg #[.int k b0, .int k b1, .int k b2, .int k b3]) (ht : P.underlying t = some (.array 4 e)) (he : P.underlying e = some (.int k)) (hi : TI P e 1 by_ z)
    (hgd : P.eqGuardType P.depth t = false) (hc : (!decide ([a0, a1, a2, a3] = [b0, b1, b2, b3])) = c) (K : WL r P ops Q rest (Fr n ((d, .bool c) :: s) ds) w) :
    WL r P ops Q (⟨some d, .binOp .neq t x y t', ty, pos, af, g⟩ :: rest) (Fr n s ds) w := pv hg rfl (neArr_r hx hy ht he hi hgd hc) K
end
section
variable {w w' : World} {bs : List (World × List Nat)} {L : List Res} {b : Nat} {T : TypeId} {cs : List Value}
theorem St.roCells {w0 : World} (h : St bs L w) (hb : (w0, []) ∈ bs) (h0 : (blk b T cs).holds w0) {o : Nat} {vs : List Value} (hv : (cs.drop o).take vs.length = vs) : ∀ j u, vs[j]? = some u → w.cell? ⟨b, o + j, none⟩ = some u := by
  intro j u hj
  refine h.cellB hb (blk_cell h0 (o := o + j) ?_) List.not_mem_nil
  rw [← hv, List.getElem?_take] at hj
  split at hj
  · simpa using hj
  · cases hj
theorem St.roCell {w0 : World} (h : St bs L w) (hb : (w0, []) ∈ bs) (h0 : (blk b T cs).holds w0) {o : Nat} {u : Value} (hv : cs[o]? = some u) : w.cell? ⟨b, o, none⟩ = some u := h.cellB hb (blk_cell h0 hv) List.not_mem_nil
theorem St.addBlk (h : St bs L w) (hc : Chg [] w w') (hn : w.heap.size ≤ b) (hb : (blk b T cs).holds w') : St bs (blk b T cs :: L) w' :=
  h.addNew hc (fun x hx => by simp [blk] at hx; omega) (by simp [blk]) (fun x hx => by
    simp only [blk, List.mem_singleton] at hx
    subst hx
    exact (Array.getElem?_eq_some_iff.1 (show w'.heap[x]? = _ from hb)).1) hb
end
theorem cp_at {z : Value} {pre news : List Value} {m : Nat} : setAt (pre ++ List.replicate (news.length + m) z) pre.length news = pre ++ news ++ List.replicate m z := by
  simp [setAt, List.drop_append]
theorem sl_at (b l n : Nat) : Value.slice (some ⟨b, 0 + l * 1, none⟩) (l + n - l) (l + n - l) = .slice (some ⟨b, l, none⟩) n n := by simp
end Go.Sx
namespace Go.Sx
open Go
abbrev Recs {α : Type} (sz : Nat) (cf : α → List Value) (ok : Nat → Prop) (w : World) (v : Value) (xs : List α) : Prop := Sl sz (fun _ x vs => vs = cf x) ok w v xs
def adrO (sz : Nat) (v : Value) (i off : Nat) : Value := match v with
  | .slice (some ⟨b, o, _⟩) _ _ => .pointer (some ⟨b, o + i * sz + off, none⟩)
  | _ => .pointer none
theorem adrO_zero (sz : Nat) (v : Value) (i : Nat) : adrO sz v i 0 = adr sz v i := by
  cases v with
  | slice a m c => cases a <;> rfl
  | _ => rfl
abbrev rowR {α : Type} (cf : α → List Value) (v : Value) (e : TypeId) (sz : Nat) (ys : List α) : Res := row v e sz ys.length (ys.flatMap cf)
theorem get_some' {α : Type} {l : List α} {k : Nat} (h : k < l.length) : ∃ y, l[k]? = some y := ⟨l[k], List.getElem?_eq_getElem h⟩
section
variable {α : Type} {sz : Nat} {cf : α → List Value} {ok ok' : Nat → Prop} {w w' w0 : World} {v : Value} {xs : List α} {bs : List (World × List Nat)} {L : List Res}
theorem Recs.to (h : Recs sz cf ok w v xs) (hp : 0 < sz) (hk : ∀ b, ok b → b < w.heap.size → w'.heap[b]? = w.heap[b]?) : Recs sz cf ok w' v xs := Sl.to h hk (fun _ _ _ h => h) hp
theorem St.recs {X : List Nat} (h : St bs L w) (hb : (w0, X) ∈ bs) (hp : 0 < sz) (hI : Recs sz cf ok w0 v xs) (hok : ∀ b, ok b → b ∉ X) : Recs sz cf ok w v xs := Recs.to hI hp fun b hb' hlt => h.keep hb hlt (hok b hb')
theorem St.recs0 (h : St bs L w) (hb : (w0, []) ∈ bs) (hp : 0 < sz) (hI : Recs sz cf ok w0 v xs) : Recs sz cf ok w v xs := h.recs hb hp hI fun _ _ => List.not_mem_nil
theorem Recs.place {k : Nat} {c : α} (h : Recs sz cf ok w v xs) (hk : xs[k]? = some c) : ∃ b o m cp, v = .slice (some ⟨b, o, none⟩) m cp ∧ k < m ∧ ok b ∧ (cf c).length = sz ∧ ∀ j u, (cf c)[j]? = some u → w.cell? ⟨b, o + k * sz + j, none⟩ = some u := by
  have hlt := (List.getElem?_eq_some_iff.1 hk).1
  obtain ⟨a, cp, rfl, h1, h2, h3⟩ := h
  obtain ⟨b, o, vs, rfl, hb, hl, rfl, hc⟩ := h3 k c hk
  exact ⟨b, o, _, cp, rfl, hlt, hb, hl, hc⟩
theorem flat_get (hl : ∀ x : α, (cf x).length = sz) : ∀ (xs : List α) (k j : Nat) (x : α) (u : Value), xs[k]? = some x → (cf x)[j]? = some u → (xs.flatMap cf)[k * sz + j]? = some u := by
  intro xs
  induction xs with
  | nil => intro k j x u h; simp at h
  | cons x0 xs ih =>
    intro k j x u hk hj
    rw [List.flatMap_cons]
    cases k with
    | zero =>
      simp at hk
      subst hk
      have hlt : j < (cf x0).length := (List.getElem?_eq_some_iff.1 hj).1
      rw [List.getElem?_append_left (by omega)]
      simpa using hj
    | succ k =>
      have := ih k j x u (by simpa using hk) hj
      rw [List.getElem?_append_right (by rw [hl, Nat.add_mul]; omega), hl, show (k + 1) * sz + j - sz = k * sz + j by rw [Nat.add_mul]; omega]
      exact this
theorem St.rowRecs {i : Nat} {e : TypeId} (h : St bs L w) (hi : L[i]? = some (rowR cf v e sz xs)) (hl : ∀ x : α, (cf x).length = sz) : Recs sz cf (fun b => v.ownBlock = some b) w v xs := by
  have hown : w.ownsRow 0 e sz v xs.length (xs.flatMap cf) := h.own _ (List.mem_of_getElem? hi)
  rcases hown.2 with ⟨rfl, h0⟩ | ⟨g', cap, cur, rfl, _, hg, h1, h2, _⟩
  · have : xs = [] := List.eq_nil_of_length_eq_zero h0
    subst this
    exact Sl.nil _ _ _ _
  · refine ⟨_, cap, rfl, h1, h2, fun j y hj => ⟨g', 0, cf y, rfl, rfl, hl y, rfl, fun q u hq => ?_⟩⟩
    have := hown.cells (g := g') rfl (j * sz + q) u (flat_get hl xs j q y u hj hq)
    rw [Addr.add_lit] at this
    simpa [Nat.add_assoc] using this
theorem Recs.src (h : Recs sz cf ok w v xs) (hl : ∀ x : α, (cf x).length = sz) : Src w v sz xs.length (xs.flatMap cf) := by
  obtain ⟨a, cp, rfl, h1, h2, h3⟩ := h
  have hlen : (xs.flatMap cf).length = xs.length * sz := by
    clear h1 h2 h3
    induction xs with
    | nil => simp
    | cons x xs ih => rw [List.flatMap_cons, List.length_append, hl, ih, List.length_cons, Nat.add_mul]; omega
  refine ⟨a, cp, rfl, hlen, fun j u hj => ?_⟩
  have hj' := (List.getElem?_eq_some_iff.1 hj).1
  rw [hlen] at hj'
  have hsz : 0 < sz := by
    rcases Nat.eq_zero_or_pos sz with h0 | h0
    · subst h0; omega
    · exact h0
  have hk : j / sz < xs.length := (Nat.div_lt_iff_lt_mul hsz).2 hj'
  obtain ⟨x, hx⟩ := get_some' hk
  obtain ⟨b, o, vs, rfl, _, _, rfl, hc⟩ := h3 _ x hx
  refine ⟨_, rfl, ?_⟩
  have hm : j % sz < (cf x).length := by rw [hl]; exact Nat.mod_lt _ hsz
  obtain ⟨u', hu'⟩ := get_some' hm
  have h4 := flat_get hl xs _ _ x u' hx hu'
  rw [Nat.div_add_mod'] at h4
  rw [hj] at h4
  cases h4
  have h5 := hc _ u hu'
  rw [Addr.add_lit, ← Nat.div_add_mod' j sz]
  rw [Nat.div_add_mod', show o + j = o + j / sz * sz + j % sz by have := Nat.div_add_mod' j sz; omega]
  exact h5
end
section
variable {α : Type} {cf : α → List Value} {ok : Nat → Prop} {ys zs : List α} {k : Nat} {c : α} {off off' : Nat}
variable {r : Option Nat} {P : Program} {ops : Array Oper} {Q : Exit → Act → World → Prop} {rest : List Oper} {n : Nat} {s : List (Nat × Value)} {ds : List Deferred} {w w0 : World}
variable {d : Nat} {dd : Option Nat} {ty : TypeId} {pos : String} {af : Array Edge} {g : Option (Nat × Bool)} {v u : Value} {x y : Operand} {bs : List (World × List Nat)} {L L' : List Res} {t e T : TypeId} {sz by_ m cnt szf byf : Nat} {z zf : Value} {i : Int} {k' : IntKind} {ud : TypeDesc} {fields : Array Field} {f : Field} {j : Nat}
theorem ixR_r (hx : ev n s x = v) (hy : ev n s y = .int k' i) (ht : P.underlying t = some (.slice e)) (hi : TI P e sz by_ z) (hI : Recs sz cf ok w0 v ys) (h0 : 0 ≤ i) (hk : i.toNat = k) (hel : ys[k]? = some c) :
    (execOp (ev n s) ⟨dd, .indexAddr t x y, ty, pos, af, g⟩).run P w = .ok (.value (adrO sz v k 0)) w := by
  subst hk
  rw [adrO_zero]
  exact ixI_r hx hy ht hi hI h0 hel
theorem ixR (hg : takenB ops n s g = true) (hx : ev n s x = v) (hy : ev n s y = .int k' i) (ht : P.underlying t = some (.slice e)) (hi : TI P e sz by_ z) (hI : Recs sz cf ok w0 v ys) (h0 : 0 ≤ i) (hk : i.toNat = k) (hel : ys[k]? = some c)
    (K : WL r P ops Q rest (Fr n ((d, adrO sz v k 0) :: s) ds) w) : WL r P ops Q (⟨some d, .indexAddr t x y, ty, pos, af, g⟩ :: rest) (Fr n s ds) w := pv hg rfl (ixR_r hx hy ht hi hI h0 hk hel) K
theorem faR_r (hx : ev n s x = adrO sz v k off) (hT : P.underlying T = some (.struct fields)) (hf : fields[j]? = some f) (ht : TI P f.type (szf + 1) byf zf) (ho : off + f.offset = off') (hI : Recs sz cf ok w0 v ys) (hel : ys[k]? = some c) :
    (execOp (ev n s) ⟨dd, .fieldAddr T x j, ty, pos, af, g⟩).run P w = .ok (.value (adrO sz v k off')) w := by
  obtain ⟨b, o, m, cp, rfl, _⟩ := hI.place hel
  subst ho
  exact fa_r hx hT hf ht (by simp only [Nat.add_assoc])
theorem faR (hg : takenB ops n s g = true) (hx : ev n s x = adrO sz v k off) (hT : P.underlying T = some (.struct fields)) (hf : fields[j]? = some f) (ht : TI P f.type (szf + 1) byf zf) (ho : off + f.offset = off') (hI : Recs sz cf ok w0 v ys) (hel : ys[k]? = some c)
    (K : WL r P ops Q rest (Fr n ((d, adrO sz v k off') :: s) ds) w) : WL r P ops Q (⟨some d, .fieldAddr T x j, ty, pos, af, g⟩ :: rest) (Fr n s ds) w := pv hg rfl (faR_r hx hT hf ht ho hI hel) K
theorem ldR_r (hx : ev n s x = adrO sz v k off) (hu : P.underlying t = some ud) (hn : isAggD ud = false) (hI : Recs sz cf ok w v ys) (hel : ys[k]? = some c) (hc : (cf c)[off]? = some u) :
    (execOp (ev n s) ⟨dd, .load t x, ty, pos, af, g⟩).run P w = .ok (.value u) w := by
  obtain ⟨b, o, m, cp, rfl, _, _, _, h3⟩ := hI.place hel
  exact ld_r hx hu hn (h3 off u hc)
theorem ldR (hg : takenB ops n s g = true) (hx : ev n s x = adrO sz v k off) (hu : P.underlying t = some ud) (hn : isAggD ud = false) (hI : Recs sz cf ok w v ys) (hel : ys[k]? = some c) (hc : (cf c)[off]? = some u)
    (K : WL r P ops Q rest (Fr n ((d, u) :: s) ds) w) : WL r P ops Q (⟨some d, .load t x, ty, pos, af, g⟩ :: rest) (Fr n s ds) w := pv hg rfl (ldR_r hx hu hn hI hel hc) K
theorem ldRA_r {cs : List Value} {sz' : Nat} (hx : ev n s x = adrO sz v k off) (hu : P.underlying t = some ud) (hn : isAggD ud = true) (ht : TI P t sz' by_ z) (hI : Recs sz cf ok w v ys) (hel : ys[k]? = some c) (hl : cs.length = sz') (hc : ((cf c).drop off).take cs.length = cs) :
    (execOp (ev n s) ⟨dd, .load t x, ty, pos, af, g⟩).run P w = .ok (.value (.agg cs.toArray)) w := by
  obtain ⟨b, o, m, cp, rfl, _, _, _, h3⟩ := hI.place hel
  refine ldA_r (b := b) (o := o + k * sz + off) hx hu hn ht hl fun j u hj => ?_
  rw [← hc, List.getElem?_take] at hj
  split at hj
  · rw [List.getElem?_drop] at hj
    have := h3 (off + j) u hj
    rw [Nat.add_assoc]
    simpa [Nat.add_assoc] using this
  · cases hj
theorem ldRA {cs : List Value} {sz' : Nat} (hg : takenB ops n s g = true) (hx : ev n s x = adrO sz v k off) (hu : P.underlying t = some ud) (hn : isAggD ud = true) (ht : TI P t sz' by_ z) (hI : Recs sz cf ok w v ys) (hel : ys[k]? = some c) (hl : cs.length = sz') (hc : ((cf c).drop off).take cs.length = cs)
    (K : WL r P ops Q rest (Fr n ((d, .agg cs.toArray) :: s) ds) w) : WL r P ops Q (⟨some d, .load t x, ty, pos, af, g⟩ :: rest) (Fr n s ds) w := pv hg rfl (ldRA_r hx hu hn ht hI hel hl hc) K
theorem Sl.takeV {enc : World → α → List Value → Prop} {h : Nat} (hs : Sl sz enc ok w v ys) (hh : h ≤ ys.length) : Sl sz enc ok w (Go.Sx.cutV sz v 0 h) (ys.take h) := by
  have := hs.cutV (l := 0) (h := h) (by omega) hh
  simpa using this
theorem slV {enc : World → α → List Value → Prop} {low high : Option Operand} {l h : Nat} (hg : takenB ops n s g = true) (hx : ev n s x = v) (ht : P.underlying t = some (.slice e)) (hi : TI P e sz by_ z)
    (hI : Sl sz enc ok w0 v ys) (hlo : match low with | none => l = 0 | some p => ∃ k, ev n s p = .int k (l : Int)) (hhi : match high with | none => h = ys.length | some p => ∃ k, ev n s p = .int k (h : Int)) (hlh : l ≤ h) (hh : h ≤ ys.length)
    (K : WL r P ops Q rest (Fr n ((d, Go.Sx.cutV sz v l h) :: s) ds) w) : WL r P ops Q (⟨some d, .slice t x low high none, ty, pos, af, g⟩ :: rest) (Fr n s ds) w := pv hg rfl (slI_r hx ht hi hI hlo hhi hlh hh) K
theorem apdR {LL : Value → List Res} (i : Nat) (hg : takenB ops n s g = true) (hx : ev n s x = v) (hy : ev n s y = u) (ht : P.underlying t = some (.slice e)) (hi : TI P e sz by_ z) (hzs : z.cells.size = sz) (hsz : 0 < sz)
    (hst : St bs L w) (hL : L[i]? = some (rowR cf v e sz ys)) (hs : Src w u sz zs.length (zs.flatMap cf)) (h1 : ∀ x ∈ zs.flatMap cf, x.oneCell' = true) (hb : (ys.length + zs.length) * by_ ≤ 140737488355328) (h63 : ys.length + zs.length ≤ 9223372036854775807)
    (hLL : ∀ v', L.set i (rowR cf v' e sz (ys ++ zs)) = LL v')
    (K : ∀ v' w', St bs (LL v') w' → Chg v.ownBlock.toList w w' → WL r P ops Q rest (Fr n ((d, v') :: s) ds) w') :
    WL r P ops Q (⟨some d, .call ⟨.builtin .append, #[x, y], #[t, t]⟩, ty, pos, af, g⟩ :: rest) (Fr n s ds) w := by
  refine apd i hg hx hy ht hi hzs hsz hst hL hs h1 hb (by simp only [maxLen]; omega) fun v' w' h1 h2 => K v' w' ?_ h2
  rw [← hLL]
  simpa [rowR] using h1
end
structure FreshR {α : Type} (sz : Nat) (cf : α → List Value) (w : World) (w' : World) (r : Value) (e : TypeId) (zs : List α) : Prop where
  own : w'.ownsRow 0 e sz r zs.length (zs.flatMap cf)
  place : ∀ b, r.ownBlock = some b → w.heap.size ≤ b
section
variable {α : Type} {sz : Nat} {cf : α → List Value} {w w' w0 : World} {r : Value} {zs : List α} {bs : List (World × List Nat)} {L : List Res} {e : TypeId}
theorem St.endFreshR (h : St bs (rowR cf r e sz zs :: L) w) (hb : (w0, []) ∈ bs) : FreshR sz cf w0 w r e zs := by
  have hB := h.base _ hb
  refine ⟨h.own (rowR cf r e sz zs) (by simp), fun b hb' => ?_⟩
  rcases hB.mine b (by rw [feet_cons]; simp [row, hb']) with h1 | h1
  · simp at h1
  · exact h1
theorem FreshR.recs (h : FreshR sz cf w w' r e zs) (hl : ∀ x : α, (cf x).length = sz) : Recs sz cf (fun b => w.heap.size ≤ b) w' r zs := by
  rcases h.own.2 with ⟨rfl, h0⟩ | ⟨g', cap, cur, rfl, _, hg, h1, h2, _⟩
  · have : zs = [] := List.eq_nil_of_length_eq_zero h0
    subst this
    exact Sl.nil _ _ _ _
  · refine ⟨_, cap, rfl, h1, h2, fun j y hj => ⟨g', 0, cf y, rfl, h.place g' rfl, hl y, rfl, fun q u hq => ?_⟩⟩
    have := h.own.cells (g := g') rfl (j * sz + q) u (flat_get hl zs j q y u hj hq)
    rw [Addr.add_lit] at this
    simpa [Nat.add_assoc] using this
theorem St.addFreshR (h : St bs L w) (hc : Chg [] w w') (hf : FreshR sz cf w w' r e zs) : St bs (rowR cf r e sz zs :: L) w' :=
  h.addNew hc (fun b hb => hf.place b (by simpa [row] using hb)) (by show r.ownBlock.toList.Nodup; cases r.ownBlock <;> simp) (fun b hb => ownsRow_block hf.own (by simpa [row] using hb)) hf.own
end
end Go.Sx
namespace Go.Sx
open Go
section
variable {α : Type} [Inhabited α] {xs : List α} {k j : Nat} {f : α → α} {x : α}
def ndA (xs : List α) (k : Nat) : α := (xs[k]?).getD default
def updA (xs : List α) (k : Nat) (f : α → α) : List α := xs.set k (f (ndA xs k))
theorem nd_get (h : k < xs.length) : xs[k]? = some (ndA xs k) := by
  obtain ⟨y, hy⟩ := get_some' h
  simp [ndA, hy]
theorem nd_of (h : xs[k]? = some x) : ndA xs k = x := by simp [ndA, h]
theorem updA_len : (updA xs k f).length = xs.length := by simp [updA]
theorem nd_upd_same (h : k < xs.length) : ndA (updA xs k f) k = f (ndA xs k) := by simp [ndA, updA, List.getElem?_set, h]
theorem nd_upd_ne (h : k ≠ j) : ndA (updA xs k f) j = ndA xs j := by simp [ndA, updA, List.getElem?_set, h]
theorem nd_upd (h : k < xs.length) : ndA (updA xs k f) j = if k = j then f (ndA xs k) else ndA xs j := by
  split
  · rename_i e; subst e; exact nd_upd_same h
  · rename_i e; exact nd_upd_ne e
end
section
variable {α : Type} {cf : α → List Value} {sz : Nat}
theorem flat_len (hl : ∀ x : α, (cf x).length = sz) (xs : List α) : (xs.flatMap cf).length = xs.length * sz := by
  induction xs with
  | nil => simp
  | cons x xs ih => rw [List.flatMap_cons, List.length_append, hl, ih, List.length_cons, Nat.add_mul]; omega
theorem setAt_app_right {a b vs : List Value} {o : Nat} : setAt (a ++ b) (a.length + o) vs = a ++ setAt b o vs := by
  unfold setAt
  rw [List.take_append, List.drop_append]
  simp only [Nat.add_sub_cancel_left, List.append_assoc]
  rw [List.take_of_length_le (by omega), show a.length + o + vs.length - a.length = o + vs.length by omega, List.drop_of_length_le (by omega), List.nil_append]
theorem setAt_app_left {a b vs : List Value} {o : Nat} (h : o + vs.length ≤ a.length) : setAt (a ++ b) o vs = setAt a o vs ++ b := by
  unfold setAt
  rw [List.take_append_of_le_length (by omega), List.drop_append_of_le_length (by omega)]
  simp only [List.append_assoc]
theorem flat_set (hl : ∀ x : α, (cf x).length = sz) : ∀ (xs : List α) (k off : Nat) (x x' : α) (vs : List Value), xs[k]? = some x → cf x' = setAt (cf x) off vs → off + vs.length ≤ sz → setAt (xs.flatMap cf) (k * sz + off) vs = (xs.set k x').flatMap cf := by
  intro xs
  induction xs with
  | nil => intro k off x x' vs h; simp at h
  | cons x0 xs ih =>
    intro k off x x' vs hk hx hv
    cases k with
    | zero =>
      simp at hk
      subst hk
      rw [List.set_cons_zero, List.flatMap_cons, List.flatMap_cons, Nat.zero_mul, Nat.zero_add, setAt_app_left (by rw [hl]; exact hv), hx]
    | succ k =>
      rw [List.set_cons_succ, List.flatMap_cons, List.flatMap_cons, show (k + 1) * sz + off = (cf x0).length + (k * sz + off) by rw [hl, Nat.add_mul]; omega, setAt_app_right]
      rw [ih k off x x' vs (by simpa using hk) hx hv]
end
section
variable {α : Type} [Inhabited α] {cf : α → List Value} {sz : Nat} {w : World} {bs : List (World × List Nat)} {L : List Res} {xs : List α} {b i k off : Nat} {T : TypeId} {v : Value} {vs : List Value} {f : α → α}
theorem St.recCell (h : St bs L w) (hi : L[i]? = some (blk b T (xs.flatMap cf))) (hl : ∀ x : α, (cf x).length = sz) (hk : k < xs.length) (hc : (cf (ndA xs k))[off]? = some v) : w.cell? ⟨b, k * sz + off, none⟩ = some v :=
  h.blkCell hi (flat_get hl xs k off _ v (nd_get hk) hc)
theorem St.recCells (h : St bs L w) (hi : L[i]? = some (blk b T (xs.flatMap cf))) (hl : ∀ x : α, (cf x).length = sz) (hk : k < xs.length) (hc : ((cf (ndA xs k)).drop off).take vs.length = vs) : ∀ j u, vs[j]? = some u → w.cell? ⟨b, k * sz + off + j, none⟩ = some u := by
  intro j u hj
  rw [← hc, List.getElem?_take] at hj
  split at hj
  · rw [List.getElem?_drop] at hj
    rw [Nat.add_assoc]
    exact h.recCell hi hl hk hj
  · cases hj
theorem rec_set (hl : ∀ x : α, (cf x).length = sz) (hk : k < xs.length) (hx : cf (f (ndA xs k)) = setAt (cf (ndA xs k)) off vs) (hv : off + vs.length ≤ sz) : setAt (xs.flatMap cf) (k * sz + off) vs = (updA xs k f).flatMap cf :=
  flat_set hl xs k off _ _ vs (nd_get hk) hx hv
theorem rec_fit (hl : ∀ x : α, (cf x).length = sz) (hk : k < xs.length) {n : Nat} (hv : off + n ≤ sz) : k * sz + off + n ≤ (xs.flatMap cf).length := by
  rw [flat_len hl]
  have : (k + 1) * sz ≤ xs.length * sz := Nat.mul_le_mul_right _ hk
  rw [Nat.add_mul] at this
  omega
end
end Go.Sx
namespace Go.Sx
open Go
section
variable {α : Type} [Inhabited α] {cf : α → List Value} {sz : Nat} {w w0 : World} {bs : List (World × List Nat)} {L : List Res} {xs : List α} {b k off : Nat} {T : TypeId} {v : Value} {vs : List Value}
theorem St.roRec (h : St bs L w) (hb : (w0, []) ∈ bs) (h0 : (blk b T (xs.flatMap cf)).holds w0) (hl : ∀ x : α, (cf x).length = sz) (hk : k < xs.length) (hc : (cf (ndA xs k))[off]? = some v) : w.cell? ⟨b, k * sz + off, none⟩ = some v :=
  h.roCell hb h0 (flat_get hl xs k off _ v (nd_get hk) hc)
theorem St.roRecs (h : St bs L w) (hb : (w0, []) ∈ bs) (h0 : (blk b T (xs.flatMap cf)).holds w0) (hl : ∀ x : α, (cf x).length = sz) (hk : k < xs.length) (hc : ((cf (ndA xs k)).drop off).take vs.length = vs) : ∀ j u, vs[j]? = some u → w.cell? ⟨b, k * sz + off + j, none⟩ = some u := by
  intro j u hj
  rw [← hc, List.getElem?_take] at hj
  split at hj
  · rw [List.getElem?_drop] at hj
    rw [Nat.add_assoc]
    exact h.roRec hb h0 hl hk hj
  · cases hj
end
end Go.Sx
namespace Go.Sx
open Go
section
variable {r : Option Nat} {P : Program} {ops : Array Oper} {Q : Exit → Act → World → Prop} {rest : List Oper} {n : Nat} {s : List (Nat × Value)} {ds : List Deferred} {w : World}
variable {d : Nat} {dd : Option Nat} {ty t e : TypeId} {pos : String} {af : Array Edge} {g : Option (Nat × Bool)} {x y : Operand} {cs : Array Value} {k : IntKind} {i : Int} {len by_ : Nat} {u : TypeDesc} {v z : Value}
theorem idxAgg_r (hx : ev n s x = .agg cs) (hy : ev n s y = .int k i) (ht : P.underlying t = some (.array len e)) (he : P.underlying e = some u) (hn : isAggD u = false) (hi : TI P e 1 by_ z) (h0 : 0 ≤ i ∧ i < (len : Int)) (hv : cs[i.toNat]? = some v) :
    (execOp (ev n s) ⟨dd, .index t x y, ty, pos, af, g⟩).run P w = .ok (.value v) w := by
  simp [execOp, hx, hy, Instr.index, asIntOf, run_underlying ht, h0, hi.size, part, run_isAgg he, hn, hv]
theorem idxAgg (hg : takenB ops n s g = true) (hx : ev n s x = .agg cs) (hy : ev n s y = .int k i) (ht : P.underlying t = some (.array len e)) (he : P.underlying e = some u) (hn : isAggD u = false) (hi : TI P e 1 by_ z) (h0 : 0 ≤ i ∧ i < (len : Int)) (hv : cs[i.toNat]? = some v)
    (K : WL r P ops Q rest (Fr n ((d, v) :: s) ds) w) : WL r P ops Q (⟨some d, .index t x y, ty, pos, af, g⟩ :: rest) (Fr n s ds) w := pv hg rfl (idxAgg_r hx hy ht he hn hi h0 hv) K
end
end Go.Sx
namespace Go.Sx
open Go
section
variable {r : Option Nat} {P : Program} {ops : Array Oper} {Q : Exit → Act → World → Prop} {rest : List Oper} {n : Nat} {s : List (Nat × Value)} {ds : List Deferred} {w : World}
variable {d : Nat} {dd : Option Nat} {ty t t' e : TypeId} {pos : String} {af : Array Edge} {g : Option (Nat × Bool)} {x y : Operand} {a : Option Addr} {c : Bool}
theorem run_equalIn_ptr (k : Nat) (ht : P.underlying t = some (.pointer e)) : (Op.equalIn (k + 1) t (.pointer a) (.pointer none)).run P w = .ok a.isNone w := by
  cases a <;> simp [Op.equalIn, run_underlying ht]
theorem eqP_r (hx : ev n s x = .pointer a) (hy : ev n s y = .pointer none) (ht : P.underlying t = some (.pointer e)) (hc : a.isNone = c) :
    (execOp (ev n s) ⟨dd, .binOp .eql t x y t', ty, pos, af, g⟩).run P w = .ok (.value (.bool c)) w := by
  subst hc
  simp [execOp, hx, hy, eqGuard, binOp, Op.equal, Op.maxDepth, run_equalIn_ptr 9999 ht]
theorem eqP (hg : takenB ops n s g = true) (hx : ev n s x = .pointer a) (hy : ev n s y = .pointer none) (ht : P.underlying t = some (.pointer e)) (hc : a.isNone = c)
    (K : WL r P ops Q rest (Fr n ((d, .bool c) :: s) ds) w) : WL r P ops Q (⟨some d, .binOp .eql t x y t', ty, pos, af, g⟩ :: rest) (Fr n s ds) w := pv hg rfl (eqP_r hx hy ht hc) K
theorem neP_r (hx : ev n s x = .pointer a) (hy : ev n s y = .pointer none) (ht : P.underlying t = some (.pointer e)) (hc : (!a.isNone) = c) :
    (execOp (ev n s) ⟨dd, .binOp .neq t x y t', ty, pos, af, g⟩).run P w = .ok (.value (.bool c)) w := by
  subst hc
  simp [execOp, hx, hy, eqGuard, binOp, Op.equal, Op.maxDepth, run_equalIn_ptr 9999 ht]
theorem neP (hg : takenB ops n s g = true) (hx : ev n s x = .pointer a) (hy : ev n s y = .pointer none) (ht : P.underlying t = some (.pointer e)) (hc : (!a.isNone) = c)
    (K : WL r P ops Q rest (Fr n ((d, .bool c) :: s) ds) w) : WL r P ops Q (⟨some d, .binOp .neq t x y t', ty, pos, af, g⟩ :: rest) (Fr n s ds) w := pv hg rfl (neP_r hx hy ht hc) K
end
section
variable {P : Program} {n : Nat} {s : List (Nat × Value)} {w w0 : World} {fn : Func} {bs : List (World × List Nat)} {L : List Res} {x : ResultVar} {v : Value} {b : Nat} {T : TypeId} {cs : List Value}
theorem St.roBlk (h : St bs L w) (hb : (w0, []) ∈ bs) (h0 : (blk b T cs).holds w0) : (blk b T cs).holds w :=
  (h.keep hb (Array.getElem?_eq_some_iff.1 h0).1 (by simp)).trans h0
def ptC (a : Option Addr) : List Value := [.pointer a]
end
end Go.Sx
namespace Go.Ex
open Go Go.Sx
inductive Tr (α : Type) where
  | e
  | n (l : Tr α) (v : Option α) (r : Tr α)
variable {α : Type}
noncomputable def Tr.get (t : Tr α) : Nat → Option α :=
  Tr.rec (motive := fun _ => Nat → Option α) (fun _ => none) (fun _ v _ gl gr k => cond (Nat.beq k 0) v (cond (Nat.beq (Nat.mod k 2) 1) (gl (Nat.div k 2)) (gr (Nat.pred (Nat.div k 2))))) t
noncomputable def Tr.single (a : Option α) (f : Nat) : Nat → Tr α :=
  Nat.rec (motive := fun _ => Nat → Tr α) (fun _ => .e) (fun _ ih k => cond (Nat.beq k 0) (.n .e a .e) (cond (Nat.beq (Nat.mod k 2) 1) (.n (ih (Nat.div k 2)) none .e) (.n .e none (ih (Nat.pred (Nat.div k 2)))))) f
noncomputable def Tr.put (t : Tr α) (k : Nat) (a : Option α) : Tr α :=
  Tr.rec (motive := fun _ => Nat → Tr α) (fun k => Tr.single a (Nat.succ k) k) (fun l v r pl pr k => cond (Nat.beq k 0) (.n l a r) (cond (Nat.beq (Nat.mod k 2) 1) (.n (pl (Nat.div k 2)) v r) (.n l v (pr (Nat.pred (Nat.div k 2)))))) t k
theorem beq_dec (a b : Nat) : Nat.beq a b = decide (a = b) := by
  by_cases h : a = b
  · subst h; simp
  · cases hb : Nat.beq a b with
    | false => simp [h]
    | true => exact absurd (Nat.eq_of_beq_eq_true hb) h
theorem Tr.get_e (k : Nat) : (Tr.e : Tr α).get k = none := rfl
theorem Tr.get_n (l r : Tr α) (v : Option α) (k : Nat) : (Tr.n l v r).get k = if k = 0 then v else if k % 2 = 1 then l.get (k / 2) else r.get (k / 2 - 1) := by
  show cond (Nat.beq k 0) v (cond (Nat.beq (Nat.mod k 2) 1) (l.get (Nat.div k 2)) (r.get (Nat.pred (Nat.div k 2)))) = _
  simp only [beq_dec]
  by_cases h : k = 0
  · simp [h]
  · by_cases h1 : k % 2 = 1
    · have h2 : Nat.mod k 2 = 1 := h1
      simp [h, h1, h2]; rfl
    · have h2 : ¬ Nat.mod k 2 = 1 := h1
      simp [h, h1, h2]; rfl
theorem Tr.single_s (a : Option α) (f k : Nat) : Tr.single a (f + 1) k = if k = 0 then .n .e a .e else if k % 2 = 1 then .n (Tr.single a f (k / 2)) none .e else .n .e none (Tr.single a f (k / 2 - 1)) := by
  show cond (Nat.beq k 0) (Tr.n Tr.e a Tr.e) (cond (Nat.beq (Nat.mod k 2) 1) (Tr.n (Tr.single a f (Nat.div k 2)) none Tr.e) (Tr.n Tr.e none (Tr.single a f (Nat.pred (Nat.div k 2))))) = _
  simp only [beq_dec]
  by_cases h : k = 0
  · simp [h]
  · by_cases h1 : k % 2 = 1
    · have h2 : Nat.mod k 2 = 1 := h1
      simp [h, h1, h2]; rfl
    · have h2 : ¬ Nat.mod k 2 = 1 := h1
      simp [h, h1, h2]; rfl
theorem Tr.put_e (a : Option α) (k : Nat) : (Tr.e : Tr α).put k a = Tr.single a (k + 1) k := rfl
theorem Tr.put_n (l r : Tr α) (v a : Option α) (k : Nat) : (Tr.n l v r).put k a = if k = 0 then .n l a r else if k % 2 = 1 then .n (l.put (k / 2) a) v r else .n l v (r.put (k / 2 - 1) a) := by
  show cond (Nat.beq k 0) (Tr.n l a r) (cond (Nat.beq (Nat.mod k 2) 1) (Tr.n (l.put (Nat.div k 2) a) v r) (Tr.n l v (r.put (Nat.pred (Nat.div k 2)) a))) = _
  simp only [beq_dec]
  by_cases h : k = 0
  · simp [h]
  · by_cases h1 : k % 2 = 1
    · have h2 : Nat.mod k 2 = 1 := h1
      simp [h, h1, h2]; rfl
    · have h2 : ¬ Nat.mod k 2 = 1 := h1
      simp [h, h1, h2]; rfl
theorem Tr.get_single (a : Option α) : ∀ (f k k' : Nat), k < f → (Tr.single a f k).get k' = if k' = k then a else none := by
  intro f
  induction f with
  | zero => intro k k' h; omega
  | succ f ih =>
    intro k k' h
    rw [Tr.single_s]
    by_cases h0 : k = 0
    · subst h0
      rw [if_pos rfl, Tr.get_n]
      by_cases h1 : k' = 0
      · rw [if_pos h1, if_pos h1]
      · rw [if_neg h1, if_neg h1, Tr.get_e, Tr.get_e]; simp
    · rw [if_neg h0]
      by_cases h2 : k % 2 = 1
      · rw [if_pos h2, Tr.get_n]
        by_cases h1 : k' = 0
        · rw [if_pos h1, if_neg (by omega)]
        · rw [if_neg h1]
          by_cases h3 : k' % 2 = 1
          · rw [if_pos h3, ih _ _ (by omega)]
            by_cases h4 : k' = k
            · rw [if_pos h4, if_pos (by rw [h4])]
            · rw [if_neg h4, if_neg (by omega)]
          · rw [if_neg h3, Tr.get_e, if_neg (by intro e; subst e; exact h3 h2)]
      · rw [if_neg h2, Tr.get_n]
        by_cases h1 : k' = 0
        · rw [if_pos h1, if_neg (by omega)]
        · rw [if_neg h1]
          by_cases h3 : k' % 2 = 1
          · rw [if_pos h3, Tr.get_e, if_neg (by intro e; subst e; exact h2 h3)]
          · rw [if_neg h3, ih _ _ (by omega)]
            by_cases h4 : k' = k
            · rw [if_pos h4, if_pos (by rw [h4])]
            · rw [if_neg h4, if_neg (by omega)]
theorem Tr.get_put (t : Tr α) : ∀ (k k' : Nat) (a : Option α), (t.put k a).get k' = if k' = k then a else t.get k' := by
  induction t with
  | e => intro k k' a; rw [Tr.put_e, Tr.get_single a (k + 1) k k' (by omega), Tr.get_e]
  | n l v r ihl ihr =>
    intro k k' a
    rw [Tr.put_n]
    by_cases h0 : k = 0
    · subst h0
      rw [if_pos rfl, Tr.get_n, Tr.get_n]
      by_cases h1 : k' = 0
      · rw [if_pos h1, if_pos h1]
      · rw [if_neg h1, if_neg h1, if_neg h1]
    · rw [if_neg h0]
      by_cases h2 : k % 2 = 1
      · rw [if_pos h2, Tr.get_n, Tr.get_n]
        by_cases h1 : k' = 0
        · rw [if_pos h1, if_pos h1, if_neg (by omega)]
        · rw [if_neg h1, if_neg h1]
          by_cases h3 : k' % 2 = 1
          · rw [if_pos h3, if_pos h3, ihl]
            by_cases h4 : k' = k
            · rw [if_pos h4, if_pos (by rw [h4])]
            · rw [if_neg h4, if_neg (by omega)]
          · rw [if_neg h3, if_neg h3, if_neg (by intro e; subst e; exact h3 h2)]
      · rw [if_neg h2, Tr.get_n, Tr.get_n]
        by_cases h1 : k' = 0
        · rw [if_pos h1, if_pos h1, if_neg (by omega)]
        · rw [if_neg h1, if_neg h1]
          by_cases h3 : k' % 2 = 1
          · rw [if_pos h3, if_pos h3, if_neg (by intro e; subst e; exact h2 h3)]
          · rw [if_neg h3, if_neg h3, ihr]
            by_cases h4 : k' = k
            · rw [if_pos h4, if_pos (by rw [h4])]
            · rw [if_neg h4, if_neg (by omega)]
theorem Tr.get_put_self (t : Tr α) (k : Nat) (a : Option α) : (t.put k a).get k = a := by rw [Tr.get_put, if_pos rfl]
theorem Tr.get_put_ne (t : Tr α) {k k' : Nat} (a : Option α) (h : k' ≠ k) : (t.put k a).get k' = t.get k' := by rw [Tr.get_put, if_neg h]
structure Nm where
  blk : Nat
  sh : Nat
  sl : Nat
abbrev Env := Nat → Nm
def OPEN : Nat := 18446744073709551616
def renAd (E : Env) (a : Addr) : Addr := ⟨(E a.block).blk, (E a.block).sh + a.off, a.spot⟩
def renCap (E : Env) (b c : Nat) : Nat := if OPEN ≤ c then c - OPEN + (E b).sl else c
def renFn (E : Env) : Fn → Fn
  | .yield l => .yield (E l).blk
  | f => f
mutual
def ren (E : Env) : Value → Value
  | .pointer (some a) => .pointer (some (renAd E a))
  | .slice (some a) m c => .slice (some (renAd E a)) m (renCap E a.block c)
  | .map (some r) => .map (some (E r).blk)
  | .chan (some r) => .chan (some (E r).blk)
  | .func fn fi ca => .func (renFn E fn) (renA E fi) (renA E ca)
  | .iface t v => .iface t (ren E v)
  | .agg cs => .agg (renA E cs)
  | .tuple cs => .tuple (renA E cs)
  | .pointer none => .pointer none
  | .slice none m c => .slice none m c
  | .map none => .map none
  | .chan none => .chan none
  | .bool b => .bool b
  | .int k a => .int k a
  | .float k a => .float k a
  | .complex k a b => .complex k a b
  | .string s => .string s
  | .nilFunc => .nilFunc
  | .nilIface => .nilIface
termination_by structural x => x
def renA (E : Env) : Array Value → Array Value
  | ⟨l⟩ => ⟨renL E l⟩
termination_by structural x => x
def renL (E : Env) : List Value → List Value
  | [] => []
  | v :: l => ren E v :: renL E l
termination_by structural x => x
end
mutual
def nm : Value → Nat
  | .pointer (some a) => a.block + 1
  | .slice (some a) _ _ => a.block + 1
  | .map (some r) => r + 1
  | .chan (some r) => r + 1
  | .func fn fi ca => max (match fn with | .yield l => l + 1 | _ => 0) (max (nmA fi) (nmA ca))
  | .iface _ v => nm v
  | .agg cs => nmA cs
  | .tuple cs => nmA cs
  | .pointer none => 0
  | .slice none _ _ => 0
  | .map none => 0
  | .chan none => 0
  | .bool _ => 0
  | .int _ _ => 0
  | .float _ _ => 0
  | .complex _ _ _ => 0
  | .string _ => 0
  | .nilFunc => 0
  | .nilIface => 0
termination_by structural x => x
def nmA : Array Value → Nat
  | ⟨l⟩ => nmL l
termination_by structural x => x
def nmL : List Value → Nat
  | [] => 0
  | v :: l => max (nm v) (nmL l)
termination_by structural x => x
end
theorem renL_map (E : Env) : ∀ l : List Value, renL E l = l.map (ren E)
  | [] => rfl
  | v :: l => by rw [renL, renL_map E l]; rfl
theorem renA_map (E : Env) (a : Array Value) : renA E a = a.map (ren E) := by
  cases a; rw [renA, renL_map]; simp
theorem renA_list (E : Env) (l : List Value) : renA E l.toArray = (l.map (ren E)).toArray := by rw [renA_map]; simp
theorem nmL_le {k : Nat} : ∀ {l : List Value}, nmL l ≤ k ↔ ∀ v ∈ l, nm v ≤ k
  | [] => by simp [nmL]
  | v :: l => by
    rw [nmL, Nat.max_le, nmL_le (l := l)]
    simp
theorem nmA_le {k : Nat} {a : Array Value} : nmA a ≤ k ↔ ∀ v ∈ a, nm v ≤ k := by
  cases a with | mk l => rw [nmA, nmL_le]; simp
mutual
theorem ren_ext {E E' : Env} {k : Nat} (h : ∀ b, b < k → E' b = E b) : ∀ v : Value, nm v ≤ k → ren E' v = ren E v
  | .pointer (some a), hn => by simp only [nm] at hn; simp only [ren, renAd, h a.block (by omega)]
  | .slice (some a) _ _, hn => by simp only [nm] at hn; simp only [ren, renAd, renCap, h a.block (by omega)]
  | .map (some r), hn => by simp only [nm] at hn; simp only [ren, h r (by omega)]
  | .chan (some r), hn => by simp only [nm] at hn; simp only [ren, h r (by omega)]
  | .func fn fi ca, hn => by
    simp only [nm, Nat.max_le] at hn
    simp only [ren]
    rw [renA_ext h fi hn.2.1, renA_ext h ca hn.2.2]
    have : renFn E' fn = renFn E fn := by
      cases fn <;> simp only [renFn]
      rename_i l
      rw [h l (by have := hn.1; simp at this; omega)]
    rw [this]
  | .iface t v, hn => by simp only [nm] at hn; simp only [ren, ren_ext h v hn]
  | .agg cs, hn => by simp only [nm] at hn; simp only [ren, renA_ext h cs hn]
  | .tuple cs, hn => by simp only [nm] at hn; simp only [ren, renA_ext h cs hn]
  | .pointer none, _ => rfl
  | .slice none _ _, _ => rfl
  | .map none, _ => rfl
  | .chan none, _ => rfl
  | .bool _, _ => rfl
  | .int _ _, _ => rfl
  | .float _ _, _ => rfl
  | .complex _ _ _, _ => rfl
  | .string _, _ => rfl
  | .nilFunc, _ => rfl
  | .nilIface, _ => rfl
theorem renA_ext {E E' : Env} {k : Nat} (h : ∀ b, b < k → E' b = E b) : ∀ a : Array Value, nmA a ≤ k → renA E' a = renA E a
  | ⟨l⟩, hn => by simp only [nmA] at hn; simp only [renA, renL_ext h l hn]
theorem renL_ext {E E' : Env} {k : Nat} (h : ∀ b, b < k → E' b = E b) : ∀ l : List Value, nmL l ≤ k → renL E' l = renL E l
  | [], _ => rfl
  | v :: l, hn => by simp only [nmL, Nat.max_le] at hn; simp only [renL, ren_ext h v hn.1, renL_ext h l hn.2]
end
theorem map_ren_ext {E E' : Env} {k : Nat} (h : ∀ b, b < k → E' b = E b) {l : List Value} (hn : nmL l ≤ k) : l.map (ren E') = l.map (ren E) := by
  rw [← renL_map, ← renL_map, renL_ext h l hn]
theorem ren_closed {E : Env} {v : Value} (h : nm v = 0) (E' : Env) : ren E v = ren E' v := ren_ext (k := 0) (fun b hb => by omega) v (by omega)
mutual
theorem ren_id : ∀ v : Value, nm v = 0 → ∀ E, ren E v = v
  | .pointer (some a), hn, _ => by simp [nm] at hn
  | .slice (some a) _ _, hn, _ => by simp [nm] at hn
  | .map (some r), hn, _ => by simp [nm] at hn
  | .chan (some r), hn, _ => by simp [nm] at hn
  | .func fn fi ca, hn, E => by
    have h1 : nmA fi = 0 := by simp only [nm] at hn; omega
    have h2 : nmA ca = 0 := by simp only [nm] at hn; omega
    simp only [ren, renA_id fi h1, renA_id ca h2]
    cases fn <;> simp only [renFn]
    simp only [nm] at hn; omega
  | .iface t v, hn, E => by simp only [nm] at hn; simp only [ren, ren_id v hn]
  | .agg cs, hn, E => by simp only [nm] at hn; simp only [ren, renA_id cs hn]
  | .tuple cs, hn, E => by simp only [nm] at hn; simp only [ren, renA_id cs hn]
  | .pointer none, _, _ => rfl
  | .slice none _ _, _, _ => rfl
  | .map none, _, _ => rfl
  | .chan none, _, _ => rfl
  | .bool _, _, _ => rfl
  | .int _ _, _, _ => rfl
  | .float _ _, _, _ => rfl
  | .complex _ _ _, _, _ => rfl
  | .string _, _, _ => rfl
  | .nilFunc, _, _ => rfl
  | .nilIface, _, _ => rfl
theorem renA_id : ∀ a : Array Value, nmA a = 0 → ∀ E, renA E a = a
  | ⟨l⟩, hn, E => by simp only [nmA] at hn; simp only [renA, renL_id l hn]
theorem renL_id : ∀ l : List Value, nmL l = 0 → ∀ E, renL E l = l
  | [], _, _ => rfl
  | v :: l, hn, E => by
    have h1 : nm v = 0 := by simp only [nmL] at hn; omega
    have h2 : nmL l = 0 := by simp only [nmL] at hn; omega
    simp only [renL, ren_id v h1, renL_id l h2]
end
theorem ren_cells (E : Env) (v : Value) : (ren E v).cells = v.cells.map (ren E) := by
  cases v <;> first
    | (simp only [ren, Value.cells, renA_map]; done)
    | (rename_i o; cases o <;> simp [ren, Value.cells]; done)
    | (rename_i o _ _; cases o <;> simp [ren, Value.cells]; done)
    | simp [ren, Value.cells]
theorem nm_cells (v : Value) : nmA v.cells = nm v := by
  cases v <;> first
    | rfl
    | simp [Value.cells, nmA, nmL]
end Go.Ex
