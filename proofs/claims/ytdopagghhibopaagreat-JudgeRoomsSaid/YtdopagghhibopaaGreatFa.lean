/- Plain lemmas: rules for walking through code, one for each operation, over any program; an evaluator of closed calls with its soundness; and plain mathematics. No conditions. -/
import Derived.WalkKit
import Derived.TacticsIn
import Derived.RangeFuncIn
import Derived.Shelf.Abstract
import Derived.Laws.CopyOwn
import Derived.OrdersIn
import Derived.WalkSpells
import Derived.Lib.SliceRun
import Derived.RecoverIn
import Derived.WideLaws
import Derived.RangeFuncRecord
set_option linter.unusedVariables false
set_option linter.unusedSectionVars false
set_option linter.unusedSimpArgs false
namespace Go.Sx
open Go
abbrev za:=@Nat.le_of_ble_eq_true
abbrev zb:=@List.getElem?_eq_some_iff
abbrev zd:=@Result.andThen_ok
abbrev ze:=@List.mem_of_getElem?
abbrev zg:=@List.mem_cons
abbrev zh:=@List.mem_cons_self
abbrev zj:=@Sem.run_bind
abbrev zk:=@List.length_cons
abbrev zm:=@Sem.run_pure
abbrev zn:=@List.length_append
abbrev zo:=@List.getElem?_eq_getElem
abbrev zp:=@Nat.le_refl
abbrev zq:=@List.length_nil
abbrev zr:=@List.mem_append
abbrev zt:=@Bool.and_eq_true
abbrev zu:=@List.length_map
abbrev zw:=@List.nodup_append
abbrev zx:=@List.nodup_cons
abbrev zy:=@List.map_cons
abbrev zz:=@List.all_eq_true
abbrev z1:=@Nat.le_trans
abbrev z6:=@Nat.lt_of_lt_of_le
abbrev z7:=@Nat.eq_of_beq_eq_true
abbrev z8:=@Array.getElem?_eq_some_iff
abbrev jF:=@Nat.zero_add
abbrev kX:=@List.getElem?_map
abbrev lu:=@List.flatMap_cons
abbrev jW:=@List.mem_map
abbrev ko:=@Nat.add_assoc
abbrev lH:=@List.append_assoc
abbrev mQ:=@List.mem_cons_of_mem
abbrev nk:=@List.getElem?_eq_none
abbrev mj:=@List.mem_singleton
abbrev l5:=@List.length_take
abbrev mD:=@List.append_nil
abbrev nE:=@List.ext_getElem?
abbrev nC:=@List.nil_append
abbrev ni:=@List.mem_range
abbrev rH:=@List.getElem?_toArray
abbrev tS:=@List.getElem?_append_left
abbrev sL:=@List.take_of_length_le
abbrev oE:=@Option.map_some
abbrev qN:=@List.getElem?_take
abbrev wS:=@List.eq_nil_of_length_eq_zero
abbrev sC:=@List.perm_append_comm
abbrev sJ:=@Array.getElem?_toList
abbrev sO:=@List.contains_iff_mem
abbrev nF:=@Nat.add_zero
abbrev rO:=@Bool.or_eq_true_iff
abbrev qc:=@List.cons_append
abbrev p7:=@List.mem_flatMap
abbrev rN:=@Bool.false_eq_true
abbrev wE:=@List.getElem?_append_right
abbrev qM:=@List.map_append
abbrev tH:=@Array.length_toList
abbrev uV:=@Nat.lt_iff_add_one_le
abbrev ot:=@Nat.add_mul
abbrev sG:=@List.getElem?_set
abbrev uO:=@List.mem_append_left
abbrev oG:=@Nat.zero_le
abbrev sw:=@List.not_mem_nil
abbrev x8:=@List.drop_eq_getElem_cons
abbrev yP:=@List.pairwise_iff_getElem
abbrev ua:=@Int.toNat_natCast
abbrev wu:=@List.mem_append_right
abbrev wL:=@Nat.mul_le_mul_right
abbrev oL:=@Nat.max_le
abbrev qH:=@Nat.lt_or_ge
abbrev Br:=@Int.tmod_eq_emod_of_nonneg
abbrev vg:=@Nat.lt_trichotomy
abbrev wz:=@List.filterMap_cons
abbrev Bn:=@Array.getElem?_eq_getElem
abbrev yV:=@List.take_append_drop
abbrev yA:=@List.mem_iff_getElem?
abbrev u5:=@List.countP_cons
abbrev wK:=@Nat.eq_zero_or_pos
abbrev yQ:=@List.getElem?_append
abbrev yF:=@List.getElem?_modify
abbrev AT:=@List.getElem?_replicate
abbrev FU:=@List.set_eq_take_append_cons_drop
abbrev sF:=@Nat.le_of_lt
abbrev wU:=@List.length_drop
abbrev wA:=@List.perm_middle
abbrev wD:=@List.filter_cons
abbrev FN:=@List.eraseIdx_eq_take_drop_succ
abbrev wI:=@Bool.or_eq_true
abbrev yO:=@List.take_add_one
abbrev AL:=@List.countP_eq_zero
abbrev Bj:=@List.getElem?_range
abbrev A8:=@List.map_congr_left
abbrev Bq:=@Array.toList_modify
abbrev wO:=@List.nodup_nil
abbrev Bk:=@List.getElem?_drop
abbrev C9:=@Nat.ble_eq_true_of_le
abbrev xY:=@Option.map_none
abbrev FO:=@Array.toList_setIfInBounds
abbrev C6:=@Array.toArray_toList
abbrev Bi:=@List.take_append
abbrev Bl:=@Nat.div_add_mod'
abbrev Bp:=@Option.getD_some
abbrev FX:=@List.getElem_append_left
abbrev CG:=@Nat.mul_le_mul_left
abbrev CD:=@List.mem_filterMap
abbrev vh:=@Nat.mod_lt
abbrev CQ:=@List.getLast?_cons
abbrev Gr:=@List.drop_of_length_le
abbrev Ku:=@List.take_append_of_le_length
abbrev yK:=@List.map_nil
abbrev yM:=@Nat.sub_zero
abbrev Gm:=@Array.getElem?_modify
abbrev C2:=@List.drop_append
abbrev C4:=@List.nodup_range
abbrev Gq:=@List.mem_of_mem_take
abbrev Ft:=@List.mem_of_getLast?
abbrev Ge:=@List.mem_iff_getElem
abbrev yX:=@Int.le_refl
abbrev CC:=@List.foldl_cons
abbrev CU:=@Nat.min_eq_left
abbrev KP:=@List.mem_or_eq_of_mem_set
abbrev CO:=@Nat.one_ne_zero
abbrev KM:=@List.getLast?_eq_none_iff
abbrev Cy:=@Int.emod_nonneg
abbrev KB:=@List.exists_mem_of_ne_nil
abbrev CJ:=@Nat.testBit_and
abbrev Bd:=@List.map_map
abbrev KN:=@List.length_erase_of_mem
abbrev CZ:=@Bool.xor_false
abbrev Ks:=@Nat.add_sub_cancel_left
abbrev KY:=@List.length_eq_zero_iff
abbrev FM:=@Option.mem_toList
abbrev Fu:=@Nat.le_succ_of_le
abbrev F3:=@List.filter_congr
abbrev Kk:=@List.sublist_cons_self
abbrev Be:=@Nat.mul_add
abbrev Kx:=@List.length_pos_of_mem
abbrev FR:=@List.map_toArray
abbrev FZ:=@List.any_eq_true
abbrev FA:=@List.take_length
abbrev FH:=@List.getElem_mem
abbrev La:=@List.countP_le_length
abbrev Kz:=@Nat.div_lt_iff_lt_mul
abbrev KZ:=@List.filterMap_append
abbrev Ko:=@List.length_replicate
abbrev K5:=@List.findIdx?_toArray
abbrev KI:=@List.eraseIdx_sublist
abbrev FJ:=@List.mem_filter
abbrev Kv:=@List.mem_of_mem_drop
abbrev Kh:=@List.getElem?_of_mem
abbrev C7:=@Nat.ne_of_lt
theorem o_{p:Prop}(h:p:=by omega):p:=h
theorem s_{p:Prop}(h:p:=by simp):p:=h
theorem d_{p:Prop}(h:p:=by decide):p:=h
end Go.Sx
namespace Go.Sx
open Go
def look:List (Nat×Value)->Nat->Value
 | [],_=>undef
 | (i,v) :: s,t=>bif Nat.beq i t then v else look s t
def Fr(n:Nat)(s:List (Nat×Value))(ds:List Deferred):Act :=
 { tmps:=Array.ofFn (n:=n) fun i=>look s i.val,defers:=ds }
def ev(n:Nat)(s:List (Nat×Value)):Operand->Value
 | .tmp t=>bif Nat.blt t n then look s t else undef
 | .const v=>v
 | .global g=>.pointer (some ⟨g,0,none⟩)
 | .func f=>.func (.func f) #[] #[]
theorem s5{a b:Nat}(h:a<b):Nat.blt a b=true:=by simp[Nat.blt];omega
theorem BF{a b:Nat}(h:¬ a<b):Nat.blt a b=false:=by
 cases hb:Nat.blt a b with
 | false=>rfl
 | true=>exact absurd (by simpa[Nat.blt,uV]using hb) h
theorem D5(n:Nat)(s:List (Nat×Value))(ds:List Deferred)(x:Operand):(Fr n s ds).eval x=ev n s x:=by
 cases x with
 | tmp t =>
  by_cases h:t<n
  . simp[Act.eval,Fr,ev,h,s5 h]
  . simp[Act.eval,Fr,ev,h,BF h]
 | _=>rfl
theorem qn (n:Nat)(s:List (Nat×Value))(ds:List Deferred):(Fr n s ds).eval=ev n s:=funext (D5 n s ds)
theorem w5(i t:Nat)(v:Value)(s:List (Nat×Value)):look ((i,v) :: s) t=if i=t then v else look s t:=by
 by_cases h:i=t
 . simp[look,h]
 . have:Nat.beq i t=false:=by
    cases hb:Nat.beq i t with
    | false=>rfl
    | true=>exact absurd (z7 hb) h
   simp[look,this,h]
theorem th{n:Nat}{s s' : List (Nat×Value)}(ds:List Deferred)(h:∀ t,look s t=look s' t):Fr n s ds=Fr n s' ds:=by
 unfold Fr
 congr 2
 funext i
 exact h i.val
theorem Em(n:Nat)(s:List (Nat×Value))(ds:List Deferred)(d:Nat)(v:Value):(Fr n s ds).put (some d) v=Fr n ((d,v) :: s) ds:=by
 unfold Act.put Fr
 simp only[Act.mk.injEq,and_true]
 apply Array.ext
 . simp
 . intro i h1 h2
   simp at h1 h2
   rw[Array.getElem_setIfInBounds (by simpa using h2)]
   simp[w5]
theorem R8(pre s:List (Nat×Value))(h:∀ p∈pre,look s p.1=p.2)(t:Nat):look (pre++s) t=look s t:=by
 induction pre with
 | nil=>rfl
 | cons p pre ih =>
  have ih' := ih (fun q hq=>h q (mQ _ hq))
  obtain⟨i,v⟩:=p
  rw[qc,w5]
  split
  . rename_i e;subst e;exact(h (i,v) (zh ..)).symm
  . exact ih'
def Holds(s:List (Nat×Value)):List (Nat×Value)->Prop
 | []=>True
 | p :: l=>look s p.1=p.2/\Holds s l
theorem Holds.mem{s:List (Nat×Value)}:∀ {l:List (Nat×Value)},Holds s l->∀ p∈l,look s p.1=p.2
 | [],_,p,hp=>by cases hp
 | q :: l,h,p,hp=>by
  cases hp with
  | head=>exact h.1
  | tail _ hp=>exact Holds.mem h.2 p hp
theorem Wy{n:Nat}{s:List (Nat×Value)}{ds:List Deferred}(pre:List (Nat×Value))(h:Holds s pre):Fr n s ds=Fr n (pre++s) ds :=
 th ds fun t=>(R8 pre s h.mem t).symm
def FW(r:Option Nat):Fence:={ fn:=fun _=>True,depth:=none,alive:=false,round:=r }
abbrev WP(r:Option Nat)(P:Program)(c:Code)(Q:Exit->Act->World->Prop)(a:Act)(w:World):Prop:=c.wpIn (FW r) 0 P Q a w
structure WL (r:Option Nat) (P:Program) (ops:Array Oper) (Q:Exit->Act->World->Prop) (l:List Oper) (a:Act) (w:World):Prop where
 out:wpListIn (FW r) 0 P ops Q l a w
theorem rV{r:Option Nat}{m:Nat}{P:Program}{f:FuncId}{args:Array Value}{w:World}{R:Ending->World->Prop} :
 CallsIn (FW r) m P f args w R↔Calls P f args w R:=callsIn_wide (n:=m)
def r7:List Oper->Nat->Option Nat
 | [],_=>none
 | o :: _,0=>o.dst
 | _ :: l,j+1=>r7 l j
theorem DQ(l:List Oper):∀ j,r7 l j=(l[j]?).bind (·.dst):=by
 induction l with
 | nil=>intro j;simp[r7]
 | cons o l ih=>intro j;cases j with|zero=>rfl|succ j=>simpa[r7]using ih j
def Ao:Value->Bool->Bool
 | .bool b,want=>bif want then b else !b
 | _,_=>false
def gy(ops:Array Oper)(n:Nat)(s:List (Nat×Value)):Option (Nat×Bool)->Bool
 | none=>true
 | some (j,want) =>
  match r7 ops.toList j with
  | some d=>Ao (ev n s (.tmp d)) want
  | none=>false
theorem nW(ops:Array Oper)(n:Nat)(s:List (Nat×Value))(ds:List Deferred)(o:Oper) :
 Region.wanted o (yielded ops (Fr n s ds).tmps)=gy ops n s o.guard:=by
 unfold Region.wanted gy
 cases o.guard with
 | none=>rfl
 | some g =>
  obtain⟨j,want⟩:=g
  have e:r7 ops.toList j=(ops[j]?).bind (·.dst):=by rw[DQ];simp
  simp only[yielded,e]
  cases (ops[j]?).bind (·.dst)with
  | none=>simp
  | some d =>
   simp only[Option.bind_some]
   by_cases h:d<n
   . have:(Fr n s ds).tmps[d]? = some (look s d):=by simp[Fr,h]
     rw[this]
     simp only[ev,s5 h,cond_true]
     cases look s d<;>simp[Ao]
     rename_i b
     cases b<;>cases want<;>rfl
   . have:(Fr n s ds).tmps[d]? = none:=Array.getElem?_eq_none (by simpa[Fr]using h)
     rw[this]
     simp[ev,BF h,undef,Ao]
section ops
variable {r:Option Nat} {P:Program} {ops:Array Oper} {Q:Exit->Act->World->Prop} {rest:List Oper} {n:Nat} {s:List (Nat×Value)} {ds:List Deferred} {w w' : World}
theorem OQ(h:Q .normal (Fr n s ds) w):WL r P ops Q [] (Fr n s ds) w:=⟨h⟩
theorem semAt_eq{r:Option Nat}{ρ:Operand->Value}{o:Oper}(h:∀ c,o.op ≠ .defer c):o.semAt r ρ=execOp ρ o:=by
 cases r with
 | none=>exact congrFun (congrFun (funext fun ρ=>funext fun o=>Oper.semAt_none ρ o) ρ) o
 | some l=>exact Oper.semAt_some l ρ o h
def nr:Op->Bool
 | .defer _=>false
 | _=>true
theorem uc{op:Op}(h:nr op=true):∀ c,op ≠ .defer c:=by
 intro c e;subst e;cases h
theorem I9{o:Oper}{v:Value}(hg:gy ops n s o.guard=true)(hd:nr o.op=true)(h:(execOp (ev n s) o).run P w = .ok (.value v) w')
 (K:WL r P ops Q rest ((Fr n s ds).put o.dst v) w'):WL r P ops Q (o :: rest) (Fr n s ds) w:=by
 refine⟨?_⟩
 unfold wpListIn
 rw[nW,hg,if_pos rfl]
 refine⟨fun _ _=>trivial,?_⟩
 rw[semAt_eq (uc hd),qn, h]
 exact K.out
theorem zQ{o:Oper}(hg:gy ops n s o.guard=true)(hd:nr o.op=true)(h:(execOp (ev n s) o).run P w = .ok .skip w')
 (K:WL r P ops Q rest ((Fr n s ds).put o.dst undef) w'):WL r P ops Q (o :: rest) (Fr n s ds) w:=by
 refine⟨?_⟩
 unfold wpListIn
 rw[nW,hg,if_pos rfl]
 refine⟨fun _ _=>trivial,?_⟩
 rw[semAt_eq (uc hd),qn, h]
 exact K.out
theorem Ic{o:Oper}{f:FuncId}{args:Array Value}(hg:gy ops n s o.guard=true)(hd:nr o.op=true)(h:(execOp (ev n s) o).run P w = .ok (.enter f args) w')
 (K:Calls P f args w' fun
  | .returned v,w'' => WL r P ops Q rest ((Fr n s ds).put o.dst v) w''
  | .panicked chain,w'' => Q (.panic chain) (Fr n s ds) w''
  | .outgrown,_=>LetsOut Q):WL r P ops Q (o :: rest) (Fr n s ds) w:=by
 refine⟨?_⟩
 unfold wpListIn
 rw[nW,hg,if_pos rfl]
 refine⟨fun _ _=>trivial,?_⟩
 rw[semAt_eq (uc hd),qn, h]
 exact⟨fun h=>by simp[FW]at h,rV.2 (Calls.mono K fun e w' he=>by cases e<;>first|exact he.out|exact he)⟩
theorem sk{d:Nat}{op:Op}{ty:TypeId}{pos:String}{af:Array Edge}{g:Nat×Bool}(hg:gy ops n s (some g)=false)
 (K:WL r P ops Q rest (Fr n ((d,undef) :: s) ds) w):WL r P ops Q (⟨some d,op,ty,pos,af,some g⟩ :: rest) (Fr n s ds) w:=by
 refine⟨?_⟩
 unfold wpListIn
 rw[nW]
 simp only[hg]
 refine⟨fun _ _=>trivial,?_⟩
 rw[Em]
 exact K.out
theorem gD{k:IntKind}{a b:Int}(h:a=b):Value.int k a=Value.int k b:=by rw[h]
theorem kA{a b:Bool}(h:a=b):Value.bool a=Value.bool b:=by rw[h]
end ops
end Go.Sx
namespace Go.Sx
open Go
section
variable {r:Option Nat} {P:Program} {ops:Array Oper} {Q:Exit->Act->World->Prop} {rest:List Oper} {n:Nat} {s:List (Nat×Value)} {ds:List Deferred} {w w' : World}
variable {d:Nat} {ty:TypeId} {pos:String} {af:Array Edge} {g:Option (Nat×Bool)}
theorem pv{op:Op}{v:Value}(hg:gy ops n s g=true)(hd:nr op=true)(h:(execOp (ev n s) ⟨some d,op,ty,pos,af,g⟩).run P w = .ok (.value v) w')
 (K:WL r P ops Q rest (Fr n ((d,v) :: s) ds) w'):WL r P ops Q (⟨some d,op,ty,pos,af,g⟩ :: rest) (Fr n s ds) w :=
 I9 hg hd h (by rw[Em];exact K)
theorem iy{x:Operand}{v:Value}(hx:ev n s x=v){dd:Option Nat} :
 (execOp (ev n s) ⟨dd,.move x,ty,pos,af,g⟩).run P w = .ok (.value v) w:=by simp[execOp,hx]
theorem mv{x:Operand}{v:Value}(hg:gy ops n s g=true)(hx:ev n s x=v)(K:WL r P ops Q rest (Fr n ((d,v) :: s) ds) w) :
 WL r P ops Q (⟨some d,.move x,ty,pos,af,g⟩ :: rest) (Fr n s ds) w:=pv hg rfl (iy hx) K
theorem pV{x:Operand}{v:Value}(hx:ev n s x=v){dd:Option Nat} :
 (execOp (ev n s) ⟨dd,.assign x,ty,pos,af,g⟩).run P w = .ok (.value v) w:=by simp[execOp,hx]
theorem u6{x:Operand}{v:Value}(hg:gy ops n s g=true)(hx:ev n s x=v)(K:WL r P ops Q rest (Fr n ((d,v) :: s) ds) w) :
 WL r P ops Q (⟨some d,.assign x,ty,pos,af,g⟩ :: rest) (Fr n s ds) w:=pv hg rfl (pV hx) K
theorem JL{c x y:Operand}{v:Value}(hc:ev n s c = .bool true)(hx:ev n s x=v){dd:Option Nat} :
 (execOp (ev n s) ⟨dd,.pick c x y,ty,pos,af,g⟩).run P w = .ok (.value v) w:=by simp[execOp,hx,hc,asBool]
theorem JG{c x y:Operand}{v:Value}(hc:ev n s c = .bool false)(hy:ev n s y=v){dd:Option Nat} :
 (execOp (ev n s) ⟨dd,.pick c x y,ty,pos,af,g⟩).run P w = .ok (.value v) w:=by simp[execOp,hy,hc,asBool]
def j9:BinOp->Int->Int->Option Bool
 | .eql,a,b=>some (a==b)
 | .neq,a,b=>some (a != b)
 | .lss,a,b=>some (decide (a<b))
 | .leq,a,b=>some (decide (a<=b))
 | .gtr,a,b=>some (decide (b<a))
 | .geq,a,b=>some (decide (b<=a))
 | _,_,_=>none
theorem wW(op:BinOp)(t:TypeId)(x y:Operand)(k k' : IntKind)(a b:Int):(eqGuard op t x y (.int k a) (.int k' b)).run P w = .ok () w:=by
 unfold eqGuard
 cases op<;>simp
theorem W5{op:BinOp}{t:TypeId}{k:IntKind}{a b:Int}{c:Bool}(h:j9 op a b=some c):(binOp op t (.int k a) (.int k b)).run P w = .ok (.bool c) w:=by
 cases op<;>simp[j9]at h<;>subst h<;>simp[binOp,Op.intCmp]
theorem rA{op:BinOp}{x y:Operand}{t t' : TypeId}{k:IntKind}{a b:Int}{c:Bool}(hx:ev n s x = .int k a)(hy:ev n s y = .int k b)
 (hc:j9 op a b=some c) {dd:Option Nat} :
 (execOp (ev n s) ⟨dd,.binOp op t x y t', ty,pos,af,g⟩).run P w = .ok (.value (.bool c)) w:=by simp[execOp,hx,hy,wW,W5 hc]
theorem cmp{op:BinOp}{x y:Operand}{t t' : TypeId}{k:IntKind}{a b:Int}{c:Bool}(hg:gy ops n s g=true)(hx:ev n s x = .int k a)(hy:ev n s y = .int k b)
 (hc:j9 op a b=some c) (K:WL r P ops Q rest (Fr n ((d,.bool c) :: s) ds) w) :
 WL r P ops Q (⟨some d,.binOp op t x y t', ty,pos,af,g⟩ :: rest) (Fr n s ds) w:=pv hg rfl (rA hx hy hc) K
theorem p5{a b:Int}(h:a<b):j9 .lss a b=some true:=by simp[j9,h]
theorem mL{a b:Int}(h:¬ a<b):j9 .lss a b=some false:=by simp[j9,h]
theorem Cn{a b:Int}(h:a<=b):j9 .leq a b=some true:=by simp[j9,h]
theorem Jq{a b:Int}(h:¬ a<=b):j9 .leq a b=some false:=by simp[j9,h]
theorem uA{a b:Int}(h:¬ a>b):j9 .gtr a b=some false:=by simp[j9];omega
theorem qF{a b:Int}(h:a≥b):j9 .geq a b=some true:=by simp[j9];omega
theorem xK{a b:Int}(h:¬ a≥b):j9 .geq a b=some false:=by simp[j9];omega
theorem tD{a b:Int}(h:a=b):j9 .eql a b=some true:=by simp[j9,h]
theorem Ca{a b:Int}(h:¬ a=b):j9 .eql a b=some false:=by simp[j9,h]
theorem Fk{a b:Int}(h:¬ a=b):j9 .neq a b=some true:=by simp[j9,h]
theorem vT{a b:Int}(h:a=b):j9 .neq a b=some false:=by simp[j9,h]
def AU:BinOp->Int->Int->Option Int
 | .add,a,b=>some (a+b)
 | .sub,a,b=>some (a-b)
 | .mul,a,b=>some (a*b)
 | _,_,_=>none
theorem Xj{op:BinOp}{t:TypeId}{k:IntKind}{a b c:Int}(h:AU op a b=some c):(binOp op t (.int k a) (.int k b)).run P w = .ok (.int k (k.wrap c)) w:=by
 cases op<;>simp[AU]at h<;>subst h<;>simp[binOp,Op.intArith]
theorem kV{op:BinOp}{x y:Operand}{t t' : TypeId}{k:IntKind}{a b c e:Int}(hx:ev n s x = .int k a)(hy:ev n s y = .int k b)
 (hc:AU op a b=some c) (hw:k.wrap c=e) {dd:Option Nat} :
 (execOp (ev n s) ⟨dd,.binOp op t x y t', ty,pos,af,g⟩).run P w = .ok (.value (.int k e)) w:=by simp[execOp,hx,hy,wW,Xj hc,hw]
theorem ar{op:BinOp}{x y:Operand}{t t' : TypeId}{k:IntKind}{a b c e:Int}(hg:gy ops n s g=true)(hx:ev n s x = .int k a)(hy:ev n s y = .int k b)
 (hc:AU op a b=some c) (hw:k.wrap c=e) (K:WL r P ops Q rest (Fr n ((d,.int k e) :: s) ds) w) :
 WL r P ops Q (⟨some d,.binOp op t x y t', ty,pos,af,g⟩ :: rest) (Fr n s ds) w:=pv hg rfl (kV hx hy hc hw) K
theorem iZ{a:Int}(h : -9223372036854775808<=a/\a<=9223372036854775807):IntKind.i64.wrap a=a:=IntWalk.i64_in a h
theorem Ax{a:Int}(h:0<=a/\a<=18446744073709551615):IntKind.u64.wrap a=a:=IntWalk.u64_in a h
theorem PF{x y:Operand}{t t' : TypeId}{k:IntKind}{a b e:Int}(hx:ev n s x = .int k a)(hy:ev n s y = .int k b)
 (hb:b≠0) (hw:k.wrap (a.tdiv b)=e) {dd:Option Nat} :
 (execOp (ev n s) ⟨dd,.binOp .quo t x y t', ty,pos,af,g⟩).run P w = .ok (.value (.int k e)) w:=by simp[execOp,hx,hy,wW,binOp,Op.intDiv,hb,hw]
theorem quo{x y:Operand}{t t' : TypeId}{k:IntKind}{a b e:Int}(hg:gy ops n s g=true)(hx:ev n s x = .int k a)(hy:ev n s y = .int k b)
 (hb:b≠0) (hw:k.wrap (a.tdiv b)=e) (K:WL r P ops Q rest (Fr n ((d,.int k e) :: s) ds) w) :
 WL r P ops Q (⟨some d,.binOp .quo t x y t', ty,pos,af,g⟩ :: rest) (Fr n s ds) w:=pv hg rfl (PF hx hy hb hw) K
theorem Ch{x y:Operand}{t t' : TypeId}{k:IntKind}{a b e:Int}(hx:ev n s x = .int k a)(hy:ev n s y = .int k b)
 (hb:b≠0) (hw:a.tmod b=e) {dd:Option Nat} :
 (execOp (ev n s) ⟨dd,.binOp .rem t x y t', ty,pos,af,g⟩).run P w = .ok (.value (.int k e)) w:=by simp[execOp,hx,hy,wW,binOp,Op.intDiv,hb,hw]
theorem rem{x y:Operand}{t t' : TypeId}{k:IntKind}{a b e:Int}(hg:gy ops n s g=true)(hx:ev n s x = .int k a)(hy:ev n s y = .int k b)
 (hb:b≠0) (hw:a.tmod b=e) (K:WL r P ops Q rest (Fr n ((d,.int k e) :: s) ds) w) :
 WL r P ops Q (⟨some d,.binOp .rem t x y t', ty,pos,af,g⟩ :: rest) (Fr n s ds) w:=pv hg rfl (Ch hx hy hb hw) K
def nS(op:BinOp)(k:IntKind)(x y:Int):Option Int :=
 let a:=BitVec.ofInt k.bits x
 let b:=BitVec.ofInt k.bits y
 match op with
 | .and=>some (k.wrap (a &&& b).toNat)
 | .or=>some (k.wrap (a ||| b).toNat)
 | .xor=>some (k.wrap (a ^^^ b).toNat)
 | .andNot=>some (k.wrap (a &&& ~~~b).toNat)
 | _=>none
theorem Cr{op:BinOp}{x y:Operand}{t t' : TypeId}{k:IntKind}{a b e:Int}(hx:ev n s x = .int k a)(hy:ev n s y = .int k b)
 (hw:nS op k a b=some e) {dd:Option Nat} :
 (execOp (ev n s) ⟨dd,.binOp op t x y t', ty,pos,af,g⟩).run P w = .ok (.value (.int k e)) w:=by
 simp only[nS]at hw
 cases op<;>simp at hw<;>simp[execOp,hx,hy,wW,binOp,Op.intBits,hw]
theorem bi{op:BinOp}{x y:Operand}{t t' : TypeId}{k:IntKind}{a b e:Int}(hg:gy ops n s g=true)(hx:ev n s x = .int k a)(hy:ev n s y = .int k b)
 (hw:nS op k a b=some e) (K:WL r P ops Q rest (Fr n ((d,.int k e) :: s) ds) w) :
 WL r P ops Q (⟨some d,.binOp op t x y t', ty,pos,af,g⟩ :: rest) (Fr n s ds) w:=pv hg rfl (Cr hx hy hw) K
theorem ZI{x y:Operand}{t t' : TypeId}{k ky:IntKind}{a b e:Int}(hx:ev n s x = .int k a)(hy:ev n s y = .int ky b)
 (hb:0<=b) (hw:k.wrap (a*2 ^ (min b.toNat k.bits))=e) {dd:Option Nat} :
 (execOp (ev n s) ⟨dd,.binOp .shl t x y t', ty,pos,af,g⟩).run P w = .ok (.value (.int k e)) w:=by
 have h' : ¬ b<0:=by omega
 simp[execOp,hx,hy,wW,binOp,Op.shift,h', hw]
theorem Pg{x y:Operand}{t t' : TypeId}{k ky:IntKind}{a b e:Int}(hx:ev n s x = .int k a)(hy:ev n s y = .int ky b)
 (hb:0<=b) (hw:a.fdiv (2 ^ (min b.toNat k.bits))=e) {dd:Option Nat} :
 (execOp (ev n s) ⟨dd,.binOp .shr t x y t', ty,pos,af,g⟩).run P w = .ok (.value (.int k e)) w:=by
 have h' : ¬ b<0:=by omega
 simp[execOp,hx,hy,wW,binOp,Op.shift,h', hw]
theorem shr{x y:Operand}{t t' : TypeId}{k ky:IntKind}{a b e:Int}(hg:gy ops n s g=true)(hx:ev n s x = .int k a)(hy:ev n s y = .int ky b)
 (hb:0<=b) (hw:a.fdiv (2 ^ (min b.toNat k.bits))=e) (K:WL r P ops Q rest (Fr n ((d,.int k e) :: s) ds) w) :
 WL r P ops Q (⟨some d,.binOp .shr t x y t', ty,pos,af,g⟩ :: rest) (Fr n s ds) w:=pv hg rfl (Pg hx hy hb hw) K
theorem ZA{x:Operand}{t:TypeId}{k:IntKind}{a e:Int}(hx:ev n s x = .int k a)(hw:k.wrap (0-a)=e){dd:Option Nat} :
 (execOp (ev n s) ⟨dd,.unOp .neg t x,ty,pos,af,g⟩).run P w = .ok (.value (.int k e)) w:=by rw[Int.zero_sub]at hw;simp[execOp,hx,Op.unary,Op.intArith,hw]
theorem ZW{x:Operand}{t:TypeId}{k:IntKind}{a e:Int}(hx:ev n s x = .int k a)(hw:nS .xor k (if k.signed then -1 else k.max) a=some e){dd:Option Nat} :
 (execOp (ev n s) ⟨dd,.unOp .xor t x,ty,pos,af,g⟩).run P w = .ok (.value (.int k e)) w:=by simp only[nS,Option.some.injEq]at hw;subst hw;simp only[execOp,hx];rfl
theorem JJ{x:Operand}{t:TypeId}{b c:Bool}(hx:ev n s x = .bool b)(hc:(!b)=c){dd:Option Nat} :
 (execOp (ev n s) ⟨dd,.unOp .not t x,ty,pos,af,g⟩).run P w = .ok (.value (.bool c)) w:=by simp[execOp,hx,Op.unary,hc]
theorem AG{x:Operand}{t t' : TypeId}{k k' : IntKind}{u:TypeDesc}{a e:Int}(hx:ev n s x = .int k a)
 (hs:P.underlying t=some u) (ht:P.underlying t' = some (.int k')) (hw:k'.wrap a=e) {dd:Option Nat} :
 (execOp (ev n s) ⟨dd,.convert t t' x,ty,pos,af,g⟩).run P w = .ok (.value (.int k' e)) w:=by simp[execOp,hx,convert,run_underlying hs,run_underlying ht,Conv.intToInt,hw]
theorem cv{x:Operand}{t t' : TypeId}{k k' : IntKind}{u:TypeDesc}{a e:Int}(hg:gy ops n s g=true)(hx:ev n s x = .int k a)
 (hs:P.underlying t=some u) (ht:P.underlying t' = some (.int k')) (hw:k'.wrap a=e) (K:WL r P ops Q rest (Fr n ((d,.int k' e) :: s) ds) w) :
 WL r P ops Q (⟨some d,.convert t t' x,ty,pos,af,g⟩ :: rest) (Fr n s ds) w:=pv hg rfl (AG hx hs ht hw) K
theorem xS{x:Operand}{i:Nat}{vs:Array Value}{v:Value}(hx:ev n s x = .tuple vs)(hv:vs[i]? = some v){dd:Option Nat} :
 (execOp (ev n s) ⟨dd,.extract x i,ty,pos,af,g⟩).run P w = .ok (.value v) w:=by simp[execOp,hx,Instr.extract,hv]
theorem Et{x:Operand}{t e:TypeId}{a:Option Addr}{m c:Nat}(hx:ev n s x = .slice a m c)(ht:P.underlying t=some (.slice e)){dd:Option Nat} :
 (execOp (ev n s) ⟨dd,.call ⟨.builtin .len,#[x],#[t]⟩,ty,pos,af,g⟩).run P w = .ok (.value (.int .i64 m)) w:=by simp[execOp,resolve,invoke,builtin,hx,Builtin.len_,run_underlying ht];rfl
theorem E7{x:Operand}{t e:TypeId}{a:Option Addr}{m c:Nat}(hg:gy ops n s g=true)(hx:ev n s x = .slice a m c)(ht:P.underlying t=some (.slice e))
 (K:WL r P ops Q rest (Fr n ((d,.int .i64 m) :: s) ds) w) :
 WL r P ops Q (⟨some d,.call ⟨.builtin .len,#[x],#[t]⟩,ty,pos,af,g⟩ :: rest) (Fr n s ds) w:=pv hg rfl (Et hx ht) K
theorem j6{x:Operand}{a:Addr}(hx:ev n s x = .pointer (some a)){dd:Option Nat} :
 (execOp (ev n s) ⟨dd,.nilCheck x,ty,pos,af,g⟩).run P w = .ok (.value (.pointer (some a))) w:=by simp[execOp,hx]
theorem si{x:Operand}{a:Addr}(hg:gy ops n s g=true)(hx:ev n s x = .pointer (some a))
 (K:WL r P ops Q rest (Fr n ((d,.pointer (some a)) :: s) ds) w) :
 WL r P ops Q (⟨some d,.nilCheck x,ty,pos,af,g⟩ :: rest) (Fr n s ds) w:=pv hg rfl (j6 hx) K
theorem ZM{fn:Fn}{fi ca:List Operand}{vf vc:List Value}(hf:fi.map (ev n s)=vf)(hc:ca.map (ev n s)=vc){dd:Option Nat} :
 (execOp (ev n s) ⟨dd,.makeFunc fn fi.toArray ca.toArray,ty,pos,af,g⟩).run P w = .ok (.value (.func fn vf.toArray vc.toArray)) w:=by subst hf hc;simp[execOp,Instr.makeFunc]
theorem yY{fn:Fn}{fi ca:List Operand}{vf vc:List Value}(hg:gy ops n s g=true)(hf:fi.map (ev n s)=vf)(hc:ca.map (ev n s)=vc)
 (K:WL r P ops Q rest (Fr n ((d,.func fn vf.toArray vc.toArray) :: s) ds) w) :
 WL r P ops Q (⟨some d,.makeFunc fn fi.toArray ca.toArray,ty,pos,af,g⟩ :: rest) (Fr n s ds) w:=pv hg rfl (ZM hf hc) K
theorem aac{x:Operand}{t:TypeId}{u:TypeDesc}{v:Value}(hx:ev n s x=v)(ht:P.underlying t=some u)(hu:(match u with | .interface _=>false|_=>true)=true){dd:Option Nat} :
 (execOp (ev n s) ⟨dd,.makeInterface t x,ty,pos,af,g⟩).run P w = .ok (.value (.iface t v)) w:=by cases u<;>simp at hu<;>simp[execOp,hx,Instr.makeInterface,run_underlying ht]
theorem UT{x y:Operand}{t:TypeId}{k:IntKind}{b:ByteArray}{i:Int}{c:UInt8}(hx:ev n s x = .string b)(hy:ev n s y = .int k i)
 (ht:P.underlying t=some .string) (h0:0<=i) (hc:b[i.toNat]? = some c) {dd:Option Nat} :
 (execOp (ev n s) ⟨dd,.index t x y,ty,pos,af,g⟩).run P w = .ok (.value (.int .u8 c.toNat)) w:=by simp[execOp,hx,hy,Instr.index,asIntOf,run_underlying ht,h0,hc]
end
end Go.Sx
namespace Go.Sx
open Go
section
variable {r:Option Nat} {P:Program} {Q:Exit->Act->World->Prop} {n:Nat} {s:List (Nat×Value)} {ds:List Deferred} {w w' : World}
theorem rg{id:Nat}{l:List Oper}(h:WL r P l.toArray Q l (Fr n s ds) w):WP r P (.region id l.toArray false) Q (Fr n s ds) w:=wpIn_region_lit h.out
theorem sp(h:Q .normal (Fr n s ds) w):WP r P .skip Q (Fr n s ds) w:=wpIn_skip h
theorem bk{id:Nat}{c:Code}(h:WP r P c (Exit.inBlock id Q) (Fr n s ds) w):WP r P (.block id c) Q (Fr n s ds) w:=wpIn_block h
theorem xt{id:Nat}(h:Q (.exit id) (Fr n s ds) w):WP r P (.exit id) Q (Fr n s ds) w:=wpIn_exit h
theorem rt(h:Q .ret (Fr n s ds) w):WP r P .ret Q (Fr n s ds) w:=wpIn_ret h
theorem QO{c:Operand}{x y:Code}(hc:ev n s c = .bool true)(h:WP r P x Q (Fr n s ds) w):WP r P (.cond c x y) Q (Fr n s ds) w :=
 wpIn_cond_true (by rw[D5];exact hc) h
theorem QW{c:Operand}{x y:Code}(hc:ev n s c = .bool false)(h:WP r P y Q (Fr n s ds) w):WP r P (.cond c x y) Q (Fr n s ds) w :=
 wpIn_cond_false (by rw[D5];exact hc) h
section
variable {K:Act->World->Prop} {a:Act} {i j:Nat} {ch:List PanicEntry}
theorem tN(h:K a w):Exit.then K Q .normal a w:=h
theorem bX(h:Q .normal a w):Exit.inBlock i Q (.exit i) a w:=by simp only[Exit.inBlock,if_true];exact h
theorem FL(hne:Nat.beq j i=false)(h:Q (.exit j) a w):Exit.inBlock i Q (.exit j) a w:=by
 have:¬ j=i:=fun e=>by subst e;simp at hne
 simp only[Exit.inBlock,this,if_false];exact h
end
def Pu{α:Type}(n:Nat)(ds:List Deferred)(pre:α->List (Nat×Value))(C:α->World->Prop)(μ:α->Nat)(m:Nat)(a:Act)(w:World):Prop :=
 ∃ x s,a=Fr n s ds/\Holds s (pre x)/\C x w/\μ x<m
theorem again{α:Type}{pre:α->List (Nat×Value)}{C:α->World->Prop}{μ:α->Nat}{m:Nat}(x:α)(h:Holds s (pre x))(hC:C x w)(hm:μ x<m):Pu n ds pre C μ m (Fr n s ds) w :=
 ⟨x,s,rfl,h,hC,hm⟩
theorem lp{α:Type}{c:Code}(pre:α->List (Nat×Value))(C:α->World->Prop)(μ:α->Nat)(x0:α)(h0:Holds s (pre x0))(hC:C x0 w)
 (round:∀ x s' w', C x w' -> WP r P c (Exit.then (Pu n ds pre C μ (μ x)) Q) (Fr n (pre x++s') ds) w'):WP r P (.loop c) Q (Fr n s ds) w:=by
 intro b k cs hro hb hr
 have key:∀ j x s w,μ x=j->Holds s (pre x)->C x w ->
  ∃ e a' w', Q e a' w' /\ ArrivesIn (Machine.fenced P (FW r)) P (lone (b.atR (Fr n s ds) (.code c :: .inLoop c :: k)) cs w) b k cs e a' w' := by
  intro j
  induction j using Nat.strongRecOn with
  | _ j ih =>
   intro x s w hn hs hI
   obtain⟨e,a₁,w₁,hq,harr⟩:=round x s w hI b (.inLoop c :: k) cs hro hb hr
   rw[<-Wy (pre x) hs]at harr
   cases e with
   | normal =>
    obtain⟨x₁,s₁,rfl,hs₁,hC₁,hlt⟩:=hq
    obtain⟨e₂,a₂,w₂,hq₂,harr₂⟩:=ih (μ x₁) (hn▸hlt) x₁ s₁ w₁ rfl hs₁ hC₁
    exact⟨e₂,a₂,w₂,hq₂,.of_steps (StepsIn.trans harr (.one (fenced_calm hb hr rfl) stepR_inLoop)) harr₂⟩
   | exit id=>exact⟨_,a₁,w₁,hq,.pass (x:=.inLoop c) rfl (fun _ _=>.inl s_) harr⟩
   | goto l=>exact⟨_,a₁,w₁,hq,.pass (x:=.inLoop c) rfl (fun _ _=>.inl s_) harr⟩
   | ret=>exact⟨_,a₁,w₁,hq,.pass (x:=.inLoop c) rfl (fun _ _=>.inl s_) harr⟩
   | panic ch=>exact⟨_,a₁,w₁,hq,.pass (x:=.inLoop c) rfl (fun _ _=>.inl s_) harr⟩
   | outgrown=>exact⟨_,a₁,w₁,hq,.pass (x:=.inLoop c) rfl (fun _ _=>.inl s_) harr⟩
 obtain⟨e,a', w', hq,harr⟩:=key _ x0 s w rfl h0 hC
 exact⟨e,a', w', hq,.of_steps (.one (fenced_calm hb hr rfl) stepR_loop) harr⟩
def AV(r:Option Nat)(P:Program)(c:Code)(Q:Exit->Act->World->Prop):Nat->Act->World->Prop
 | 0,_,_=>False
 | k+1,a,w=>WP r P c (Exit.then (AV r P c Q k) Q) a w
theorem sy{c:Code}(k:Nat)(h:AV r P c Q k (Fr n s ds) w):WP r P (.loop c) Q (Fr n s ds) w:=by
 intro b kk cs hro hb hr
 have key:∀ k a w,AV r P c Q k a w ->
  ∃ e a' w', Q e a' w' /\ ArrivesIn (Machine.fenced P (FW r)) P (lone (b.atR a (.code c :: .inLoop c :: kk)) cs w) b kk cs e a' w' := by
  intro k
  induction k with
  | zero=>intro a w h;exact h.elim
  | succ k ih =>
   intro a w h
   obtain⟨e,a₁,w₁,hq,harr⟩:=h b (.inLoop c :: kk) cs hro hb hr
   cases e with
   | normal =>
    obtain⟨e₂,a₂,w₂,hq₂,harr₂⟩:=ih a₁ w₁ hq
    exact⟨e₂,a₂,w₂,hq₂,.of_steps (StepsIn.trans harr (.one (fenced_calm hb hr rfl) stepR_inLoop)) harr₂⟩
   | exit id=>exact⟨_,a₁,w₁,hq,.pass (x:=.inLoop c) rfl (fun _ _=>.inl s_) harr⟩
   | goto l=>exact⟨_,a₁,w₁,hq,.pass (x:=.inLoop c) rfl (fun _ _=>.inl s_) harr⟩
   | ret=>exact⟨_,a₁,w₁,hq,.pass (x:=.inLoop c) rfl (fun _ _=>.inl s_) harr⟩
   | panic ch=>exact⟨_,a₁,w₁,hq,.pass (x:=.inLoop c) rfl (fun _ _=>.inl s_) harr⟩
   | outgrown=>exact⟨_,a₁,w₁,hq,.pass (x:=.inLoop c) rfl (fun _ _=>.inl s_) harr⟩
 obtain⟨e,a', w', hq,harr⟩:=key k _ w h
 exact⟨e,a', w', hq,.of_steps (.one (fenced_calm hb hr rfl) stepR_loop) harr⟩
theorem ir{c:Code}{k:Nat}{a:Act}(h:WP r P c (Exit.then (AV r P c Q k) Q) a w):AV r P c Q (k+1) a w:=h
def uM:List Value->Nat->List (Nat×Value)
 | [],_=>[]
 | v :: vs,i=>(i,v) :: uM vs (i+1)
theorem Mz(vs:List Value):∀ i t,i<=t->look (uM vs i) t=(vs[t-i]?).getD undef:=by
 induction vs with
 | nil=>intro i t _;simp[uM,look]
 | cons v vs ih =>
  intro i t h
  rw[uM,w5]
  split
  . rename_i e;subst e;simp
  . rename_i e
    rw[ih (i+1) t o_]
    rw[show t-i=(t-(i+1))+1 by omega]
    simp
theorem NH(vs:List Value)(n:Nat)(h:vs.length<=n):({ tmps:=vs.toArray++Array.replicate (n-vs.toArray.size) undef,defers:=[] }:Act)=Fr n (uM vs 0) []:=by
 unfold Fr
 simp only[Act.mk.injEq,and_true]
 apply Array.ext
 . simp;omega
 . intro i h1 h2
   simp only[Array.getElem_ofFn]
   rw[Mz vs 0 i o_]
   by_cases hi:i<vs.length
   . rw[Array.getElem_append_left (by simpa using hi)]
     simp[hi]
   . rw[Array.getElem_append_right (by simpa using hi)]
     simp[hi]
def CR(P:Program)(f:FuncId)(vs:Array Value)(w:World)(R:Value->World->Prop):Prop :=
 Calls P f vs w fun e w' => ∃ v,e = .returned v/\R v w'
theorem CR.mono{f:FuncId}{vs:Array Value}{R R' : Value->World->Prop}(h:CR P f vs w R)(hr:∀ v w', R v w' -> R' v w'):CR P f vs w R' :=
 Calls.mono h fun e w' ⟨v,he,hR⟩=>⟨v,he,hr v w' hR⟩
theorem enter{f:FuncId}{fn:Func}{c:Code}{vs:List Value}{R:Ending->World->Prop}(hf:P.funcs[f]? = some fn)(hb:fn.body=some c)(hn:fn.ntmps=n)(hs:Nat.ble vs.length n=true)
 (h:WP none P c (bodyPost P fn R) (Fr n (uM vs 0) []) w):Calls P f vs.toArray w R:=by
 refine rV.1 (callsIn_of_wp (F:=FW none) (n:=0) hf hb trivial ?_)
 rw[hn,NH vs n (za hs)]
 exact h
theorem uu(t:Nat):(Fr n s ds).tmps.getD t undef=ev n s (.tmp t):=D5 n s ds (.tmp t)
theorem gw{fn:Func}{t:Nat}{v:Value}{R:Value->World->Prop}(hr:fn.results = #[.tmp t])(hv:ev n s (.tmp t)=v)(h:R v w) :
 bodyPost P fn (fun e w' => ∃ v,e = .returned v/\R v w') .ret (Fr n s []) w :=
 ⟨rfl,_,results_tmp hr _ _ _,_,rfl,by rw[uu,hv];exact h⟩
theorem Fh{fn:Func}{R:Value->World->Prop}(hr:fn.results = #[])(h:R (.tuple #[]) w) :
 bodyPost P fn (fun e w' => ∃ v,e = .returned v/\R v w') .ret (Fr n s []) w :=
 ⟨rfl,_,results_none hr _ _ _,_,rfl,h⟩
theorem jA{fn:Func}{R:Value->World->Prop}(hr:fn.results = #[])(h:R (.tuple #[]) w) :
 bodyPost P fn (fun e w' => ∃ v,e = .returned v/\R v w') .normal (Fr n s []) w :=
 ⟨rfl,_,results_none hr _ _ _,_,rfl,h⟩
theorem jU{fn:Func}{t u:Nat}{v v' : Value}{R:Value->World->Prop}(hr:fn.results = #[.tmp t,.tmp u])(hv:ev n s (.tmp t)=v)(hv' : ev n s (.tmp u)=v')(h:R (.tuple #[v,v']) w) :
 bodyPost P fn (fun e w' => ∃ v,e = .returned v/\R v w') .ret (Fr n s []) w :=
 ⟨rfl,_,results_tmp2 hr _ _ _,_,rfl,by rw[uu,uu,hv,hv'];exact h⟩
theorem RL {fn:Func}{t u x:Tmp}(h:fn.results = #[.tmp t,.tmp u,.tmp x])(tmps:Array Value)(P:Program)(w:World) :
 (results fn tmps).run P w = .ok (.tuple #[tmps.getD t undef,tmps.getD u undef,tmps.getD x undef]) w:=by
 simp[results,h]
theorem J3{fn:Func}{t u x:Nat}{v v' v'' : Value}{R:Value->World->Prop}(hr:fn.results = #[.tmp t,.tmp u,.tmp x])(hv:ev n s (.tmp t)=v)(hv' : ev n s (.tmp u)=v')(hv'' : ev n s (.tmp x)=v'')(h:R (.tuple #[v,v', v'']) w) :
 bodyPost P fn (fun e w' => ∃ v,e = .returned v/\R v w') .ret (Fr n s []) w :=
 ⟨rfl,_,RL hr _ _ _,_,rfl,by rw[uu,uu,uu,hv,hv', hv''];exact h⟩
variable {ops:Array Oper} {rest:List Oper} {d:Option Nat} {ty:TypeId} {pos:String} {af:Array Edge} {g:Option (Nat×Bool)}
def jJ(d:Option Nat)(v:Value)(s:List (Nat×Value)):List (Nat×Value):=match d with|some i=>(i,v) :: s|none=>s
theorem vK(d:Option Nat)(v:Value):(Fr n s ds).put d v=Fr n (jJ d v s) ds:=by
 cases d with
 | none=>rfl
 | some i=>exact Em n s ds i v
abbrev gC(P:Program)(f:FuncId):Prop:=∀ (args:Array Value) (w:World),(callFunc f args).run P w = .ok (.enter f args) w
theorem Bu (az:List Operand):az.toArray.map (ev n s)=(az.map (ev n s)).toArray:=by simp
theorem zA{f:FuncId}{az:List Operand}{T:Array TypeId}{vl:List Value}{R:Value->World->Prop}(hg:gy ops n s g=true)(hvs:az.map (ev n s)=vl)(he:gC P f)
 (hc:CR P f vl.toArray w R) (K:∀ v w', R v w' -> WL r P ops Q rest (Fr n (jJ d v s) ds) w') :
 WL r P ops Q (⟨d,.call ⟨.value (.func f),az.toArray,T⟩,ty,pos,af,g⟩ :: rest) (Fr n s ds) w:=by
 refine Ic (f:=f) (args:=vl.toArray) (w' := w) hg rfl ?_ (Calls.mono hc ?_)
 . simp only[execOp,resolve,invoke,Deferred.ofValue,Bu, hvs]
   simp[ev,he _ _]
 . rintro e w' ⟨v,rfl,hR⟩
   simp only[vK]
   exact K v w' hR
theorem p9{x:Operand}{f:FuncId}{fi ca:List Value}{az:List Operand}{T:Array TypeId}{vl:List Value}{R:Value->World->Prop}(hg:gy ops n s g=true)
 (hx:ev n s x = .func (.func f) fi.toArray ca.toArray) (hvs:fi++az.map (ev n s)++ca=vl) (he:gC P f)
 (hc:CR P f vl.toArray w R) (K:∀ v w', R v w' -> WL r P ops Q rest (Fr n (jJ d v s) ds) w') :
 WL r P ops Q (⟨d,.call ⟨.value x,az.toArray,T⟩,ty,pos,af,g⟩ :: rest) (Fr n s ds) w:=by
 refine Ic (f:=f) (args:=vl.toArray) (w' := w) hg rfl ?_ (Calls.mono hc ?_)
 . subst hvs
   simp only[execOp,resolve,invoke,Deferred.ofValue,Bu, hx]
   simp[he _ _]
 . rintro e w' ⟨v,rfl,hR⟩
   simp only[vK]
   exact K v w' hR
end
end Go.Sx
namespace Go.Sx
open Go
structure gB (S:List Nat) (w w' : World):Prop where
 os:w'.os=w.os
 tape:w'.tape=w.tape
 output:w'.output=w.output
 size:w.heap.size<=w'.heap.size
 block:∀ b,b<w.heap.size->b∉S->w'.heap[b]? = w.heap[b]?
theorem gB.refl(S:List Nat)(w:World):gB S w w:=⟨rfl,rfl,rfl,zp _,fun _ _ _=>rfl⟩
theorem gB.trans{S:List Nat}{a b c:World}(h:gB S a b)(k:gB S b c):gB S a c :=
 ⟨k.os.trans h.os,k.tape.trans h.tape,k.output.trans h.output,z1 h.size k.size,fun i hi hS=>(k.block i (z6 hi h.size) hS).trans (h.block i hi hS)⟩
theorem gB.mono{S S' : List Nat}{a b:World}(h:gB S a b)(hs:∀ x∈S,x∈S'):gB S' a b :=
 ⟨h.os,h.tape,h.output,h.size,fun i hi hS=>h.block i hi (fun hx=>hS (hs i hx))⟩
theorem gB.drew(S:List Nat)(w:World):gB S w w.drew:=⟨rfl,rfl,rfl,zp _,fun _ _ _=>rfl⟩
theorem gB.alloc(S:List Nat)(w:World)(o:Obj):gB S w (w.alloc o) :=
 ⟨rfl,rfl,rfl,s_,fun b hb _=>RowKit.Below.heap_alloc w o b hb⟩
theorem gB.setRow(w:World)(g:Nat)(cs:Array Value):gB [g] w (w.setRow g cs) :=
 ⟨rfl,rfl,rfl,s_,fun b _ hb=>setRow_other w g b cs (by simpa using hb)⟩
theorem gB.SV{w w' : World}{row:Option Nat}(h:w.grownBy w' row):gB row.toList w w' :=
 ⟨h.os,h.tape,h.output,h.size,fun b hb hn=>h.block b hb (fun e=>hn (by rw[<-e];simp))⟩
theorem gB.below{w w' : World}(h:gB [] w w'):RowKit.Below w.heap.size w w' :=
 ⟨h.os,h.tape,h.output,h.size,fun b hb=>h.block b hb s_⟩
structure gh where
 gT:List Nat
 holds:World->Prop
 loc:∀ w w', (∀ b∈gT,w'.heap[b]? = w.heap[b]?)->holds w->holds w'
def blk(b:Nat)(T:TypeId)(cs:List Value):gh where
 gT:=[b]
 holds w:=w.heap[b]? = some (.cells cs.toArray T (0,0))
 loc w w' h hh:=(h b s_).trans hh
def row(v:Value)(e:TypeId)(sz m:Nat)(xs:List Value):gh where
 gT:=v.ownBlock.toList
 holds w:=w.ownsRow 0 e sz v m xs
 loc w w' h hh:=by
  refine⟨hh.1,?_⟩
  rcases hh.2 with hn|⟨g,cap,cur,rfl,hb,hg,rest⟩
  . exact .inl hn
  . exact .inr ⟨g,cap,cur,rfl,hb,(h g (by simp[Value.ownBlock])).trans hg,rest⟩
def iT(L:List gh):List Nat:=L.flatMap (·.gT)
structure Bs (wb:World) (X:List Nat) (L:List gh) (w:World):Prop where
 gK:gB X wb w
 mine:∀ b∈iT L,b∈X\/wb.heap.size<=b
structure St (bs:List (World×List Nat)) (L:List gh) (w:World):Prop where
 base:∀ p∈bs,Bs p.1 p.2 L w
 own:∀ R∈L,R.holds w
 sep:(iT L).Nodup
 lt:∀ b∈iT L,b<w.heap.size
variable {bs:List (World×List Nat)} {L L' : List gh} {w w' w0:World}
theorem St.init(w:World):St [(w,[])] [] w :=
 ⟨fun p hp=>by simp only[mj]at hp;subst hp;exact⟨gB.refl _ _,by simp[iT]⟩,s_,by simp[iT],by simp[iT]⟩
theorem St.PB(w:World)(L:List gh)(ho:∀ R∈L,R.holds w)(hn:(iT L).Nodup)(hl:∀ b∈iT L,b<w.heap.size):St [(w,iT L)] L w :=
 ⟨fun p hp=>by simp only[mj]at hp;subst hp;exact⟨gB.refl _ _,fun b hb=>.inl hb⟩,ho,hn,hl⟩
theorem St.gK{X:List Nat}(h:St bs L w)(hb:(w0,X)∈bs):gB X w0 w:=(h.base _ hb).gK
theorem St.keep{X:List Nat}(h:St bs L w)(hb:(w0,X)∈bs){b:Nat}(hlt:b<w0.heap.size)(hX:b∉X):w.heap[b]? = w0.heap[b]? :=
 (h.base _ hb).gK.block b hlt hX
theorem St.Pf{X:List Nat}(h:St bs L w)(hb:(w0,X)∈bs){a:Addr}{v:Value}(hc:w0.cell? a=some v)(hX:a.block∉X):w.cell? a=some v :=
 (World.cell?_of_block (h.keep hb (World.block_lt_of_cell? w0 a hc) hX)).trans hc
theorem ou(R:gh)(L:List gh):iT (R :: L)=R.gT++iT L:=by simp[iT]
theorem qm{R:gh}{L:List gh}{i:Nat}(hi:L[i]? = some R){b:Nat}(hb:b∈R.gT):b∈iT L :=
 p7.2 ⟨R,ze hi,hb⟩
theorem St.iF{i:Nat}{R R' : gh}(h:St bs L w)(hi:L[i]? = some R)(hc:gB R.gT w w')(hf:∀ b∈R'.gT,b∈R.gT\/w.heap.size<=b)
 (hnd:R'.gT.Nodup) (hlt:∀ b∈R'.gT,b<w'.heap.size) (ho:R'.holds w'):St bs (L.set i R') w' := by
 obtain⟨l1,l2,rfl,hlen⟩:∃ l1 l2,L=l1++R :: l2/\l1.length=i:=by
  have hlt:=(zb.1 hi).1
  refine⟨L.take i,L.drop (i+1),?_,by simp;omega⟩
  have:=(zb.1 hi).2
  rw[<-this,<-x8 hlt,yV]
 have hset:(l1++R :: l2).set i R' = l1++R' :: l2:=by rw[<-hlen];simp
 have hfe:∀ R:gh,iT (l1++R :: l2)=iT l1++(R.gT++iT l2):=fun R=>by simp[iT]
 rw[hset]
 have hsep:=h.sep
 rw[hfe,zw]at hsep
 obtain⟨n1,n2,n3⟩:=hsep
 rw[zw]at n2
 obtain⟨n4,n5,n6⟩:=n2
 have hold:∀ b,b∈iT l1\/b∈iT l2->b<w.heap.size/\b∉R.gT:=by
  intro b hb
  refine⟨h.lt b (by rw[hfe];simp only[zr];rcases hb with hb|hb<;>simp[hb]),fun hr=>?_⟩
  rcases hb with hb|hb
  . exact n3 b hb b (by simp[hr]) rfl
  . exact n6 b hr b hb rfl
 have hkeep:∀ b,b∈iT l1\/b∈iT l2->w'.heap[b]? = w.heap[b]? := fun b hb=>hc.block b (hold b hb).1 (hold b hb).2
 refine⟨fun p hp=>?_,fun X hX=>?_,?_,?_⟩
 . have hb:=h.base p hp
   refine⟨⟨hc.os.trans hb.gK.os,hc.tape.trans hb.gK.tape,hc.output.trans hb.gK.output,z1 hb.gK.size hc.size,fun b hlt' hx=>?_⟩,fun b hb' => ?_⟩
   . refine(hc.block b (z6 hlt' hb.gK.size) (fun hr=>?_)).trans (hb.gK.block b hlt' hx)
     rcases hb.mine b (by rw[hfe];simp[hr])with h1|h1
     . exact hx h1
     . omega
   . rw[hfe]at hb'
     simp only[zr]at hb'
     rcases hb' with h1|h1|h1
     . exact hb.mine b (by rw[hfe];simp[h1])
     . rcases hf b h1 with h2|h2
       . exact hb.mine b (by rw[hfe];simp[h2])
       . exact .inr (z1 hb.gK.size h2)
     . exact hb.mine b (by rw[hfe];simp[h1])
 . simp only[zr,zg]at hX
   rcases hX with h1|rfl|h1
   . exact X.loc w w' (fun b hb=>hkeep b (.inl (p7.2 ⟨X,h1,hb⟩))) (h.own X (by simp[h1]))
   . exact ho
   . exact X.loc w w' (fun b hb=>hkeep b (.inr (p7.2 ⟨X,h1,hb⟩))) (h.own X (by simp[h1]))
 . rw[hfe,zw]
   have hne:∀ b,(b∈iT l1\/b∈iT l2)->∀ c∈R'.gT,b≠c:=by
    rintro b hb c hc' rfl
    rcases hf b hc' with h2|h2
    . exact(hold b hb).2 h2
    . have:=(hold b hb).1;omega
   refine⟨n1,zw.2 ⟨hnd,n5,fun a ha b hb e=>hne b (.inr hb) a ha e.symm⟩,fun a ha b hb=>?_⟩
   simp only[zr]at hb
   rcases hb with hb|hb
   . exact hne a (.inl ha) b hb
   . exact n3 a ha b (by simp[hb])
 . intro b hb
   rw[hfe]at hb
   simp only[zr]at hb
   rcases hb with h1|h1|h1
   . exact z6 (hold b (.inl h1)).1 hc.size
   . exact hlt b h1
   . exact z6 (hold b (.inr h1)).1 hc.size
theorem St.grow(h:St bs L w)(hc:gB [] w w'):St bs L w' :=
 ⟨fun p hp=>by
  have hb:=h.base p hp
  exact⟨⟨hc.os.trans hb.gK.os,hc.tape.trans hb.gK.tape,hc.output.trans hb.gK.output,z1 hb.gK.size hc.size,
   fun b hlt' hx=>(hc.block b (z6 hlt' hb.gK.size) s_).trans (hb.gK.block b hlt' hx)⟩,hb.mine⟩,
  fun X hX=>X.loc w w' (fun b hb=>hc.block b (h.lt b (p7.2 ⟨X,hX,hb⟩)) s_) (h.own X hX),
  h.sep,fun b hb=>z6 (h.lt b hb) hc.size⟩
theorem St.add{R:gh}{lo:Nat}(h:St bs L w)(hlo:∀ p∈bs,p.1.heap.size<=lo)(hlo' : ∀ b∈iT L,b<lo)(hf:∀ b∈R.gT,lo<=b)(hnd:R.gT.Nodup)(hlt:∀ b∈R.gT,b<w.heap.size)(ho:R.holds w):St bs (R :: L) w:=by
 refine⟨fun p hp=>⟨(h.base p hp).gK,fun b hb=>?_⟩,fun X hX=>?_,?_,?_⟩
 . rw[ou,zr]at hb
   rcases hb with hb|hb
   . exact .inr (z1 (hlo p hp) (hf b hb))
   . exact(h.base p hp).mine b hb
 . simp only[zg]at hX
   rcases hX with rfl|hX
   . exact ho
   . exact h.own X hX
 . rw[ou,zw]
   exact⟨hnd,h.sep,fun a ha b hb e=>by have h1:=hf a ha;have h2:=hlo' b hb;omega⟩
 . intro b hb
   rw[ou,zr]at hb
   rcases hb with hb|hb
   . exact hlt b hb
   . exact h.lt b hb
theorem St.q5{R:gh}(h:St bs L w)(hc:gB [] w w')(hf:∀ b∈R.gT,w.heap.size<=b)(hnd:R.gT.Nodup)(hlt:∀ b∈R.gT,b<w'.heap.size)(ho:R.holds w'):St bs (R :: L) w' :=
 (h.grow hc).add (lo:=w.heap.size) (fun p hp=>(h.base p hp).gK.size) h.lt hf hnd hlt ho
theorem St.sub(h:St bs L w)(hs:L'.Sublist L):St bs L' w:=by
 have hm:∀ b∈iT L', b∈iT L:=fun b hb=>by
  obtain⟨X,hX,hx⟩:=p7.1 hb
  exact p7.2 ⟨X,hs.subset hX,hx⟩
 refine⟨fun p hp=>⟨(h.base p hp).gK,fun b hb=>(h.base p hp).mine b (hm b hb)⟩,fun X hX=>h.own X (hs.subset hX),?_,fun b hb=>h.lt b (hm b hb)⟩
 exact h.sep.sublist (by
  clear h hm
  induction hs with
  | slnil=>exact List.Sublist.slnil
  | cons a _ ih=>rw[ou];exact ih.trans (List.sublist_append_right _ _)
  | cons_cons a _ ih=>rw[ou,ou];exact List.Sublist.append_left ih _)
theorem St.Eb{i b:Nat}{T:TypeId}{cs:List Value}(h:St bs L w)(hi:L[i]? = some (blk b T cs)):w.heap[b]? = some (.cells cs.toArray T (0,0)) :=
 h.own _ (ze hi)
theorem St.zP{i b o:Nat}{T:TypeId}{cs:List Value}{v:Value}(h:St bs L w)(hi:L[i]? = some (blk b T cs))(hv:cs[o]? = some v):w.cell? ⟨b,o,none⟩=some v:=by
 rw[cell_of_row w b o cs.toArray T (0,0) (h.Eb hi)]
 simpa using hv
def setAt(cs:List Value)(o:Nat)(vs:List Value):List Value:=cs.take o++vs++cs.drop (o+vs.length)
abbrev TI(P:Program)(t:TypeId)(sz by_:Nat)(z:Value):Prop:=(P.info? t).map (fun i=>(i.size,i.bytes,i.zero))=some (sz,by_,some z)
theorem TI.get{P:Program}{t:TypeId}{sz by_:Nat}{z:Value}(h:TI P t sz by_ z):∃ i,P.info? t=some i/\i.size=sz/\i.bytes=by_/\i.zero=some z:=by
 unfold TI at h
 cases hi:P.info? t with
 | none=>rw[hi]at h;simp at h
 | some i=>rw[hi]at h;simp at h;exact⟨i,rfl,h.1,h.2.1,h.2.2⟩
variable {P:Program} {t:TypeId} {sz by_:Nat} {z:Value}
theorem TI.size(h:TI P t sz by_ z)(w:World):(sizeOf t).run P w = .ok sz w:=by
 obtain⟨i,hi,h1,_,_⟩:=h.get
 simp[sizeOf,typeInfo,hi,h1]
theorem TI.s6(h:TI P t sz by_ z)(w:World):(zeroValue t).run P w = .ok z w:=by
 obtain⟨i,hi,_,_,h1⟩:=h.get
 simp[zeroValue,typeInfo,hi,h1]
def lK:TypeDesc->Bool
 | .struct _ | .array _ _=>true
 | _=>false
section
variable {r:Option Nat} {ops:Array Oper} {Q:Exit->Act->World->Prop} {rest:List Oper} {n:Nat} {s:List (Nat×Value)} {ds:List Deferred}
variable {d:Nat} {ty:TypeId} {pos:String} {af:Array Edge} {g:Option (Nat×Bool)} {v:Value} {x y:Operand} {u:TypeDesc}
theorem qU(hu:P.underlying t=some u)(w:World):(isAgg t).run P w = .ok (lK u) w:=by
 unfold isAgg
 cases u<;>simp[run_underlying hu,lK]
theorem gU{a:Addr}(hx:ev n s x = .pointer (some a))(hu:P.underlying t=some u)(hn:lK u=false)(hv:w.cell? a=some v){dd:Option Nat} :
 (execOp (ev n s) ⟨dd,.load t x,ty,pos,af,g⟩).run P w = .ok (.value v) w:=by
 simp only[execOp,hx,Instr.loadAt,Instr.sureAddr,loadVar,zj,zm,zd,qU hu,hn]
 simp[load,Sem.run,hv]
theorem ld{a:Addr}(hg:gy ops n s g=true)(hx:ev n s x = .pointer (some a))(hu:P.underlying t=some u)(hn:lK u=false)(hv:w.cell? a=some v)
 (K:WL r P ops Q rest (Fr n ((d,v) :: s) ds) w) :
 WL r P ops Q (⟨some d,.load t x,ty,pos,af,g⟩ :: rest) (Fr n s ds) w:=pv hg rfl (gU hx hu hn hv) K
theorem pU{b o:Nat}{cs:List Value}(hx:ev n s x = .pointer (some ⟨b,o,none⟩))(hu:P.underlying t=some u)(hn:lK u=true)(ht:TI P t sz by_ z)
 (hl:cs.length=sz) (hv:∀ j u,cs[j]? = some u->w.cell? ⟨b,o+j,none⟩=some u) {dd:Option Nat} :
 (execOp (ev n s) ⟨dd,.load t x,ty,pos,af,g⟩).run P w = .ok (.value (.agg cs.toArray)) w:=by
 subst hl
 have:=run_loadCells_list (P:=P) w ⟨b,o,none⟩ cs (fun j u hj=>by rw[Addr.add_lit];exact hv j u hj)
 simp only[execOp,hx,Instr.loadAt,Instr.sureAddr,loadVar,zj,zm,zd,qU hu,hn,ht.size,this,if_true]
theorem pH{b o:Nat}{cs:List Value}(hg:gy ops n s g=true)(hx:ev n s x = .pointer (some ⟨b,o,none⟩))(hu:P.underlying t=some u)(hn:lK u=true)(ht:TI P t sz by_ z)
 (hl:cs.length=sz) (hv:∀ j u,cs[j]? = some u->w.cell? ⟨b,o+j,none⟩=some u)
 (K:WL r P ops Q rest (Fr n ((d,.agg cs.toArray) :: s) ds) w) :
 WL r P ops Q (⟨some d,.load t x,ty,pos,af,g⟩ :: rest) (Fr n s ds) w:=pv hg rfl (pU hx hu hn ht hl hv) K
theorem St.HT{i b o:Nat}{T:TypeId}{cs:List Value}{vs:List Value}(h:St bs L w)(hi:L[i]? = some (blk b T cs))(hv:(cs.drop o).take vs.length=vs) :
 ∀ j u,vs[j]? = some u->w.cell? ⟨b,o+j,none⟩=some u:=by
 intro j u hj
 refine h.zP hi ?_
 rw[<-hv,qN]at hj
 split at hj
 . simpa using hj
 . cases hj
theorem nq{b o:Nat}{T:TypeId}{cs cs' vs:List Value}(i:Nat)(hg:gy ops n s g=true)(hx:ev n s x = .pointer (some ⟨b,o,none⟩))(hy:ev n s y=v)(hvs:v.cells.toList=vs)
 (ht:TI P t sz by_ z) (hsz:vs.length=sz) (h1:vs.all (·.oneCell')=true) (hst:St bs L w) (hi:L[i]? = some (blk b T cs)) (hfit:Nat.ble (o+vs.length) cs.length=true)
 (hcs:setAt cs o vs=cs') (hL:L.set i (blk b T cs')=L')
 (K:∀ w', St bs L' w' -> WL r P ops Q rest (Fr n s ds) w'):WL r P ops Q (⟨none,.store t x y,ty,pos,af,g⟩ :: rest) (Fr n s ds) w:=by
 have hh:=hst.Eb hi
 have hrun:=run_storeCells_at P b o T vs 0 cs.toArray w hh (by simpa using za hfit) (by simpa using h1)
 have hlen:v.cells.size=sz:=by rw[<-hsz,<-hvs];simp
 refine zQ (w' := w.setRow b (cs'.toArray)) hg rfl ?_ ?_
 . simp only[execOp,hx,hy,Instr.storeAt,Instr.sureAddr,storeVar,zj,zm,zd,ht.size,hlen,ne_eq,not_true,if_false,hvs]
   subst hcs
   simp only[nF]at hrun
   simp[hrun,setAt]
 . subst hL
   refine K _ ?_
   refine hst.iF hi (gB.setRow w b _) (fun c hc=>.inl hc) (by simp[blk]) (fun c hc=>?_) (setRow_heap w b cs.toArray cs'.toArray T (0,0) hh)
   simp only[blk,mj]at hc
   subst hc
   simpa using(z8.1 hh).1
theorem xD{bs:List (World×List Nat)}{L:List gh}(hst:St bs L w)(T:TypeId)(cs:List Value):St bs (blk w.heap.size T cs :: L) (w.alloc (.cells cs.toArray T)) :=
 hst.q5 (gB.alloc [] w _) (fun b hb=>by simp[blk]at hb;omega) (by simp[blk]) (fun b hb=>by simp[blk]at hb;simp;omega) (heap_alloc_new w _)
theorem al{cs:List Value}(hg:gy ops n s g=true)(ht:TI P t sz by_ z)(hcs:z.cells.toList=cs)(hst:St bs L w)
 (K:∀ b w', w.heap.size<=b->gB [] w w' -> St bs (blk b t cs :: L) w' -> WL r P ops Q rest (Fr n ((d,.pointer (some ⟨b,0,none⟩)) :: s) ds) w') :
 WL r P ops Q (⟨some d,.alloc t,ty,pos,af,g⟩ :: rest) (Fr n s ds) w:=by
 subst hcs
 refine pv (w' := w.alloc (.cells z.cells t)) hg rfl ?_ (K _ _ (zp _) (gB.alloc [] w _) ?_)
 . simp only[execOp,Instr.alloc,zj,ht.s6,zd]
   rfl
 . have:=xD hst t z.cells.toList
   simpa using this
theorem bx{cs:List Value}(hg:gy ops n s g=true)(hx:ev n s x=v)(hcs:v.cells.toList=cs)(hst:St bs L w)
 (K:∀ b w', w.heap.size<=b->gB [] w w' -> St bs (blk b t cs :: L) w' -> WL r P ops Q rest (Fr n ((d,.pointer (some ⟨b,0,none⟩)) :: s) ds) w') :
 WL r P ops Q (⟨some d,.box t x,ty,pos,af,g⟩ :: rest) (Fr n s ds) w:=by
 subst hcs
 refine pv (w' := w.alloc (.cells v.cells t)) hg rfl ?_ (K _ _ (zp _) (gB.alloc [] w _) ?_)
 . simp only[execOp,hx,Instr.box]
   rfl
 . have:=xD hst t v.cells.toList
   simpa using this
theorem jy{T:TypeId}{i b o o' szf byf:Nat}{zf:Value}{fields:Array Field}{f:Field}(hx:ev n s x = .pointer (some ⟨b,o,none⟩))(hT:P.underlying T=some (.struct fields))
 (hf:fields[i]? = some f) (ht:TI P f.type (szf+1) byf zf) (ho:o+f.offset=o') {dd:Option Nat} :
 (execOp (ev n s) ⟨dd,.fieldAddr T x i,ty,pos,af,g⟩).run P w = .ok (.value (.pointer (some ⟨b,o', none⟩))) w:=by subst ho;simp[execOp,hx,Instr.fieldAt,run_underlying hT,hf,Instr.sureAddr,fieldPlace,ht.size,Addr.add_lit]
theorem fa{T:TypeId}{i b o o' szf byf:Nat}{zf:Value}{fields:Array Field}{f:Field}(hg:gy ops n s g=true)(hx:ev n s x = .pointer (some ⟨b,o,none⟩))(hT:P.underlying T=some (.struct fields))
 (hf:fields[i]? = some f) (ht:TI P f.type (szf+1) byf zf) (ho:o+f.offset=o') (K:WL r P ops Q rest (Fr n ((d,.pointer (some ⟨b,o', none⟩)) :: s) ds) w) :
 WL r P ops Q (⟨some d,.fieldAddr T x i,ty,pos,af,g⟩ :: rest) (Fr n s ds) w:=pv hg rfl (jy hx hT hf ht ho) K
theorem pW{T e:TypeId}{k:IntKind}{b o m c o' : Nat}{i:Int}(hx:ev n s x = .slice (some ⟨b,o,none⟩) m c)(hy:ev n s y = .int k i)(hT:P.underlying T=some (.slice e))
 (ht:TI P e sz by_ z) (h0:0<=i/\i<m) (ho:o+i.toNat*sz=o') {dd:Option Nat} :
 (execOp (ev n s) ⟨dd,.indexAddr T x y,ty,pos,af,g⟩).run P w = .ok (.value (.pointer (some ⟨b,o', none⟩))) w:=by subst ho;simp[execOp,hx,hy,Instr.indexAt,run_underlying hT,asIntOf,h0,ht.size,Addr.add_lit]
theorem jE{T e:TypeId}{k:IntKind}{b o m c o' : Nat}{i:Int}(hg:gy ops n s g=true)(hx:ev n s x = .slice (some ⟨b,o,none⟩) m c)(hy:ev n s y = .int k i)(hT:P.underlying T=some (.slice e))
 (ht:TI P e sz by_ z) (h0:0<=i/\i<m) (ho:o+i.toNat*sz=o') (K:WL r P ops Q rest (Fr n ((d,.pointer (some ⟨b,o', none⟩)) :: s) ds) w) :
 WL r P ops Q (⟨some d,.indexAddr T x y,ty,pos,af,g⟩ :: rest) (Fr n s ds) w:=pv hg rfl (pW hx hy hT ht h0 ho) K
end
end Go.Sx
namespace Go.Sx
open Go
def ij(k:IntKind)(x:Int):Prop:=k.min<=x/\x<=k.max
theorem ij.i64{x:Int}(h:ij .i64 x) : -9223372036854775808<=x/\x<=9223372036854775807:=h
def Sl{α:Type}(sz:Nat)(enc:World->α->List Value->Prop)(ok:Nat->Prop)(w:World)(v:Value)(xs:List α):Prop :=
 ∃ a c,v = .slice a xs.length c/\xs.length<=c/\c<=maxLen/\∀ i x,xs[i]? = some x->∃ b o vs,a=some ⟨b,o,none⟩/\ok b/\vs.length=sz/\enc w x vs/\∀ j u,vs[j]? = some u->w.cell? ⟨b,o+i*sz+j,none⟩=some u
def encI(k:IntKind)(_:World)(x:Int)(vs:List Value):Prop:=vs=[.int k x]/\ij k x
abbrev Ints(k:IntKind)(ok:Nat->Prop)(w:World)(v:Value)(xs:List Int):Prop:=Sl 1 (encI k) ok w v xs
section
variable {α:Type} {sz:Nat} {enc:World->α->List Value->Prop} {ok ok' : Nat->Prop} {w w' w0:World} {v:Value} {xs:List α}
theorem Sl.nil(sz:Nat)(enc:World->α->List Value->Prop)(ok:Nat->Prop)(w:World):Sl sz enc ok w (.slice none 0 0) [] :=
 ⟨none,0,rfl,zp _,oG _,fun i x h=>by simp at h⟩
theorem Sl.len(h:Sl sz enc ok w v xs):xs.length<=9223372036854775807:=by
 obtain⟨a,c,_,h1,h2,_⟩:=h
 simp only[maxLen]at h2;omega
theorem Sl.mono(h:Sl sz enc ok w v xs)(ho:∀ b,ok b->ok' b):Sl sz enc ok' w v xs:=by
 obtain⟨a,c,e,h1,h2,h3⟩:=h
 exact⟨a,c,e,h1,h2,fun i x hi=>let ⟨b,o,vs,ha,hb,rest⟩:=h3 i x hi;⟨b,o,vs,ha,ho b hb,rest⟩⟩
theorem Sl.any(h:Sl sz enc ok w v xs):Sl sz enc (fun _=>True) w v xs:=h.mono fun _ _=>trivial
theorem Sl.to(h:Sl sz enc ok w v xs)(hk:∀ b,ok b->b<w.heap.size->w'.heap[b]? = w.heap[b]?)(he:∀ x vs,x∈xs->enc w x vs->enc w' x vs)(hp:0<sz):Sl sz enc ok w' v xs:=by
 obtain⟨a,c,e,h1,h2,h3⟩:=h
 refine⟨a,c,e,h1,h2,fun i x hi=>?_⟩
 obtain⟨b,o,vs,ha,hb,hl,hx,hc⟩:=h3 i x hi
 refine⟨b,o,vs,ha,hb,hl,he x vs (ze hi) hx,fun j u hj=>?_⟩
 have:=hc j u hj
 exact(World.cell?_of_block (hk b hb (World.block_lt_of_cell? w _ this))).trans this
theorem Ints.to{k:IntKind}{xs:List Int}(h:Ints k ok w v xs)(hk:∀ b,ok b->b<w.heap.size->w'.heap[b]? = w.heap[b]?):Ints k ok w' v xs :=
 Sl.to h hk (fun _ _ _ h=>h) d_
theorem St.ints{k:IntKind}{xs:List Int}{X:List Nat}{bs:List (World×List Nat)}{L:List gh}(h:St bs L w)(hb:(w0,X)∈bs)(hI:Ints k ok w0 v xs)(hok:∀ b,ok b->b∉X):Ints k ok w v xs :=
 Ints.to hI fun b hb' hlt=>h.keep hb hlt (hok b hb')
theorem St.Ju{k:IntKind}{xs:List Int}{bs:List (World×List Nat)}{L:List gh}(h:St bs L w)(hb:(w0,[])∈bs)(hI:Ints k ok w0 v xs):Ints k ok w v xs :=
 h.ints hb hI fun _ _=>sw
end
theorem GC{w:World}{e:TypeId}{sz m b:Nat}{v:Value}{xs:List Value}(h:w.ownsRow 0 e sz v m xs)(hb:v.ownBlock=some b):b<w.heap.size:=(h.lt b hb).2
theorem Ry{P:Program}{w:World}{t ty e:TypeId}{i:TypeInfo}(ht:P.underlying t=some (.slice e))(hi:P.info? e=some i){v:Value}{m:Nat}{xs:List Value}{sz:Nat}(hown:w.ownsRow 0 e sz v m xs)
 {a:Option Addr} {c:Nat}:(Builtin.append_ #[t,t] ty #[v,.slice a 0 c]).run P w = .ok v w:=by
 have hf:(Builtin.firstCells i.size 0 (.slice a 0 c)).run P w = .ok #[] w:=by
  cases a with
  | none=>simp[Builtin.firstCells]
  | some a=>simp[Builtin.firstCells,loadCells,loadCellsFrom]
 rcases hown.2 with ⟨rfl,rfl⟩|⟨g,cap,cur,rfl,_,hg,hnc,_,_,_⟩
 . simp[Builtin.append_,run_underlying ht,sizeOf,typeInfo,hi,Builtin.lenOf,hf]
 . simp[Builtin.append_,run_underlying ht,sizeOf,typeInfo,hi,Builtin.lenOf,hf,hnc,storeCells]
def Src(w:World)(u:Value)(sz cnt:Nat)(news:List Value):Prop :=
 ∃ a c,u = .slice a cnt c/\news.length=cnt*sz/\∀ j x,news[j]? = some x->∃ ad,a=some ad/\w.cell? (ad.add j)=some x
theorem Le{P:Program}{w:World}{t ty e:TypeId}{sz by_:Nat}{z:Value}(ht:P.underlying t=some (.slice e))(hi:TI P e sz by_ z)(hzs:z.cells.size=sz)(hsz:0<sz)
 {v u:Value} {m cnt:Nat} {xs news:List Value} (hown:w.ownsRow 0 e sz v m xs) (hs:Src w u sz cnt news) (h1:∀ x∈news,x.oneCell' = true) (hb:(m+cnt)*by_<=140737488355328) (h63:m+cnt<=maxLen) :
 ∃ v' w', (Builtin.append_ #[t,t] ty #[v,u]).run P w = .ok v' w' /\ w'.ownsRow 0 e sz v' (m+cnt) (xs++news)/\gB v.ownBlock.toList w w' /\ (∀ b,v'.ownBlock=some b->(v.ownBlock=some b\/w.heap.size<=b)/\b<w'.heap.size) /\
  (v' = .slice none 0 0↔v = .slice none 0 0/\cnt=0):=by
 obtain⟨i,hii,rfl,rfl,hz⟩:=hi.get
 obtain⟨a,c,rfl,hl,hn⟩:=hs
 by_cases h0:cnt=0
 . subst h0
   have hnil:news=[]:=wS (by simpa using hl)
   subst hnil
   exact⟨v,w,Ry ht hii hown,by simpa using hown,gB.refl _ _,fun b hb=>⟨.inl hb,GC hown hb⟩,s_⟩
 . have hpos:0<news.length:=by rw[hl];exact Nat.mul_pos o_ hsz
   obtain⟨ad,rfl,_⟩:=hn 0 news[0] s_
   have hn' : ∀ j x,news[j]? = some x->w.cell? (ad.add j)=some x:=fun j x hj=>by
    obtain⟨ad', e,h⟩:=hn j x hj
    cases e;exact h
   obtain⟨v', w', hr,h2,h3,h4⟩:=run_append_own (P:=P) w 0 t ty e i z i.size i.bytes ht hii hz rfl rfl hzs hsz v m xs hown ad cnt c news hl hn' h1 h63 hb (oG _)
   refine⟨v', w', hr,h2,gB.SV h3,fun b hb' => ⟨?_,GC h2 hb'⟩,by simpa[h0]using h4⟩
   rcases hown.2 with ⟨rfl,rfl⟩|⟨g,cap,cur,rfl,hbg,hg,hnc,hcm,hcs,htake⟩
   . have hx:xs=[]:=wS (by simpa using hown.1)
     have hr' := run_append_nil (P:=P) w t ty e i z ht hii hz ad cnt c news hl hn' o_ (by simp only[maxLen]at h63;omega) (by simp only[jF]at hb;omega)
     rw[hr]at hr'
     cases hr'
     right
     simp only[Value.ownBlock,Option.some.injEq]at hb'
     omega
   . by_cases hroom:m+cnt<=cap
     . have hfit:m*i.size+news.length<=cur.size:=by rw[hl,hcs,<-ot];exact wL _ hroom
       have hr' := run_append_room (P:=P) w t ty e i ht hii g m cap cur hg ad cnt c news hl hn' h1 hroom hfit
       rw[hr]at hr'
       cases hr'
       left
       simpa[Value.ownBlock]using hb'
     . have holds:∀ j u,xs[j]? = some u->w.cell? ((⟨g,0,none⟩:Addr).add j)=some u:=hown.cells (g:=g) rfl
       have hr' := run_append_grow (P:=P) w t ty e i z ht hii hz ⟨g,0,none⟩ m cap xs hown.1 holds ad cnt c news hl hn' o_ (by simp only[maxLen]at h63;omega) (growslice_fits o_ hb)
       rw[hr]at hr'
       cases hr'
       right
       simp only[Value.ownBlock,Option.some.injEq]at hb'
       omega
section
variable {r:Option Nat} {P:Program} {ops:Array Oper} {Q:Exit->Act->World->Prop} {rest:List Oper} {n:Nat} {s:List (Nat×Value)} {ds:List Deferred} {w:World}
variable {d:Nat} {ty:TypeId} {pos:String} {af:Array Edge} {g:Option (Nat×Bool)} {v u:Value} {x y:Operand} {bs:List (World×List Nat)} {L L' : List gh} {t e:TypeId} {sz by_ m cnt:Nat} {z:Value} {xs news:List Value}
theorem Ra(i:Nat)(hg:gy ops n s g=true)(hx:ev n s x=v)(hy:ev n s y=u)(ht:P.underlying t=some (.slice e))(hi:TI P e sz by_ z)(hzs:z.cells.size=sz)(hsz:0<sz)
 (hst:St bs L w) (hL:L[i]? = some (row v e sz m xs)) (hs:Src w u sz cnt news) (h1:∀ x∈news,x.oneCell' = true) (hb:(m+cnt)*by_<=140737488355328) (h63:m+cnt<=maxLen)
 (K:∀ v' w', St bs (L.set i (row v' e sz (m+cnt) (xs++news))) w' -> gB v.ownBlock.toList w w' -> WL r P ops Q rest (Fr n ((d,v') :: s) ds) w') :
 WL r P ops Q (⟨some d,.call ⟨.builtin .append,#[x,y],#[t,t]⟩,ty,pos,af,g⟩ :: rest) (Fr n s ds) w:=by
 have hown:w.ownsRow 0 e sz v m xs:=hst.own _ (ze hL)
 obtain⟨v', w', hr,h2,h3,h4,_⟩:=Le (ty:=ty) ht hi hzs hsz hown hs h1 hb h63
 refine pv hg rfl (v:=v') (w' := w') (by simp only[execOp,resolve,invoke,builtin,zj,zm,zd,FR,zy,yK,hx,hy,hr]) (K v' w' ?_ h3)
 refine hst.iF hL h3 (fun b hb' => ?_) ?_ (fun b hb' => ?_) h2
 . simp only[row,FM]at hb'
   rcases(h4 b hb').1 with h|h
   . exact .inl (by simp[row,h])
   . exact .inr h
 . show v'.ownBlock.toList.Nodup
   cases v'.ownBlock<;>simp
 . simp only[row,FM]at hb'
   exact(h4 b hb').2
theorem mY(i:Nat)(hg:gy ops n s g=true)(hx:ev n s x=v)(ht:P.underlying t=some (.slice e))(hst:St bs L w)(hL:L[i]? = some (row v e sz m xs))
 (K:WL r P ops Q rest (Fr n ((d,.int .i64 m) :: s) ds) w):WL r P ops Q (⟨some d,.call ⟨.builtin .len,#[x],#[t]⟩,ty,pos,af,g⟩ :: rest) (Fr n s ds) w:=by
 have hown:w.ownsRow 0 e sz v m xs:=hst.own _ (ze hL)
 rcases hown.2 with ⟨rfl,rfl⟩|⟨g', cap,cur,rfl,_⟩
 . exact E7 hg hx ht K
 . exact E7 hg hx ht K
theorem tE{α:Type}{enc:World->α->List Value->Prop}{ok:Nat->Prop}{w0:World}{ys:List α}(hg:gy ops n s g=true)(hx:ev n s x=v)(ht:P.underlying t=some (.slice e))(hI:Sl sz enc ok w0 v ys)
 (K:WL r P ops Q rest (Fr n ((d,.int .i64 ys.length) :: s) ds) w):WL r P ops Q (⟨some d,.call ⟨.builtin .len,#[x],#[t]⟩,ty,pos,af,g⟩ :: rest) (Fr n s ds) w:=by
 obtain⟨a,c,rfl,_⟩:=hI
 exact E7 hg hx ht K
theorem Gb{k k' : IntKind}{ok:Nat->Prop}{ys:List Int}{i:Int}{el:Int}(hg:gy ops n s g=true)(hx:ev n s x=v)(hy:ev n s y = .int k' i)(ht:P.underlying t=some (.slice e))(hi:TI P e 1 by_ z)
 (hI:Ints k ok w v ys) (h0:0<=i) (hel:ys[i.toNat]? = some el)
 (K:∀ b o,w.cell? ⟨b,o,none⟩=some (.int k el)->ij k el->ok b->WL r P ops Q rest (Fr n ((d,.pointer (some ⟨b,o,none⟩)) :: s) ds) w) :
 WL r P ops Q (⟨some d,.indexAddr t x y,ty,pos,af,g⟩ :: rest) (Fr n s ds) w:=by
 have hlt:=(zb.1 hel).1
 obtain⟨a,c,rfl,_,_,h3⟩:=hI
 obtain⟨b,o,vs,rfl,hob,hl,⟨rfl,hin⟩,hc⟩:=h3 i.toNat el hel
 refine jE hg hx hy ht hi ⟨h0,o_⟩ rfl (K b _ ?_ hin hob)
 have:=hc 0 (.int k el) s_
 simpa using this
end
end Go.Sx
namespace Go.Sx
open Go
def gY(S:Nat->Bool):Nat->List Oper->List Value->List (Nat×Value)->List (Nat×Value)
 | i,o :: l,v :: vs,s=>gY S (i+1) l vs (bif S i then jJ o.dst v s else s)
 | _,_,_,s=>s
def mK(S:Nat->Bool)(t:Nat):Nat->List Oper->List Value->Option Value
 | i,o :: l,v :: vs=>match mK S t (i+1) l vs with
  | some u=>some u
  | none=>bif S i&&(o.dst==some t)then some v else none
 | _,_,_=>none
theorem Dx(d:Option Nat)(v:Value)(s:List (Nat×Value))(t:Nat):look (jJ d v s) t=if d=some t then v else look s t:=by
 cases d with
 | none=>simp[jJ]
 | some i=>simp only[jJ,w5,Option.some.injEq]
theorem kU(S:Nat->Bool)(t:Nat)(l:List Oper):∀ (i:Nat) (vs:List Value) (s:List (Nat×Value)),look (gY S i l vs s) t=(mK S t i l vs).getD (look s t):=by
 induction l with
 | nil=>intro i vs s;cases vs<;>simp[gY,mK]
 | cons o l ih =>
  intro i vs s
  cases vs with
  | nil=>simp[gY,mK]
  | cons v vs =>
   simp only[gY,mK]
   rw[ih]
   cases mK S t (i+1) l vs with
   | some u=>rfl
   | none =>
    simp only[Option.getD_none]
    cases hS:S i with
    | false=>simp
    | true =>
     simp only[cond_true,Bool.true_and,Dx]
     by_cases hd:o.dst=some t
     . simp[hd]
     . have:(o.dst==some t)=false:=by simpa using hd
       simp[hd,this]
theorem rR{S S' : Nat->Bool}{t:Nat}(l:List Oper):∀ (i:Nat) (vs vs' : List Value),vs.length=vs'.length ->
 (∀ j o,l[j]? = some o->o.dst=some t->S (i+j)=S' (i+j)/\(S (i+j)=true->vs[j]? = vs'[j]?))->mK S t i l vs=mK S' t i l vs' := by
 induction l with
 | nil=>intro i vs vs' _ _;cases vs<;>cases vs' <;> simp[mK]
 | cons o l ih =>
  intro i vs vs' hl h
  cases vs with
  | nil =>
   cases vs' with
   | nil=>simp[mK]
   | cons v' vs' => simp at hl
  | cons v vs =>
   cases vs' with
   | nil=>simp at hl
   | cons v' vs' =>
    simp only[mK]
    rw[ih (i+1) vs vs' (by simpa using hl) (fun j o' hj hd=>by
     have:=h (j+1) o' (by simpa using hj) hd
     rw[show i+1+j=i+(j+1) by omega]
     simpa using this)]
    cases mK S' t (i+1) l vs' with
    | some u=>rfl
    | none =>
     simp only
     by_cases hd:o.dst=some t
     . have:=h 0 o rfl hd
       simp only[nF]at this
       obtain⟨h1,h2⟩:=this
       rw[h1]at h2
       cases hS:S' i with
       | false=>simp[h1,hS]
       | true=>have h3:=h2 hS;simp at h3;simp[h1,hS,h3]
     . have:(o.dst==some t)=false:=by simpa using hd
       simp[this]
theorem wY{S:Nat->Bool}{t:Nat}(l:List Oper):∀ (i:Nat) (vs:List Value),(∀ j o,l[j]? = some o->o.dst=some t->S (i+j)=false)->mK S t i l vs=none:=by
 induction l with
 | nil=>intro i vs _;cases vs<;>simp[mK]
 | cons o l ih =>
  intro i vs h
  cases vs with
  | nil=>simp[mK]
  | cons v vs =>
   simp only[mK]
   rw[ih (i+1) vs (fun j o' hj hd=>by rw[show i+1+j=i+(j+1) by omega];exact h (j+1) o' (by simpa using hj) hd)]
   simp only
   by_cases hd:o.dst=some t
   . have:=h 0 o rfl hd
     simp only[nF]at this
     simp[this]
   . have:(o.dst==some t)=false:=by simpa using hd
     simp[this]
theorem DL{S:Nat->Bool}{t:Nat}(l:List Oper):∀ (i k:Nat) (vs:List Value) (o:Oper) (v:Value),l[k]? = some o->o.dst=some t->vs[k]? = some v->S (i+k)=true ->
 (∀ j o', k<j->l[j]? = some o' -> o'.dst=some t->S (i+j)=false)->mK S t i l vs=some v:=by
 induction l with
 | nil=>intro i k vs o v h;simp at h
 | cons o1 l ih =>
  intro i k vs o v ho hd hv hS hn
  cases vs with
  | nil=>simp at hv
  | cons v1 vs =>
   simp only[mK]
   cases k with
   | zero =>
    simp at ho hv
    subst ho hv
    rw[wY l (i+1) vs (fun j o' hj hd' => by rw[show i+1+j=i+(j+1) by omega];exact hn (j+1) o' o_ (by simpa using hj) hd')]
    simp only[nF]at hS
    simp[hS,hd]
   | succ k =>
    rw[ih (i+1) k vs o v (by simpa using ho) hd (by simpa using hv) (by rw[show i+1+k=i+(k+1) by omega];exact hS)
     (fun j o' hkj hj hd' => by rw[show i+1+j=i+(j+1) by omega];exact hn (j+1) o' o_ (by simpa using hj) hd')]
def Jn(l:List Oper)(pre:List (List Nat)):Bool :=
 (List.range l.length).all fun j=>(pre.getD j []).all fun i=>(l[j]?).any fun o=>o.after.toList.any fun e=>Region.binds .any e&&decide (e.on<j)&&(e.on==i||(pre.getD e.on []).contains i)
def kH(ops:Array Oper)(x y:Oper):Bool :=
 match x.dst with
 | some d=>(y.looksAt ops).contains d||y.dst==some d
 | none=>false
def s4:Op->Bool
 | .select _ _=>true
 | _=>false
def Ai(l:List Oper)(pre:List (List Nat))(mem:List Nat):Bool :=
 Jn l pre &&
 (l.all fun o => !s4 o.op) &&
 ((List.range l.length).all fun j=>(l[j]?).all fun o=>o.after.toList.all fun e => !Region.binds .any e||decide (e.on<j)) &&
 ((
  List.range l.length).all fun j=>(List.range j).all fun i =>
  match l[i]?,l[j]? with
  | some x,some y => !(kH l.toArray x y||kH l.toArray y x||(mem.contains i&&mem.contains j))||(pre.getD j []).contains i
  | _,_=>true) &&
 (mem.all fun m=>decide (m<l.length)) &&
 decide (mem.Pairwise (· < ·))
def u9(pre:List (List Nat))(mem:List Nat)(i:Nat):Nat:=mem.countP fun m=>(pre.getD i []).contains m
def uS(pre:List (List Nat))(mem:List Nat)(i:Nat):Nat:=mem.countP fun m => !(pre.getD m []).contains i
section
variable {Γ:Type} (P:Program) (ops:Array Oper) (Q:Exit->Act->World->Prop) (n:Nat) (ds:List Deferred) (s0:List (Nat×Value))
def mT(o:Oper)(s:List (Nat×Value))(v:Value)(C:World->Prop)(w:World):Prop :=
 (gy ops n s o.guard=true/\nr o.op=true/\((execOp (ev n s) o).run P w = .ok (.value v) w\/∃ f args,(execOp (ev n s) o).run P w = .ok (.enter f args) w/\CR P f args w (fun v' w' => v' = v/\C w')))
 \/ (gy ops n s o.guard=false/\v=undef)
def lB(l:List Oper)(o:Oper)(s:List (Nat×Value))(Nx:Value->World->Prop)(w:World):Prop :=
 (gy ops n s o.guard=true/\nr o.op=true/\((∃ v w', (execOp (ev n s) o).run P w = .ok (.value v) w' /\ Nx v w')\/(∃ w', (execOp (ev n s) o).run P w = .ok .skip w' /\ Nx undef w') \/
  (∃ f args,(execOp (ev n s) o).run P w = .ok (.enter f args) w/\Calls P f args w (fun e w' => match e with
   | .returned v=>Nx v w'
   | .panicked ch=>∀ s,(∀ t,(∀ o∈l,o.dst≠some t)->look s t=look s0 t)->Q (.panic ch) (Fr n s ds) w'
   | .outgrown=>LetsOut Q))))
 \/ (gy ops n s o.guard=false/\Nx undef w)
def jD(pre:List (List Nat))(i:Nat)(g g' : Γ):Nat->List (Γ->Value)->Prop
 | k,v :: vs=>(bif (pre.getD k []).contains i||k==i then True else v g' = v g)/\jD pre i g g' (k+1) vs
 | _,[]=>True
def mq(l0:List Oper)(pre:List (List Nat))(mem:List Nat)(V:List (Γ->Value))(M:Nat->Γ->World->Prop):Nat->(Γ->List (Nat×Value))->List Oper->List (Γ->Value)->Prop
 | i,s,o :: l,v :: vs =>
  (
   bif mem.contains i then ∀ g w,M (mem.idxOf i) g w->lB P ops Q n ds s0 l0 o (s g) (fun v' w' => ∃ g', M (mem.idxOf i+1) g' w' /\ v' = v g' /\ jD pre i g g' 0 V) w
   else ∀ p g w,u9 pre mem i<=p->p<=uS pre mem i->M p g w->mT P ops n o (s g) (v g) (M p g) w) /\
  mq l0 pre mem V M (i+1) (fun g=>jJ o.dst (v g) (s g)) l vs
 | _,_,[],[]=>True
 | _,_,_,_=>False
end
section
variable {Γ:Type} {r:Option Nat} {P:Program} {Q:Exit->Act->World->Prop} {n:Nat} {ds:List Deferred} {s0:List (Nat×Value)} {l:List Oper} {pre:List (List Nat)} {mem:List Nat} {V:List (Γ->Value)} {M:Nat->Γ->World->Prop}
theorem jD.get{i:Nat}{g g' : Γ}:∀ (V:List (Γ->Value)) (b:Nat),jD pre i g g' b V->∀ k v,V[k]? = some v->((pre.getD (b+k) []).contains i||(b+k)==i)=false->v g' = v g:=by
 intro V
 induction V with
 | nil=>intro b _ k v h;simp at h
 | cons v0 V ih =>
  intro b h k v hk hc
  cases k with
  | zero =>
   simp at hk
   subst hk
   have:=h.1
   simp only[nF]at hc
   rw[hc]at this
   exact this
  | succ k=>exact ih (b+1) h.2 k v (by simpa using hk) (by rw[show b+1+k=b+(k+1) by omega];exact hc)
theorem mq.get{l0:List Oper}:∀ (l:List Oper) (vs:List (Γ->Value)) (b:Nat) (s:Γ->List (Nat×Value)),mq P l0.toArray Q n ds s0 l0 pre mem V M b s l vs->l.length=vs.length /\
 ∀ k o,l[k]? = some o->∃ v,vs[k]? = some v /\
  (
   bif mem.contains (b+k)then ∀ g w,M (mem.idxOf (b+k)) g w->lB P l0.toArray Q n ds s0 l0 o (gY (fun j=>decide (j<b+k)) b l (vs.map (· g)) (s g)) (fun v' w' => ∃ g', M (mem.idxOf (b+k)+1) g' w' /\ v' = v g' /\ jD pre (b+k) g g' 0 V) w
   else ∀ p g w,u9 pre mem (b+k)<=p->p<=uS pre mem (b+k)->M p g w->mT P l0.toArray n o (gY (fun j=>decide (j<b+k)) b l (vs.map (· g)) (s g)) (v g) (M p g) w):=by
 intro l
 induction l with
 | nil=>intro vs b s h;cases vs with|nil=>exact⟨rfl,fun k o hk=>by simp at hk⟩|cons v vs=>exact h.elim
 | cons o l ih =>
  intro vs b s h
  cases vs with
  | nil=>exact h.elim
  | cons v vs =>
   obtain⟨h1,h2⟩:=h
   obtain⟨e,h3⟩:=ih vs (b+1) _ h2
   refine⟨by simp[e],fun k o' hk=>?_⟩
   cases k with
   | zero =>
    simp at hk
    subst hk
    refine⟨v,rfl,?_⟩
    have hs:∀ g,gY (fun j=>decide (j<b+0)) b (o :: l) ((v :: vs).map (· g)) (s g)=s g:=by
     intro g
     have key:∀ (l:List Oper) (us:List Value) (i:Nat) (s:List (Nat×Value)),b<=i->gY (fun j=>decide (j<b+0)) i l us s=s:=by
      intro l
      induction l with
      | nil=>intro us i s _;cases us<;>rfl
      | cons o l ih=>intro us i s hi;cases us with|nil=>rfl|cons u us=>simp only[gY];rw[show decide (i<b+0)=false by simp;omega];exact ih us (i+1) s o_
     exact key _ _ _ _ (zp _)
    simp only[hs]
    exact h1
   | succ k =>
    obtain⟨v', hv', h4⟩:=h3 k o' (by simpa using hk)
    refine⟨v', by simpa using hv', ?_⟩
    rw[show b+1+k=b+(k+1) by omega]at h4
    have hs:∀ g,gY (fun j=>decide (j<b+(k+1))) b (o :: l) ((v :: vs).map (· g)) (s g)=gY (fun j=>decide (j<b+(k+1))) (b+1) l (vs.map (· g)) (jJ o.dst (v g) (s g)):=by
     intro g
     simp only[zy,gY]
     rw[show decide (b<b+(k+1))=true by simp]
     rfl
    simp only[hs]
    exact h4
structure Down (l:List Oper) (S:Nat->Bool):Prop where
 closed:∀ j o,l[j]? = some o->S j=true->∀ e∈o.after,Region.binds .any e=true->S e.on=true
theorem DI{S:Nat->Bool}(hp:Jn l pre=true)(hd:Down l S):∀ j,S j=true->j<l.length->∀ i,(pre.getD j []).contains i=true->S i=true:=by
 intro j
 induction j using Nat.strongRecOn with
 | _ j ih =>
  intro hS hj i hi
  have h1:=zz.1 hp j (ni.2 hj)
  have h2:=zz.1 h1 i (by simpa using hi)
  rw[zo hj]at h2
  simp only[Option.any_some,FZ,zt,decide_eq_true_eq,wI,beq_iff_eq]at h2
  obtain⟨e,he,⟨hb,hlt⟩,h3⟩:=h2
  have hSe:=hd.closed j _ (zo hj) hS e (by simpa using he) hb
  rcases h3 with rfl|h3
  . exact hSe
  . exact ih e.on hlt hSe o_ i (by simpa using h3)
theorem R1{S:Nat->Bool}{i:Nat}:∀ (mem:List Nat),mem.Pairwise (· < ·)->i∈mem->(∀ m∈mem,m<i->S m=true)->S i=false->(∀ m∈mem,i<m->S m=false) ->
 mem.countP S=mem.idxOf i/\mem.countP (fun j=>S j||j==i)=mem.idxOf i+1:=by
 intro mem
 induction mem with
 | nil=>intro _ h;simp at h
 | cons m mem ih =>
  intro hp hi h1 h2 h3
  rw[List.pairwise_cons]at hp
  by_cases e:m=i
  . subst e
    have hz:∀ x∈mem,S x=false:=fun x hx=>h3 x (by simp[hx]) (hp.1 x hx)
    have hz' : ∀ x∈mem,(S x||x==m)=false:=fun x hx=>by
     have:=hp.1 x hx
     simp[hz x hx];omega
    rw[u5,u5,AL.2 (fun x hx=>by simp[hz x hx]),AL.2 (fun x hx=>by rw[hz' x hx];simp)]
    simp[h2]
  . have hmem:i∈mem:=by simpa[Ne.symm e]using hi
    have hlt:=hp.1 i hmem
    obtain⟨a,b⟩:=ih hp.2 hmem (fun x hx=>h1 x (by simp[hx])) h2 (fun x hx=>h3 x (by simp[hx]))
    have hm:=h1 m s_ hlt
    rw[u5,u5,a,b,List.idxOf_cons]
    have:(m==i)=false:=by simpa using e
    simp[hm,this]
theorem H6(listed:Array Bool)(i j:Nat)(hi:i<listed.size):(listed.setIfInBounds i true).getD j false=(listed.getD j false||j==i):=by
 by_cases h:i=j
 . subst h;simp[hi]
 . have h' : (j==i)=false:=by simpa using Ne.symm h
   simp[h', Array.getElem?_setIfInBounds_ne h]
theorem vI(m j:Nat):(Array.replicate m false).getD j false=false:=by
 rcases qH j m with h|h
 . simp[h]
 . simp[h]
theorem Lb{id:Nat}{w:World}(hm:P.follows .mixedOrders=true)(pre:List (List Nat))(mem:List Nat)(hok:Ai l pre mem=true)(V:List (Γ->Value))(M:Nat->Γ->World->Prop)(g0:Γ)(sE:Γ->List (Nat×Value))
 (h0:M 0 g0 w.drew) (hO:mq P l.toArray Q n ds s0 l pre mem V M 0 (fun _=>s0) l V) (hE:∀ g,gY (fun _=>true) 0 l (V.map (· g)) s0=sE g)
 (hend:∀ g w', M mem.length g w' -> Q .normal (Fr n (sE g) ds) w'):WP r P (.region id l.toArray true) Q (Fr n s0 ds) w:=by
 simp only[Ai,zt]at hok
 obtain⟨⟨⟨⟨⟨hpre,hsel⟩,hacy⟩,hconf⟩,hmlt⟩,hpw⟩:=hok
 have hpw:=of_decide_eq_true hpw
 obtain⟨hlen,hget⟩:=mq.get (l0:=l) l V 0 (fun _=>s0) hO
 simp only[jF]at hget
 -- conflicts are ordered
 have oD:∀ i j x y,l[i]? = some x->l[j]? = some y->i<j->(kH l.toArray x y=true\/kH l.toArray y x=true\/(i∈mem/\j∈mem))->(pre.getD j []).contains i=true:=by
  intro i j x y hx hy hij h
  have hj:j<l.length:=(zb.1 hy).1
  have h1:=zz.1 (zz.1 hconf j (ni.2 hj)) i (ni.2 hij)
  simp only[hx,hy]at h1
  rcases rO.1 h1 with h2|h2
  . exfalso
    have h3:(kH l.toArray x y||kH l.toArray y x||(mem.contains i&&mem.contains j))=true:=by
     rcases h with h|h|⟨h,h'⟩<;>simp[h]
     simp[h']
    rw[h3]at h2
    cases h2
  . exact h2
 refine wpIn_region_any hm ?_
 have hsz:l.toArray.size=l.length:=by simp
 -- the invariant
 let Sof:Array Bool->Nat->Bool:=fun listed i=>listed.getD i false
 have main:∀ (fuel:Nat) (listed:Array Bool) (g:Γ) (w:World),listed.size=l.length->listed.toList.countP (! ·)<=fuel->Down l (Sof listed)->M (mem.countP (Sof listed)) g w ->
  wpAnyIn (FW r) 0 P .any l.toArray Q fuel listed (Fr n (gY (Sof listed) 0 l (V.map (· g)) s0) ds) w:=by
  intro fuel
  have fin:∀ (listed:Array Bool) (g:Γ) (w:World),listed.size=l.length->(∀ i,i<l.length->Sof listed i=true)->M (mem.countP (Sof listed)) g w->Q .normal (Fr n (gY (Sof listed) 0 l (V.map (· g)) s0) ds) w:=by
   intro listed g w hs hall hM
   have e1:mem.countP (Sof listed)=mem.length:=List.countP_eq_length.2 fun m hm' => hall m (by simpa using of_decide_eq_true (zz.1 hmlt m hm'))
   rw[e1]at hM
   have e2:Fr n (gY (Sof listed) 0 l (V.map (· g)) s0) ds=Fr n (sE g) ds:=by
    rw[<-hE g]
    refine th ds fun t=>?_
    rw[kU,kU]
    congr 1
    refine rR l 0 _ _ rfl fun j o hj _=>⟨?_,fun _=>rfl⟩
    rw[jF]
    exact hall j (zb.1 hj).1
   rw[e2]
   exact hend g w hM
  have allOf:∀ (listed:Array Bool),listed.size=l.length->Region.ready .any l.toArray listed=[]->∀ i,i<l.length->Sof listed i=true:=by
   intro listed hs hr i
   induction i using Nat.strongRecOn with
   | _ i ih =>
    intro hi
    cases hc:Sof listed i with
    | true=>rfl
    | false =>
     exfalso
     have:i∈Region.ready .any l.toArray listed:=by
      rw[mem_ready]
      refine⟨?_,l[i],by simp[hi],fun e he hb=>?_⟩
      . have:i<listed.size:=by omega
        simp only[Sof]at hc
        simp[this]at hc ⊢
        exact hc
      . have h1:=zz.1 hacy i (ni.2 hi)
        rw[zo hi]at h1
        simp only[Option.all_some,zz]at h1
        have h2:=h1 e (by simpa using he)
        rw[hb,Bool.not_true,Bool.false_or,decide_eq_true_eq]at h2
        exact ih e.on h2 o_
     rw[hr]at this
     cases this
  induction fuel with
  | zero =>
   intro listed g w hs hc hd hM
   have hz:∀ x∈listed.toList,x=true:=by
    intro x hx
    have:=AL.1 (Nat.le_zero.1 hc) x hx
    simpa using this
   have hall:∀ i,i<l.length->Sof listed i=true:=by
    intro i hi
    have hi' : i<listed.size:=by omega
    simp only[Sof]
    simp[hi']
    exact hz _ s_
   refine⟨?_,fin listed g w hs hall hM⟩
   cases hr:Region.ready .any l.toArray listed with
   | nil=>rfl
   | cons i rs =>
    have:i∈Region.ready .any l.toArray listed:=by rw[hr];simp
    rw[mem_ready]at this
    obtain⟨h1,o,ho,_⟩:=this
    have hi:i<l.length:=by simpa using(z8.1 ho).1
    have:=hall i hi
    simp only[Sof]at this
    have hi' : i<listed.size:=by omega
    simp[hi']at h1 this
    rw[h1]at this
    cases this
  | succ fuel ih =>
   intro listed g w hs hc hd hM
   refine⟨fun hr=>fin listed g w hs (allOf listed hs hr) hM,fun i hi=>?_⟩
   obtain⟨hun,o,ho,hed⟩:=mem_ready.1 hi
   have ho' : l[i]? = some o:=by simpa using ho
   have hil:i<l.length:=(zb.1 ho').1
   have hil' : i<listed.size:=by omega
   have hSi:Sof listed i=false:=by
    simp only[Sof];simp[hil']at hun ⊢;exact hun
   -- the set behind it
   let S:=Sof listed
   let S' := Sof (listed.setIfInBounds i true)
   have hSi:S i=false:=hSi
   have hd:Down l S:=hd
   have hS' : ∀ j,S' j=(S j||j==i):=fun j=>H6 listed i j hil'
   have hd' : Down l S' := ⟨fun j oj hj hSj e he hb=>by
    rw[hS']at hSj ⊢
    rcases rO.1 hSj with h|h
    . rw[show S e.on=true from hd.closed j oj hj h e he hb];rfl
    . have:j=i:=by simpa using h
      subst this
      have:oj=o:=Option.some.inj (hj.symm.trans ho')
      subst this
      rw[show S e.on=true from hed e he hb];rfl⟩
   have hps:=fun j=>DI (S:=S) hpre hd j
   have hps' := fun j=>DI (S:=S') hpre hd' j
   -- what waits for i has not come up
   have notYet:∀ k,k<l.length->(pre.getD k []).contains i=true->S k=false:=by
    intro k hk hki
    cases hSk:S k with
    | false=>rfl
    | true=>have:=hps k hSk hk i hki;rw[hSi]at this;cases this
   -- what i waits for has
   have ow:∀ k,(pre.getD i []).contains k=true->S k=true:=by
    intro k hk
    have h1:=hps' i (by rw[hS'];simp) hil k hk
    rw[hS']at h1
    rcases rO.1 h1 with h|h
    . exact h
    . exfalso
      have e:k=i:=by simpa using h
      subst e
      have:=notYet k hil hk
      -- k is in fP own list: then it has come up before itself
      have h2:=zz.1 (zz.1 hpre k (ni.2 hil)) k (by simpa using hk)
      rw[zo hil]at h2
      simp only[Option.any_some,FZ,zt,decide_eq_true_eq,wI,beq_iff_eq]at h2
      obtain⟨e,he,⟨hb,hlt⟩,h3⟩:=h2
      have hSe:S e.on=true:=by
       have:l[k]=o:=by rw[zo hil]at ho'; exact Option.some.inj ho'
       rw[this]at he
       exact hed e (by simpa using he) hb
      rcases h3 with h3|h3
      . omega
      . have:=hps e.on hSe o_ k (by simpa using h3)
        rw[hSi]at this;cases this
   -- the slots that it looks at hold what they hold in the order of the text
   have agree:∀ t,t∈o.looksAt l.toArray->look (gY S 0 l (V.map (· g)) s0) t=look (gY (fun j=>decide (j<i)) 0 l (V.map (· g)) s0) t:=by
    intro t ht
    rw[kU,kU]
    congr 1
    refine rR l 0 _ _ rfl fun j oj hj hdj=>⟨?_,fun _=>rfl⟩
    rw[jF]
    have htou:kH l.toArray oj o=true:=by simp[kH,hdj,ht]
    rcases vg j i with h|h|h
    . simp[h,ow j (oD j i oj o hj ho' h (.inl htou))]
    . subst h;simp[hSi,S]
    . have:=notYet j (zb.1 hj).1 (oD i j o oj ho' hj h (.inr (.inl htou)))
      simp[this];omega
   have hev:execOp (ev n (gY S 0 l (V.map (· g)) s0)) o=execOp (ev n (gY (fun j=>decide (j<i)) 0 l (V.map (· g)) s0)) o:=by
    refine execOp_congr o (fun cs b e=>?_) fun x hx=>?_
    . have:=zz.1 hsel o (ze ho')
      rw[e]at this
      simp[s4]at this
    . cases x with
      | tmp t =>
       simp only[ev]
       rw[agree t (uO _ (CD.2 ⟨.tmp t,by simpa using hx,rfl⟩))]
      | _=>rfl
   have htk:gy l.toArray n (gY S 0 l (V.map (· g)) s0) o.guard=gy l.toArray n (gY (fun j=>decide (j<i)) 0 l (V.map (· g)) s0) o.guard:=by
    cases hg:o.guard with
    | none=>rfl
    | some gd =>
     obtain⟨jg,want⟩:=gd
     simp only[gy]
     have e:r7 l.toArray.toList jg=(l.toArray[jg]?).bind (·.dst):=by rw[DQ];simp
     rw[e]
     cases hdg:(l.toArray[jg]?).bind (·.dst)with
     | none=>rfl
     | some d =>
      simp only[ev]
      rw[agree d (wu _ (by rw[hg];simp only;rw[hdg];simp))]
   -- the frame behind it
   have hcnt:(listed.setIfInBounds i true).toList.countP (! ·)<=fuel:=by
    have:(listed.setIfInBounds i true).toList.countP (! ·)+1<=listed.toList.countP (! ·):=by
     rw[FO]
     have hil2:i<listed.toList.length:=by simpa using hil'
     have hfalse:listed.toList[i]=false:=by simp[hil']at hun;simpa using hun
     have e:=yV i listed.toList
     have e2:listed.toList=listed.toList.take i++false :: listed.toList.drop (i+1):=by
      conv=>lhs;rw[<-e,x8 hil2,hfalse]
     have e3:listed.toList.set i true=listed.toList.take i++true :: listed.toList.drop (i+1):=by
      rw[FU,if_pos hil2]
     rw[e3]
     conv=>rhs;rw[e2]
     simp[List.countP_append,u5]
     omega
    omega
   have frame:∀ (g' : Γ) (v:Γ->Value),V[i]? = some v->(∀ k u,V[k]? = some u->S k=true->u g' = u g) ->
    (Fr n (gY S 0 l (V.map (· g)) s0) ds).put o.dst (v g')=Fr n (gY S' 0 l (V.map (· g')) s0) ds:=by
    intro g' v hv hst
    rw[vK]
    refine th ds fun t=>?_
    rw[Dx,kU,kU]
    by_cases hdt:o.dst=some t
    . rw[if_pos hdt]
      have:mK S' t 0 l (V.map (· g'))=some (v g'):=by
       refine DL l 0 i _ o (v g') ho' hdt (by simp[hv]) (by rw[jF,hS'];simp) fun j oj hij hj hdj=>?_
       rw[jF,hS']
       have hto:kH l.toArray o oj=true:=by simp[kH,hdt,hdj]
       have:=notYet j (zb.1 hj).1 (oD i j o oj ho' hj hij (.inl hto))
       simp[this];omega
      rw[this];rfl
    . rw[if_neg hdt]
      congr 1
      refine rR l 0 _ _ s_ fun j oj hj hdj=>?_
      rw[jF,hS']
      have hji:¬ j=i:=by
       rintro rfl
       have:oj=o:=Option.some.inj (hj.symm.trans ho')
       subst this
       exact hdt hdj
      refine⟨by simp[hji],fun hSj=>?_⟩
      have hjl:j<V.length:=by have:=(zb.1 hj).1;omega
      simp only[kX,zo hjl,oE]
      rw[hst j _ (zo hjl) hSj]
   obtain⟨v,hv,hob⟩:=hget i o ho'
   unfold wpOpIn
   rw[ho]
   simp only
   by_cases himem:i∈mem
   . -- an operation on memory
     have hcon:mem.contains i=true:=by simpa using himem
     rw[hcon]at hob
     have hord:∀ m∈mem,(m<i->S m=true)/\(i<m->S m=false):=by
      intro m hm'
      have hml:m<l.length:=of_decide_eq_true (zz.1 hmlt m hm')
      exact⟨fun h=>ow m (oD m i _ o (zo hml) ho' h (.inr (.inr ⟨hm', himem⟩))),
       fun h=>notYet m hml (oD i m o _ ho' (zo hml) h (.inr (.inr ⟨himem,hm'⟩)))⟩
     obtain⟨c1,c2⟩:=R1 (S:=S) mem hpw himem (fun m hm' h=>(hord m hm').1 h) hSi (fun m hm' h=>(hord m hm').2 h)
     have c2' : mem.countP S' = mem.idxOf i+1:=by rw[<-c2];exact List.countP_congr fun j _=>by rw[hS']
     have hM' : M (mem.idxOf i) g w:=by rw[<-c1];exact hM
     have next:∀ v' w', (∃ g', M (mem.idxOf i+1) g' w' /\ v' = v g' /\ jD pre i g g' 0 V) ->
      wpAnyIn (FW r) 0 P .any l.toArray Q fuel (listed.setIfInBounds i true) ((Fr n (gY S 0 l (V.map (· g)) s0) ds).put o.dst v') w' := by
      rintro v' w' ⟨g', hM2,rfl,hstab⟩
      have:=ih (listed.setIfInBounds i true) g' w' (by simpa using hs) hcnt hd' (by rw[show mem.countP (Sof (listed.setIfInBounds i true))=mem.idxOf i+1 from c2'];exact hM2)
      rw[frame g' v hv ?_]
      . exact this
      . intro k u hk hSk
        refine jD.get V 0 hstab k u hk ?_
        rw[jF]
        have hkl:k<l.length:=by have:=(zb.1 hk).1;omega
        have h1:(pre.getD k []).contains i=false:=by
         cases h:(pre.getD k []).contains i with
         | false=>rfl
         | true=>have:=notYet k hkl h;rw[hSk]at this;cases this
        have h2:¬ k=i:=by rintro rfl;rw[hSi]at hSk;cases hSk
        rw[h1];simp[h2]
     rcases hob g w hM' with ⟨ht,hnd,hcase⟩|⟨ht,hN⟩
     . rw[nW,htk,ht,if_pos rfl]
       refine⟨fun _ _=>trivial,?_⟩
       rw[semAt_eq (uc hnd),qn, hev]
       rcases hcase with ⟨v', w', hr,hN⟩|⟨w', hr,hN⟩|⟨f,args,hr,hC⟩
       . rw[hr];exact next v' w' hN
       . rw[hr];exact next undef w' hN
       . rw[hr]
         refine⟨fun h=>by simp[FW]at h,rV.2 (Calls.mono hC ?_)⟩
         intro e w' he
         cases e with
         | returned v' => exact next v' w' he
         | panicked ch =>
          refine he _ fun t ht' => ?_
          rw[kU,wY l 0 _ (fun j oj hj hdj=>absurd hdj (ht' oj (ze hj)))]
          rfl
         | outgrown=>exact he
     . rw[nW,htk,ht]
       exact⟨fun _ _=>trivial,next undef w hN⟩
   . have hcon:mem.contains i=false:=by simpa using himem
     rw[hcon]at hob
     have hc' : mem.countP S' = mem.countP S:=by
      refine List.countP_congr fun j hj=>?_
      rw[hS']
      have:¬ j=i:=by rintro rfl;exact himem hj
      simp[this]
     have hlo:u9 pre mem i<=mem.countP S:=List.countP_mono_left fun m _ h=>ow m h
     have hhi:mem.countP S<=uS pre mem i:=List.countP_mono_left fun m hm' h=>by
      have hml:m<l.length:=of_decide_eq_true (zz.1 hmlt m hm')
      cases h2:(pre.getD m []).contains i with
      | false=>rfl
      | true=>have:=notYet m hml h2;rw[h]at this;cases this
     have next:∀ w', M (mem.countP S) g w' -> wpAnyIn (FW r) 0 P .any l.toArray Q fuel (listed.setIfInBounds i true) ((Fr n (gY S 0 l (V.map (· g)) s0) ds).put o.dst (v g)) w' := by
      intro w' hM2
      have:=ih (listed.setIfInBounds i true) g w' (by simpa using hs) hcnt hd' (by rw[show mem.countP (Sof (listed.setIfInBounds i true))=mem.countP S from hc'];exact hM2)
      rw[frame g v hv (fun _ _ _ _=>rfl)]
      exact this
     rcases hob (mem.countP S) g w hlo hhi hM with ⟨ht,hnd,hcase⟩|⟨ht,hN⟩
     . rw[nW,htk,ht,if_pos rfl]
       refine⟨fun _ _=>trivial,?_⟩
       rw[semAt_eq (uc hnd),qn, hev]
       rcases hcase with hr|⟨f,args,hr,hC⟩
       . rw[hr];exact next w hM
       . rw[hr]
         refine⟨fun h=>by simp[FW]at h,rV.2 (Calls.mono hC ?_)⟩
         rintro e w' ⟨v', rfl,rfl,hC'⟩
         exact next w' hC'
     . rw[nW,htk,ht]
       exact⟨fun _ _=>trivial,by rw[<-hN];exact next w hM⟩
 have e0:Fr n s0 ds=Fr n (gY (Sof (Array.replicate l.toArray.size false)) 0 l (V.map (· g0)) s0) ds:=by
  refine th ds fun t=>?_
  rw[kU,wY l 0 _ (fun j o _ _=>?_)]
  . rfl
  . simp only[Sof];exact vI _ _
 have hz:mem.countP (Sof (Array.replicate l.toArray.size false))=0:=AL.2 fun j _=>by
  simp only[Sof];rw[vI];simp
 rw[e0]
 refine main _ _ g0 _ s_ (z1 La s_) ⟨fun j o _ h=>?_⟩ (by rw[hz];exact h0)
 exfalso
 simp only[Sof]at h
 rw[vI]at h
 cases h
end
end Go.Sx
namespace Go.Sx
open Go
section
variable {r:Option Nat} {P:Program} {ops:Array Oper} {Q:Exit->Act->World->Prop} {rest:List Oper} {n:Nat} {s:List (Nat×Value)} {ds:List Deferred} {w w' : World}
variable {d:Nat} {dd:Option Nat} {ty:TypeId} {pos:String} {af:Array Edge} {g:Option (Nat×Bool)} {v u:Value} {x y:Operand} {bs:List (World×List Nat)} {L L' : List gh} {t e:TypeId} {sz by_ m cnt:Nat} {z:Value} {xs news:List Value}
theorem Jz{b o:Nat}{T:TypeId}{cs cs' vs:List Value}(i:Nat)(hx:ev n s x = .pointer (some ⟨b,o,none⟩))(hy:ev n s y=v)(hvs:v.cells.toList=vs)
 (ht:TI P t sz by_ z) (hsz:vs.length=sz) (h1:vs.all (·.oneCell')=true) (hst:St bs L w) (hi:L[i]? = some (blk b T cs)) (hfit:o+vs.length<=cs.length)
 (hcs:setAt cs o vs=cs') (hL:L.set i (blk b T cs')=L') :
 ∃ w', (execOp (ev n s) ⟨dd,.store t x y,ty,pos,af,g⟩).run P w = .ok .skip w' /\ St bs L' w' /\ gB [b] w w' := by
 have hh:=hst.Eb hi
 have hrun:=run_storeCells_at P b o T vs 0 cs.toArray w hh (by simpa using hfit) (by simpa using h1)
 have hlen:v.cells.size=sz:=by rw[<-hsz,<-hvs];simp
 refine⟨w.setRow b (cs'.toArray),?_,?_,gB.setRow w b _⟩
 . simp only[execOp,hx,hy,Instr.storeAt,Instr.sureAddr,storeVar,zj,zm,zd,ht.size,hlen,ne_eq,not_true,if_false,hvs]
   subst hcs
   simp only[nF]at hrun
   simp[hrun,setAt]
 . subst hL
   refine hst.iF hi (gB.setRow w b _) (fun c hc=>.inl hc) (by simp[blk]) (fun c hc=>?_) (setRow_heap w b cs.toArray cs'.toArray T (0,0) hh)
   simp only[blk,mj]at hc
   subst hc
   simpa using(z8.1 hh).1
theorem me{b o:Nat}{T:TypeId}{cs cs' vs:List Value}(i:Nat)(hg:gy ops n s g=true)(hx:ev n s x = .pointer (some ⟨b,o,none⟩))(hy:ev n s y=v)(hvs:v.cells.toList=vs)
 (ht:TI P t sz by_ z) (hsz:vs.length=sz) (h1:vs.all (·.oneCell')=true) (hst:St bs L w) (hi:L[i]? = some (blk b T cs)) (hfit:o+vs.length<=cs.length)
 (hcs:setAt cs o vs=cs') (hL:L.set i (blk b T cs')=L')
 (K:∀ w', St bs L' w' -> gB [b] w w' -> WL r P ops Q rest (Fr n s ds) w'):WL r P ops Q (⟨none,.store t x y,ty,pos,af,g⟩ :: rest) (Fr n s ds) w:=by
 obtain⟨w', h2,h3,h4⟩:=Jz (dd:=none) (ty:=ty) (pos:=pos) (af:=af) (g:=g) i hx hy hvs ht hsz h1 hst hi hfit hcs hL
 exact zQ hg rfl h2 (K w' h3 h4)
theorem vM{T e:TypeId}{k:IntKind}{b o o' m:Nat}{i:Int}(hx:ev n s x = .pointer (some ⟨b,o,none⟩))(hy:ev n s y = .int k i)(hT:P.underlying T=some (.array m e))
 (ht:TI P e sz by_ z) (h0:0<=i/\i<m) (ho:o+i.toNat*sz=o') :
 (execOp (ev n s) ⟨dd,.indexAddr T x y,ty,pos,af,g⟩).run P w = .ok (.value (.pointer (some ⟨b,o', none⟩))) w:=by
 subst ho
 simp only[execOp,hx,hy,Instr.indexAt,run_underlying hT,asIntOf,zj,zm,zd,Instr.sureAddr]
 simp[h0,ht.size,Addr.add_lit]
theorem mA{T e:TypeId}{k:IntKind}{b o o' m:Nat}{i:Int}(hg:gy ops n s g=true)(hx:ev n s x = .pointer (some ⟨b,o,none⟩))(hy:ev n s y = .int k i)(hT:P.underlying T=some (.array m e))
 (ht:TI P e sz by_ z) (h0:0<=i/\i<m) (ho:o+i.toNat*sz=o') (K:WL r P ops Q rest (Fr n ((d,.pointer (some ⟨b,o', none⟩)) :: s) ds) w) :
 WL r P ops Q (⟨some d,.indexAddr T x y,ty,pos,af,g⟩ :: rest) (Fr n s ds) w:=pv hg rfl (vM hx hy hT ht h0 ho) K
theorem xH{ps:List (Nat×Operand)}{pvs:List (Nat×Value)}(hp:ps.map (fun q=>(q.1,ev n s q.2))=pvs)(hb:∀ w,(Instr.build t pvs.toArray).run P w = .ok v w) :
 (execOp (ev n s) ⟨dd,.build t ps.toArray,ty,pos,af,g⟩).run P w = .ok (.value v) w:=by
 have:(ps.toArray.map fun(i,x)=>(i,ev n s x))=pvs.toArray:=by rw[<-hp];simp
 simp only[execOp,this,zj,hb,zd,zm]
theorem kf{ps:List (Nat×Operand)}{pvs:List (Nat×Value)}(hg:gy ops n s g=true)(hp:ps.map (fun q=>(q.1,ev n s q.2))=pvs)(hb:∀ w,(Instr.build t pvs.toArray).run P w = .ok v w)
 (K:WL r P ops Q rest (Fr n ((d,v) :: s) ds) w):WL r P ops Q (⟨some d,.build t ps.toArray,ty,pos,af,g⟩ :: rest) (Fr n s ds) w:=pv hg rfl (xH hp hb) K
theorem Vp{a:Option Addr}{m c:Nat}{t' : TypeId}(hx:ev n s x = .slice a m c)(hy:ev n s y = .slice none 0 0)(ht:P.underlying t=some (.slice e)) :
 (execOp (ev n s) ⟨dd,.binOp .eql t x y t', ty,pos,af,g⟩).run P w = .ok (.value (.bool a.isNone)) w:=by
 have h:=Lib.run_eql_slice_nil (P:=P) w t e a m c 0 0 ht
 simp[execOp,hx,hy,eqGuard,h]
theorem XH{a:Option Addr}{m c:Nat}{t' : TypeId}(hg:gy ops n s g=true)(hx:ev n s x = .slice a m c)(hy:ev n s y = .slice none 0 0)(ht:P.underlying t=some (.slice e))
 (K:WL r P ops Q rest (Fr n ((d,.bool a.isNone) :: s) ds) w):WL r P ops Q (⟨some d,.binOp .eql t x y t', ty,pos,af,g⟩ :: rest) (Fr n s ds) w:=pv hg rfl (Vp hx hy ht) K
theorem NN (hst:St bs L w)(e:TypeId)(sz len:Nat)(cs:List Value)(hl:cs.length=len*sz)(h63:len<=maxLen) :
 St bs (row (.slice (some ⟨w.heap.size,0,none⟩) len len) e sz len cs :: L) (w.alloc (.cells cs.toArray e)) :=
 hst.q5 (gB.alloc [] w _) (fun b hb=>by simp[row,Value.ownBlock]at hb;omega) (by simp[row,Value.ownBlock]) (fun b hb=>by simp[row,Value.ownBlock]at hb;simp;omega)
  ⟨hl,.inr ⟨w.heap.size,len,cs.toArray,rfl,oG _,heap_alloc_new w _,zp _,h63,by simp[hl],by simp[<-hl]⟩⟩
theorem JM{len:Nat}{ps:List (Nat×Operand)}{pvs:List (Nat×Value)}{cs:List Value}(hp:ps.map (fun q=>(q.1,ev n s q.2))=pvs)(ht:P.underlying t=some (.slice e))(hi:TI P e sz by_ z)
 (hc:Instr.fill (fun i=>some (i*sz,sz)) ((Array.range (len*sz)).map (z.cells[· % z.cells.size]!)) pvs=some cs.toArray) (hsmall:len*sz<=16777216) :
 (execOp (ev n s) ⟨dd,.buildSlice t len ps.toArray,ty,pos,af,g⟩).run P w = .ok (.value (.slice (some ⟨w.heap.size,0,none⟩) len len)) (w.alloc (.cells cs.toArray e)):=by
 have h1:(ps.toArray.map fun(i,x)=>(i,ev n s x))=pvs.toArray:=by rw[<-hp];simp
 have h2:¬ len*sz>2 ^ 24:=by simp;omega
 simp only[execOp,h1,Instr.buildSlice,zj,run_underlying ht,zd,hi.size,zm]
 rw[if_neg h2]
 by_cases h0:len*sz=0
 . simp only[h0,if_true,zj,zm,zd]
   rw[h0]at hc
   have hc' : Instr.fill (fun i=>some (i*sz,sz)) ((Array.range 0).map ((#[]:Array Value)[· % (#[]:Array Value).size]!)) pvs=some cs.toArray:=by
    rw[<-hc];simp[Array.range_zero']
   simp only[hc', zj,zm,zd]
   rfl
 . simp only[h0,if_false,zj,hi.s6,zm,zd,hc]
   rfl
theorem bsl{len:Nat}{ps:List (Nat×Operand)}{pvs:List (Nat×Value)}{cs:List Value}(hg:gy ops n s g=true)(hp:ps.map (fun q=>(q.1,ev n s q.2))=pvs)(ht:P.underlying t=some (.slice e))(hi:TI P e sz by_ z)
 (hc:Instr.fill (fun i=>some (i*sz,sz)) ((Array.range (len*sz)).map (z.cells[· % z.cells.size]!)) pvs=some cs.toArray) (hl:cs.length=len*sz) (hsmall:Nat.ble (len*sz) 16777216=true) (h63:Nat.ble len 16777216=true) (hst:St bs L w)
 (K:∀ b w', w.heap.size<=b->gB [] w w' -> St bs (row (.slice (some ⟨b,0,none⟩) len len) e sz len cs :: L) w' -> WL r P ops Q rest (Fr n ((d,.slice (some ⟨b,0,none⟩) len len) :: s) ds) w') :
 WL r P ops Q (⟨some d,.buildSlice t len ps.toArray,ty,pos,af,g⟩ :: rest) (Fr n s ds) w :=
 pv hg rfl (JM hp ht hi hc (za hsmall)) (K _ _ (zp _) (gB.alloc [] w _) (NN hst e sz len cs hl (by have:=za h63;simp only[maxLen];omega)))
def idx:Nat->List Value->List (Nat×Value)
 | _,[]=>[]
 | i,v :: vs=>(i,v) :: idx (i+1) vs
theorem Mb(off:Nat):∀ (l:List Value) (j0:Nat) (arr:Array Value),off+j0+l.length<=arr.size ->
 (l.zipIdx j0).foldl (fun cs (q:Value×Nat)=>cs.setIfInBounds (off+q.2) q.1) arr=(arr.toList.take (off+j0)++l++arr.toList.drop (off+j0+l.length)).toArray:=by
 intro l
 induction l with
 | nil=>intro j0 arr _;simp
 | cons c l ih =>
  intro j0 arr h
  simp only[List.zipIdx_cons,CC]
  rw[ih (j0+1) _ (by simp at h ⊢;omega)]
  simp only[zk]at h
  have hlt:off+j0<arr.toList.length:=by simp;omega
  congr 1
  rw[FO,FU,if_pos hlt]
  have e1:(arr.toList.take (off+j0)++c :: arr.toList.drop (off+j0+1)).take (off+(j0+1))=arr.toList.take (off+j0)++[c]:=by
   rw[Bi,l5,CU o_,show off+(j0+1)-(off+j0)=1 by omega,sL (by simp;omega)]
   simp
  have e2:(arr.toList.take (off+j0)++c :: arr.toList.drop (off+j0+1)).drop (off+(j0+1)+l.length)=arr.toList.drop (off+j0+(l.length+1)):=by
   rw[C2,l5,CU o_,Gr (by simp;omega),show off+(j0+1)+l.length-(off+j0)=l.length+1 by omega]
   simp only[nC,List.drop_succ_cons,List.drop_drop]
   congr 1;omega
  rw[e1,e2]
  simp
theorem MN(sz:Nat):∀ (vs:List Value) (k:Nat) (arr:Array Value),(∀ v∈vs,v.cells.size=sz)->k*sz+vs.length*sz<=arr.size ->
 Instr.fill (fun i=>some (i*sz,sz)) arr (idx k vs)=some (arr.toList.take (k*sz)++vs.flatMap (·.cells.toList)++arr.toList.drop (k*sz+vs.length*sz)).toArray:=by
 intro vs
 induction vs with
 | nil=>intro k arr _ _;simp[idx,Instr.fill]
 | cons v vs ih =>
  intro k arr hs hl
  have hv:=hs v s_
  simp only[zk,ot,Nat.one_mul]at hl
  simp only[idx,Instr.fill,hv]
  rw[if_neg (by simp;omega)]
  have hf:=Mb (k*sz) v.cells.toList 0 arr (by simp[hv];omega)
  have hz:Array.foldl (fun cs (q:Value×Nat)=>cs.setIfInBounds (k*sz+q.2) q.1) arr v.cells.zipIdx=(arr.toList.take (k*sz)++v.cells.toList++arr.toList.drop (k*sz+sz)).toArray:=by
   rw[<-Array.foldl_toList,Array.toList_zipIdx]
   simp only[nF,tH,hv]at hf
   exact hf
  rw[show (Array.foldl (fun cs (x:Value×Nat)=>match x with|(c,j)=>cs.setIfInBounds (k*sz+j) c) arr v.cells.zipIdx)=_ from hz]
  have hvl:v.cells.toList.length=sz:=by simp[hv]
  rw[ih (k+1) _ (fun u hu=>hs u (by simp[hu])) (by simp[hvl,ot];omega)]
  congr 2
  simp only[List.toList_toArray,ot,Nat.one_mul,lu,zk]
  have e1:(arr.toList.take (k*sz)++v.cells.toList++arr.toList.drop (k*sz+sz)).take (k*sz+sz)=arr.toList.take (k*sz)++v.cells.toList:=by
   rw[Bi,sL (by simp[hvl];omega)]
   simp[hvl];omega
  have e2:(arr.toList.take (k*sz)++v.cells.toList++arr.toList.drop (k*sz+sz)).drop (k*sz+sz+vs.length*sz)=arr.toList.drop (k*sz+(vs.length*sz+sz)):=by
   rw[C2,Gr (by simp[hvl];omega)]
   simp only[zn,l5,tH,hvl,nC,List.drop_drop]
   congr 1;omega
  rw[e1,e2]
  simp
theorem lC{len:Nat}{ps:List (Nat×Operand)}{vs cs:List Value}(hg:gy ops n s g=true)(hp:ps.map (fun q=>(q.1,ev n s q.2))=idx 0 vs)(ht:P.underlying t=some (.slice e))(hi:TI P e sz by_ z)
 (hlen:vs.length=len) (hv:∀ v∈vs,v.cells.size=sz) (hcs:vs.flatMap (·.cells.toList)=cs) (hsmall:Nat.ble (len*sz) 16777216=true) (h63:Nat.ble len 16777216=true) (hst:St bs L w)
 (K:∀ b w', w.heap.size<=b->gB [] w w' -> St bs (row (.slice (some ⟨b,0,none⟩) len len) e sz len cs :: L) w' -> WL r P ops Q rest (Fr n ((d,.slice (some ⟨b,0,none⟩) len len) :: s) ds) w') :
 WL r P ops Q (⟨some d,.buildSlice t len ps.toArray,ty,pos,af,g⟩ :: rest) (Fr n s ds) w:=by
 subst hlen hcs
 have hfl:(vs.flatMap (·.cells.toList)).length=vs.length*sz:=by
  clear hp hsmall h63 K
  induction vs with
  | nil=>simp
  | cons v vs ih=>simp only[lu,zn,zk,tH,hv v s_,ih (fun u hu=>hv u (by simp[hu])),ot];omega
 refine bsl hg hp ht hi ?_ hfl hsmall h63 hst K
 rw[MN sz vs 0 _ hv s_]
 simp
theorem RN(z0:Value)(k:Nat):madeCells #[z0] k=(List.replicate k z0).toArray:=by
 unfold madeCells
 apply Array.ext
 . simp
 . intro i h1 h2
   simp[Nat.mod_one]
theorem aaf{k k' : IntKind}{c m:Nat}(hx:ev n s x = .int k (m:Int))(hy:ev n s y = .int k' (c:Int))(ht:P.underlying t=some (.slice e))(hi:TI P e 1 by_ z)(hz:z.cells = #[z])(hm:m<=c)(hb:by_*c<=281474976710656)(h63:c<=9223372036854775807) :
 (execOp (ev n s) ⟨dd,.makeSlice t x y,ty,pos,af,g⟩).run P w = .ok (.value (.slice (some ⟨w.heap.size,0,none⟩) m c)) (w.alloc (.cells (List.replicate c z).toArray e)):=by
 obtain⟨i,hii,h1,h2,h3⟩:=hi.get
 subst h2
 have hr:=run_make (P:=P) w t e i z ht hii h3 k k' m c o_ o_ (by rw[<-Int.natCast_mul];omega) o_
 rw[hz,h1,Nat.mul_one]at hr
 simp only[ua]at hr
 rw[RN]at hr
 simp only[execOp,hx,hy,zj,hr,zd,zm]
theorem mks{k k' : IntKind}{c m:Nat}(hg:gy ops n s g=true)(hx:ev n s x = .int k (m:Int))(hy:ev n s y = .int k' (c:Int))(ht:P.underlying t=some (.slice e))(hi:TI P e 1 by_ z)(hz:z.cells = #[z])(hm:m<=c)(hb:by_*c<=281474976710656)(h63:c<=9223372036854775807)(hst:St bs L w)
 (K:∀ b w', w.heap.size<=b->gB [] w w' -> St bs (blk b e (List.replicate c z) :: L) w' -> WL r P ops Q rest (Fr n ((d,.slice (some ⟨b,0,none⟩) m c) :: s) ds) w') :
 WL r P ops Q (⟨some d,.makeSlice t x y,ty,pos,af,g⟩ :: rest) (Fr n s ds) w :=
 pv hg rfl (aaf hx hy ht hi hz hm hb h63) (K _ _ (zp _) (gB.alloc [] w _) (xD hst e _))
theorem St.Pq{i b:Nat}{cs:List Value}{m c sz:Nat}(h:St bs L w)(hi:L[i]? = some (blk b e cs))(hl:cs.length=c*sz)(hm:m<=c)(hc:c<=maxLen) :
 St bs (L.set i (row (.slice (some ⟨b,0,none⟩) m c) e sz m (cs.take (m*sz)))) w:=by
 have hh:=h.Eb hi
 refine h.iF hi (gB.refl _ _) (fun x hx=>.inl (by simpa[row,Value.ownBlock,blk]using hx)) (by simp[row,Value.ownBlock]) (fun x hx=>?_) ?_
 . simp[row,Value.ownBlock]at hx
   subst hx
   exact(z8.1 hh).1
 . refine⟨by simp[hl];rw[<-Nat.mul_min_mul_right,CU (wL _ hm)],.inr ⟨b,c,cs.toArray,rfl,oG _,hh,hm,hc,by simp[hl],s_⟩⟩
theorem St.XV{i:Nat}(h:St bs L w)(hi:L[i]? = some (row v e sz m xs)):Src w v sz m xs:=by
 have hown:w.ownsRow 0 e sz v m xs:=h.own _ (ze hi)
 rcases hown.2 with ⟨rfl,rfl⟩|⟨g', cap,cur,rfl,_⟩
 . exact⟨none,0,rfl,hown.1,fun j x hj=>by have:=hown.1;simp at this;subst this;simp at hj⟩
 . exact⟨some ⟨g', 0,none⟩,cap,rfl,hown.1,fun j x hj=>⟨_,rfl,hown.cells rfl j x hj⟩⟩
theorem St.WK{i:Nat}{k:IntKind}{ys:List Int}(h:St bs L w)(hi:L[i]? = some (row v e 1 ys.length (ys.map (.int k))))(hk:∀ y∈ys,ij k y):Ints k (fun b=>b∈iT L) w v ys:=by
 have hown:w.ownsRow 0 e 1 v ys.length (ys.map (.int k)):=h.own _ (ze hi)
 rcases hown.2 with ⟨rfl,h0⟩|⟨g', cap,cur,rfl,_,hg,h1,h2,_⟩
 . have:ys=[]:=wS h0
   subst this
   exact Sl.nil _ _ _ _
 . refine⟨_,cap,rfl,h1,h2,fun j y hj=>⟨g', 0,[.int k y],rfl,qm hi (by simp[row,Value.ownBlock]),rfl,⟨rfl,hk y (ze hj)⟩,fun q u hq=>?_⟩⟩
   cases q with
   | zero =>
    simp at hq
    subst hq
    have:=hown.cells (g:=g') rfl j (.int k y) (by simp[hj])
    rw[Addr.add_lit]at this
    simpa using this
   | succ q=>simp at hq
end
section
variable {P:Program} {ops:Array Oper} {Q:Exit->Act->World->Prop} {n:Nat} {s s0:List (Nat×Value)} {ds:List Deferred} {w w' : World} {o:Oper} {v:Value} {C:World->Prop} {l:List Oper} {Nx:Value->World->Prop}
theorem qv(hg:gy ops n s o.guard=true)(hd:nr o.op=true)(h:(execOp (ev n s) o).run P w = .ok (.value v) w):mT P ops n o s v C w:=.inl ⟨hg,hd,.inl h⟩
theorem wB(hg:gy ops n s o.guard=true)(hd:nr o.op=true)(h:(execOp (ev n s) o).run P w = .ok (.value v) w')(hN:Nx v w'):lB P ops Q n ds s0 l o s Nx w:=.inl ⟨hg,hd,.inl ⟨v,w', h,hN⟩⟩
theorem A7(hg:gy ops n s o.guard=true)(hd:nr o.op=true)(h:(execOp (ev n s) o).run P w = .ok .skip w')(hN:Nx undef w'):lB P ops Q n ds s0 l o s Nx w:=.inl ⟨hg,hd,.inr (.inl ⟨w', h,hN⟩)⟩
theorem kD{f:FuncId}{args:Array Value}{R:Value->World->Prop}(hg:gy ops n s o.guard=true)(hd:nr o.op=true)(h:(execOp (ev n s) o).run P w = .ok (.enter f args) w)(hc:CR P f args w R)(hN:∀ v w', R v w' -> Nx v w'):lB P ops Q n ds s0 l o s Nx w :=
 .inl ⟨hg,hd,.inr (.inr ⟨f,args,h,Calls.mono hc (fun e w' ⟨v,he,hR⟩=>by subst he;exact hN v w' hR)⟩)⟩
variable {dd:Option Nat} {ty:TypeId} {pos:String} {af:Array Edge} {g:Option (Nat×Bool)}
theorem i6{f:FuncId}{az:List Operand}{T:Array TypeId}{vl:List Value}(hvs:az.map (ev n s)=vl)(he:gC P f) :
 (execOp (ev n s) ⟨dd,.call ⟨.value (.func f),az.toArray,T⟩,ty,pos,af,g⟩).run P w = .ok (.enter f vl.toArray) w:=by
 simp only[execOp,resolve,invoke,Deferred.ofValue,Bu, hvs]
 simp[ev,he _ _]
end
end Go.Sx
namespace Go.Sx
open Go
abbrev iB(k:IntKind)(v:Value)(e:TypeId)(ys:List Int):gh:=row v e 1 ys.length (ys.map (.int k))
section
variable {r:Option Nat} {P:Program} {ops:Array Oper} {Q:Exit->Act->World->Prop} {rest:List Oper} {n:Nat} {s:List (Nat×Value)} {ds:List Deferred} {w w' w0:World}
variable {d:Nat} {dd:Option Nat} {ty:TypeId} {pos:String} {af:Array Edge} {g:Option (Nat×Bool)} {v u:Value} {x y:Operand} {bs:List (World×List Nat)} {L L' : List gh} {t e:TypeId} {sz by_ m cnt:Nat} {z:Value} {k:IntKind} {ys zs:List Int}
theorem M1(k:IntKind)(zs:List Int):∀ x∈zs.map (Value.int k),x.oneCell' = true:=by
 intro x hx
 obtain⟨y,_,rfl⟩:=jW.1 hx
 rfl
theorem JU{LL:Value->List gh}(i:Nat)(hg:gy ops n s g=true)(hx:ev n s x=v)(hy:ev n s y=u)(ht:P.underlying t=some (.slice e))(hi:TI P e 1 by_ z)(hzs:z.cells.size=1)
 (hst:St bs L w) (hL:L[i]? = some (iB k v e ys)) (hs:Src w u 1 zs.length (zs.map (.int k))) (hb:(ys.length+zs.length)*by_<=140737488355328) (h63:ys.length+zs.length<=9223372036854775807)
 (hLL:∀ v', L.set i (iB k v' e (ys++zs))=LL v')
 (K:∀ v' w', St bs (LL v') w' -> gB v.ownBlock.toList w w' -> WL r P ops Q rest (Fr n ((d,v') :: s) ds) w') :
 WL r P ops Q (⟨some d,.call ⟨.builtin .append,#[x,y],#[t,t]⟩,ty,pos,af,g⟩ :: rest) (Fr n s ds) w:=by
 refine Ra i hg hx hy ht hi hzs d_ hst hL hs (M1 k zs) hb (by simp only[maxLen];omega) fun v' w' h1 h2=>K v' w' ?_ h2
 rw[<-hLL]
 simpa[iB]using h1
theorem St.OU(h:St bs L w)(e:TypeId)(sz:Nat):St bs (row (.slice none 0 0) e sz 0 [] :: L) w :=
 h.add (lo:=w.heap.size) (fun p hp=>(h.base p hp).gK.size) h.lt (fun b hb=>by simp[row,Value.ownBlock]at hb) (by simp[row,Value.ownBlock]) (fun b hb=>by simp[row,Value.ownBlock]at hb) (World.ownsRow_nil w 0 e sz)
end
end Go.Sx
namespace Go.Sx
open Go
section
variable {Γ:Type} {r:Option Nat} {P:Program} {ops:Array Oper} {Q:Exit->Act->World->Prop} {n:Nat} {ds:List Deferred} {s0:List (Nat×Value)} {l0 l:List Oper} {pre:List (List Nat)} {mem:List Nat} {V vs:List (Γ->Value)} {v:Γ->Value}
variable {bs:List (World×List Nat)} {Ls:List ((Γ->List gh)×(Γ->World->Prop))} {i lo:Nat} {s:Γ->List (Nat×Value)} {o:Oper} {L L' L1 L2:Γ->List gh} {F F' F1 F2:Γ->World->Prop}
def kg(bs:List (World×List Nat))(Ls:List ((Γ->List gh)×(Γ->World->Prop)))(p:Nat)(g:Γ)(w:World):Prop :=
 match Ls[p]? with
 | some (L,F)=>St bs (L g) w/\F g w
 | none=>False
theorem kg.at{p:Nat}(h:Ls[p]? = some (L,F)){g:Γ}{w:World}:kg bs Ls p g w↔(St bs (L g) w/\F g w):=by simp only[kg,h]
theorem jD.refl(g:Γ):∀ (V:List (Γ->Value)) (k:Nat),jD pre i g g k V:=by
 intro V
 induction V with
 | nil=>intro k;trivial
 | cons v V ih=>intro k;exact⟨by cases ((pre.getD k []).contains i||k==i)<;>simp,ih (k+1)⟩
theorem og:mq P ops Q n ds s0 l0 pre mem V (kg bs Ls) i s [] []:=trivial
theorem aaO(hm:mem.contains i=false)(h:∀ g w C,mT P ops n o (s g) (v g) C w)(K:mq P ops Q n ds s0 l0 pre mem V (kg bs Ls) (i+1) (fun g=>jJ o.dst (v g) (s g)) l vs) :
 mq P ops Q n ds s0 l0 pre mem V (kg bs Ls) i s (o :: l) (v :: vs):=by
 refine⟨?_,K⟩
 rw[hm]
 exact fun p g w _ _ _=>h g w _
theorem mT.congr{C C' : World->Prop}{s:List (Nat×Value)}{v:Value}{w:World}(hC:∀ w,C w->C' w)(h:mT P ops n o s v C w):mT P ops n o s v C' w:=by
 rcases h with ⟨h1,h2,h3|⟨f,args,h3,h4⟩⟩|h
 . exact .inl ⟨h1,h2,.inl h3⟩
 . exact .inl ⟨h1,h2,.inr ⟨f,args,h3,h4.mono fun v' w' h=>⟨h.1,hC w' h.2⟩⟩⟩
 . exact .inr h
theorem l9(hm:mem.contains i=false)(hlo:u9 pre mem i=lo)(hhi:uS pre mem i=lo)(hL:Ls[lo]? = some (L,F))
 (h:∀ g w,St bs (L g) w->F g w->mT P ops n o (s g) (v g) (fun w' => St bs (L g) w' /\ F g w') w) (K:mq P ops Q n ds s0 l0 pre mem V (kg bs Ls) (i+1) (fun g=>jJ o.dst (v g) (s g)) l vs) :
 mq P ops Q n ds s0 l0 pre mem V (kg bs Ls) i s (o :: l) (v :: vs):=by
 refine⟨?_,K⟩
 rw[hm]
 intro p g w h1 h2 hM
 obtain rfl:p=lo:=by omega
 have hM' := (kg.at hL).1 hM
 exact(h g w hM'.1 hM'.2).congr fun w' h=>(kg.at hL).2 h
theorem nL(hm:mem.contains i=false)(hlo:u9 pre mem i=lo)(hhi:uS pre mem i=lo+1)(hL:Ls[lo]? = some (L,F))(hL1:Ls[lo+1]? = some (L1,F1))
 (h:∀ g w,St bs (L g) w->F g w->mT P ops n o (s g) (v g) (fun w' => St bs (L g) w' /\ F g w') w) (h' : ∀ g w,St bs (L1 g) w->F1 g w->mT P ops n o (s g) (v g) (fun w' => St bs (L1 g) w' /\ F1 g w') w)
 (K:mq P ops Q n ds s0 l0 pre mem V (kg bs Ls) (i+1) (fun g=>jJ o.dst (v g) (s g)) l vs) :
 mq P ops Q n ds s0 l0 pre mem V (kg bs Ls) i s (o :: l) (v :: vs):=by
 refine⟨?_,K⟩
 rw[hm]
 intro p g w h1 h2 hM
 rcases(show p=lo\/p=lo+1 by omega)with rfl|rfl
 . have hM' := (kg.at hL).1 hM
   exact(h g w hM'.1 hM'.2).congr fun w' h=>(kg.at hL).2 h
 . have hM' := (kg.at hL1).1 hM
   exact(h' g w hM'.1 hM'.2).congr fun w' h=>(kg.at hL1).2 h
theorem vR(hm:mem.contains i=false)(hlo:u9 pre mem i=lo)(hhi:uS pre mem i=lo+2)(hL:Ls[lo]? = some (L,F))(hL1:Ls[lo+1]? = some (L1,F1))(hL2:Ls[lo+2]? = some (L2,F2))
 (h:∀ g w,St bs (L g) w->F g w->mT P ops n o (s g) (v g) (fun w' => St bs (L g) w' /\ F g w') w) (h' : ∀ g w,St bs (L1 g) w->F1 g w->mT P ops n o (s g) (v g) (fun w' => St bs (L1 g) w' /\ F1 g w') w)
 (h'' : ∀ g w,St bs (L2 g) w->F2 g w->mT P ops n o (s g) (v g) (fun w' => St bs (L2 g) w' /\ F2 g w') w)
 (K:mq P ops Q n ds s0 l0 pre mem V (kg bs Ls) (i+1) (fun g=>jJ o.dst (v g) (s g)) l vs) :
 mq P ops Q n ds s0 l0 pre mem V (kg bs Ls) i s (o :: l) (v :: vs):=by
 refine⟨?_,K⟩
 rw[hm]
 intro p g w h1 h2 hM
 rcases(show p=lo\/p=lo+1\/p=lo+2 by omega)with rfl|rfl|rfl
 . have hM' := (kg.at hL).1 hM
   exact(h g w hM'.1 hM'.2).congr fun w' h=>(kg.at hL).2 h
 . have hM' := (kg.at hL1).1 hM
   exact(h' g w hM'.1 hM'.2).congr fun w' h=>(kg.at hL1).2 h
 . have hM' := (kg.at hL2).1 hM
   exact(h'' g w hM'.1 hM'.2).congr fun w' h=>(kg.at hL2).2 h
theorem lB.mono{s:List (Nat×Value)}{w:World}{N N' : Value->World->Prop}(hN:∀ v w,N v w->N' v w)(h:lB P ops Q n ds s0 l0 o s N w):lB P ops Q n ds s0 l0 o s N' w:=by
 rcases h with ⟨h1,h2,⟨v,w', h3,h4⟩|⟨w', h3,h4⟩|⟨f,args,h3,h4⟩⟩|⟨h1,h2⟩
 . exact .inl ⟨h1,h2,.inl ⟨v,w', h3,hN _ _ h4⟩⟩
 . exact .inl ⟨h1,h2,.inr (.inl ⟨w', h3,hN _ _ h4⟩)⟩
 . refine .inl ⟨h1,h2,.inr (.inr ⟨f,args,h3,Calls.mono h4 fun e w' he=>?_⟩)⟩
   cases e with
   | returned v=>exact hN _ _ he
   | panicked ch=>exact he
   | outgrown=>exact he
 . exact .inr ⟨h1,hN _ _ h2⟩
theorem jK{k:Nat}(hm:mem.contains i=true)(hk:mem.idxOf i=k)(hL:Ls[k]? = some (L,F))(hL' : Ls[k+1]? = some (L', F'))
 (h:∀ g w,St bs (L g) w->F g w->lB P ops Q n ds s0 l0 o (s g) (fun v' w' => ∃ g', (St bs (L' g') w' /\ F' g' w')/\v' = v g' /\ jD pre i g g' 0 V) w)
 (K:mq P ops Q n ds s0 l0 pre mem V (kg bs Ls) (i+1) (fun g=>jJ o.dst (v g) (s g)) l vs) :
 mq P ops Q n ds s0 l0 pre mem V (kg bs Ls) i s (o :: l) (v :: vs):=by
 refine⟨?_,K⟩
 rw[hm,hk]
 intro g w hM
 have hM' := (kg.at hL).1 hM
 exact(h g w hM'.1 hM'.2).mono fun v' w' ⟨g', h1,h2,h3⟩=>⟨g', (kg.at hL').2 h1,h2,h3⟩
theorem oh{id:Nat}{w:World}(hm:P.follows .mixedOrders=true)(pre:List (List Nat))(mem:List Nat)(hok:Ai l pre mem=true)(V:List (Γ->Value))(Ls:List ((Γ->List gh)×(Γ->World->Prop)))(g0:Γ)
 (sE:Γ->List (Nat×Value)) (hL:Ls[0]? = some (L,F)) (hst:St bs (L g0) w) (hF:∀ w', gB [] w w' -> F g0 w') (hO:mq P l.toArray Q n ds s0 l pre mem V (kg bs Ls) 0 (fun _=>s0) l V)
 (hE:∀ g,gY (fun _=>true) 0 l (V.map (· g)) s0=sE g) (hLe:Ls[mem.length]? = some (L', F'))
 (hend:∀ g w', St bs (L' g) w' -> F' g w' -> Q .normal (Fr n (sE g) ds) w'):WP r P (.region id l.toArray true) Q (Fr n s0 ds) w :=
 Lb hm pre mem hok V (kg bs Ls) g0 sE ((kg.at hL).2 ⟨hst.grow (gB.drew [] w),hF _ (gB.drew [] w)⟩) hO hE fun g w' h=>hend g w' ((kg.at hLe).1 h).1 ((kg.at hLe).1 h).2
theorem St.drew{L:List gh}{w:World}(h:St bs L w):St bs L w.drew:=h.grow (gB.drew [] w)
end
def Qo(sz:Nat)(v:Value)(i:Nat):Value:=match v with
 | .slice (some ⟨b,o,_⟩) _ _=>.pointer (some ⟨b,o+i*sz,none⟩)
 | _=>.pointer none
def nN(sz:Nat)(v:Value)(l h:Nat):Value:=match v with
 | .slice a _ c=>.slice (if c=l then a else a.map (·.add (l*sz))) (h-l) (c-l)
 | _=>v
section
variable {P:Program} {n:Nat} {s:List (Nat×Value)} {w:World} {dd:Option Nat} {ty:TypeId} {pos:String} {af:Array Edge} {g:Option (Nat×Bool)} {v:Value} {x y:Operand} {t e:TypeId} {sz by_:Nat} {z:Value} {u:TypeDesc}
theorem qp{α:Type}{enc:World->α->List Value->Prop}{ok:Nat->Prop}{w0:World}{ys:List α}(hx:ev n s x=v)(ht:P.underlying t=some (.slice e))(hI:Sl sz enc ok w0 v ys) :
 (execOp (ev n s) ⟨dd,.call ⟨.builtin .len,#[x],#[t]⟩,ty,pos,af,g⟩).run P w = .ok (.value (.int .i64 ys.length)) w:=by
 obtain⟨a,c,rfl,_⟩:=hI
 exact Et hx ht
theorem aah{α:Type}{k' : IntKind}{enc:World->α->List Value->Prop}{ok:Nat->Prop}{w0:World}{ys:List α}{i:Int}{el:α}(hx:ev n s x=v)(hy:ev n s y = .int k' i)(ht:P.underlying t=some (.slice e))(hi:TI P e sz by_ z)
 (hI:Sl sz enc ok w0 v ys) (h0:0<=i) (hel:ys[i.toNat]? = some el) :
 (execOp (ev n s) ⟨dd,.indexAddr t x y,ty,pos,af,g⟩).run P w = .ok (.value (Qo sz v i.toNat)) w:=by
 have hlt:=(zb.1 hel).1
 obtain⟨a,c,rfl,_,_,h3⟩:=hI
 obtain⟨b,o,vs,rfl,_,hl,_,hc⟩:=h3 i.toNat el hel
 exact pW hx hy ht hi ⟨h0,o_⟩ rfl
theorem YP{α:Type}{enc:World->α->List Value->Prop}{ok:Nat->Prop}{w0:World}{ys:List α}{low high:Option Operand}{l h:Nat}(hx:ev n s x=v)(ht:P.underlying t=some (.slice e))(hi:TI P e sz by_ z)
 (hI:Sl sz enc ok w0 v ys) (hlo:match low with|none=>l=0|some p=>∃ k,ev n s p = .int k (l:Int)) (hhi:match high with|none=>h=ys.length|some p=>∃ k,ev n s p = .int k (h:Int)) (hlh:l<=h) (hh:h<=ys.length) :
 (execOp (ev n s) ⟨dd,.slice t x low high none,ty,pos,af,g⟩).run P w = .ok (.value (Go.Sx.nN sz v l h)) w:=by
 obtain⟨a,c,rfl,h1,h2,h3⟩:=hI
 have b1:∀ (m:Nat) (code:BoundsCode) (k:IntKind) (q:Nat),q<=m->(Instr.sliceBound (.int k (q:Int)) m code).run P w = .ok q w:=by
  intro m code k q hq
  have:(0:Int)<=(q:Int)/\(q:Int)<=(m:Int):=by omega
  simp[Instr.sliceBound,asIntOf,this]
 have hc:h<=c:=by omega
 have hlc:l<=ys.length:=by omega
 cases low with
 | none =>
  simp only at hlo
  subst hlo
  cases high with
  | none =>
   simp only at hhi
   subst hhi
   simp[execOp,hx,Instr.sliceAt,Instr.slice,run_underlying ht,Instr.sliceBounds,hi.size,Go.Sx.nN]
  | some p =>
   obtain⟨k,hp⟩:=hhi
   simp[execOp,hx,hp,Instr.sliceAt,Instr.slice,run_underlying ht,Instr.sliceBounds,hi.size,b1 _ _ _ _ hc,Go.Sx.nN]
 | some q =>
  obtain⟨k,hq⟩:=hlo
  cases high with
  | none =>
   simp only at hhi
   subst hhi
   simp[execOp,hx,hq,Instr.sliceAt,Instr.slice,run_underlying ht,Instr.sliceBounds,hi.size,b1 _ _ _ _ hlc,Go.Sx.nN]
  | some p =>
   obtain⟨k', hp⟩:=hhi
   simp[execOp,hx,hq,hp,Instr.sliceAt,Instr.slice,run_underlying ht,Instr.sliceBounds,hi.size,b1 _ _ _ _ hc,b1 _ _ _ _ hlh,Go.Sx.nN]
end
section
variable {Γ:Type} {P:Program} {ops:Array Oper} {Q:Exit->Act->World->Prop} {n:Nat} {s s0:List (Nat×Value)} {ds:List Deferred} {w:World} {o:Oper} {v u:Value} {l:List Oper} {Nx:Value->World->Prop}
variable {dd:Option Nat} {d:Nat} {ty:TypeId} {pos:String} {af:Array Edge} {g:Option (Nat×Bool)} {x y:Operand} {t e:TypeId} {sz by_ cnt:Nat} {z:Value} {bs:List (World×List Nat)} {L L' : List gh} {news:List Value}
variable {pre:List (List Nat)} {i:Nat} {V:List (Γ->Value)} {a b:Γ} {k:Nat} {f:Γ->Value}
theorem fS(h:bif (pre.getD k []).contains i||k==i then True else f b=f a)(K:jD pre i a b (k+1) V):jD pre i a b k (f :: V):=⟨h,K⟩
theorem kO:jD pre i a b k []:=trivial
theorem nu{b o:Nat}{T:TypeId}{cs cs' vs:List Value}(i:Nat)(hg:gy ops n s g=true)(hx:ev n s x = .pointer (some ⟨b,o,none⟩))(hy:ev n s y=v)(hvs:v.cells.toList=vs)
 (ht:TI P t sz by_ z) (hsz:vs.length=sz) (h1:vs.all (·.oneCell')=true) (hst:St bs L w) (hi:L[i]? = some (blk b T cs)) (hfit:Nat.ble (o+vs.length) cs.length=true)
 (hcs:setAt cs o vs=cs') (hL:L.set i (blk b T cs')=L') (K:∀ w', St bs L' w' -> Nx undef w') :
 lB P ops Q n ds s0 l ⟨none,.store t x y,ty,pos,af,g⟩ s Nx w:=by
 obtain⟨w', h2,h3,h4⟩:=Jz (dd:=none) (ty:=ty) (pos:=pos) (af:=af) (g:=g) i hx hy hvs ht hsz h1 hst hi (za hfit) hcs hL
 exact A7 hg rfl h2 (K w' h3)
theorem JX{cs:List Value}(hg:gy ops n s g=true)(ht:TI P t sz by_ z)(hcs:z.cells.toList=cs)(hst:St bs L w)
 (K:∀ b w', St bs (blk b t cs :: L) w' -> Nx (.pointer (some ⟨b,0,none⟩)) w'):lB P ops Q n ds s0 l ⟨dd,.alloc t,ty,pos,af,g⟩ s Nx w:=by
 subst hcs
 refine wB (v:=.pointer (some ⟨w.heap.size,0,none⟩)) (w' := w.alloc (.cells z.cells t)) hg rfl ?_ (K _ _ ?_)
 . simp only[execOp,Instr.alloc,zj,ht.s6,zd]
   rfl
 . have:=xD hst t z.cells.toList
   simpa using this
theorem Fi{cs:List Value}(hg:gy ops n s g=true)(hx:ev n s x=v)(hcs:v.cells.toList=cs)(hst:St bs L w)
 (K:∀ b w', St bs (blk b t cs :: L) w' -> Nx (.pointer (some ⟨b,0,none⟩)) w'):lB P ops Q n ds s0 l ⟨dd,.box t x,ty,pos,af,g⟩ s Nx w:=by
 subst hcs
 refine wB (v:=.pointer (some ⟨w.heap.size,0,none⟩)) (w' := w.alloc (.cells v.cells t)) hg rfl ?_ (K _ _ ?_)
 . simp only[execOp,hx,Instr.box]
   rfl
 . have:=xD hst t v.cells.toList
   simpa using this
end
end Go.Sx
namespace Go.Sx
open Go
section
variable {w w' w0:World} {bs:List (World×List Nat)} {L:List gh} {b:Nat} {T:TypeId} {cs cs' : List Value}
theorem St.XC(w:World)(h:(blk b T cs).holds w):St [(w,[b])] [blk b T cs] w:=by
 have:=St.PB w [blk b T cs] (fun R hR=>by simp only[mj]at hR;subst hR;exact h) (by simp[iT,blk])
  (fun c hc=>by
   simp only[iT,lu,List.flatMap_nil,mD,blk,mj]at hc
   subst hc
   exact(z8.1 (show w.heap[c]? = _ from h)).1)
 simpa[iT,blk]using this
theorem Sl.old{α:Type}{sz:Nat}{enc:World->α->List Value->Prop}{ok:Nat->Prop}{v:Value}{xs:List α}(h:Sl sz enc ok w v xs)(hp:0<sz):Sl sz enc (fun b=>ok b/\b<w.heap.size) w v xs:=by
 obtain⟨a,c,e,h1,h2,h3⟩:=h
 refine⟨a,c,e,h1,h2,fun i x hi=>?_⟩
 obtain⟨b,o,vs,ha,hb,hl,hx,hc⟩:=h3 i x hi
 refine⟨b,o,vs,ha,⟨hb,?_⟩,hl,hx,hc⟩
 cases vs with
 | nil=>simp at hl;omega
 | cons u vs=>exact World.block_lt_of_cell? w _ (hc 0 u rfl)
theorem St.size{X:List Nat}(h:St bs L w)(hb:(w0,X)∈bs):w0.heap.size<=w.heap.size:=(h.gK hb).size
end
end Go.Sx
namespace Go.Sx
open Go
section
variable {P:Program} {n:Nat} {s:List (Nat×Value)} {w:World} {fn:Func} {bs:List (World×List Nat)} {L:List gh} {x y z:ResultVar} {v v' v'' : Value} {t:TypeId} {u:TypeDesc}
def RV(P:Program)(n:Nat)(s:List (Nat×Value))(w:World)(v:Value):ResultVar->Prop
 | .tmp t=>ev n s (.tmp t)=v
 | .cell a T=>∃ ad,ev n s (.tmp a) = .pointer (some ad)/\(loadVar T ad).run P w = .ok v w
def Bt(tmps:Array Value):ResultVar->Sem Value
 | .tmp t=>pure (tmps.getD t undef)
 | .cell a t=>do loadVar t (<- asAddr (tmps.getD a undef))
theorem vQ(h:RV P n s w v x):(Bt (Fr n s []).tmps x).run P w = .ok v w:=by
 cases x with
 | tmp t=>simp only[Bt,zm];rw[uu];rw[show ev n s (.tmp t)=v from h]
 | cell a T =>
  obtain⟨ad,h1,h2⟩:=h
  simp only[Bt,zj]
  rw[uu,h1]
  simp[asAddr,h2]
theorem GO(tmps:Array Value):results fn tmps=(do let vs <- fn.results.mapM (Bt tmps);pure (if h:vs.size=1 then vs[0]else .tuple vs)):=by
 unfold results
 congr 2
theorem Js(hr:fn.results = #[x,y])(h1:RV P n s w v x)(h2:RV P n s w v' y):(results fn (Fr n s []).tmps).run P w = .ok (.tuple #[v,v']) w:=by
 rw[GO,hr]
 simp[zj,Result.andThen,vQ h1,vQ h2]
theorem rz{R:Value->World->Prop}(hr:fn.results = #[x,y])(h1:RV P n s w v x)(h2:RV P n s w v' y)(h:R (.tuple #[v,v']) w) :
 bodyPost P fn (fun e w' => ∃ v,e = .returned v/\R v w') .ret (Fr n s []) w:=⟨rfl,_,Js hr h1 h2,_,rfl,h⟩
theorem nU{t:Nat}(h:ev n s (.tmp t)=v):RV P n s w v (.tmp t):=h
theorem FD{a b o:Nat}{T:TypeId}(hx:ev n s (.tmp a) = .pointer (some ⟨b,o,none⟩))(hu:P.underlying T=some u)(hn:lK u=false)(hv:w.cell? ⟨b,o,none⟩=some v):RV P n s w v (.cell a T) :=
 ⟨_,hx,by simp only[loadVar,zj,qU hu,hn,zd];simp[load,Sem.run,hv]⟩
theorem qj{a b o sz by_:Nat}{T:TypeId}{cs:List Value}{z:Value}(hx:ev n s (.tmp a) = .pointer (some ⟨b,o,none⟩))(hu:P.underlying T=some u)(hn:lK u=true)(ht:TI P T sz by_ z)
 (hl:cs.length=sz) (hv:∀ j u,cs[j]? = some u->w.cell? ⟨b,o+j,none⟩=some u):RV P n s w (.agg cs.toArray) (.cell a T):=by
 subst hl
 have:=run_loadCells_list (P:=P) w ⟨b,o,none⟩ cs (fun j u hj=>by rw[Addr.add_lit];exact hv j u hj)
 exact⟨_,hx,by simp only[loadVar,zj,qU hu,hn,zd,ht.size,this,if_true,zm]⟩
end
end Go.Sx
namespace Go.Sx
open Go
section
variable {P:Program} {n:Nat} {s:List (Nat×Value)} {w:World} {v:Value} {T:TypeId} {sz by_:Nat} {z:Value} {bs:List (World×List Nat)} {L:List gh}
theorem cells_one(h:v.oneCell' = true):v.cells.toList=[v]:=by cases v<;>first|rfl|(simp[Value.oneCell']at h)
theorem Sl.aas{α:Type}{sz:Nat}{enc:World->α->List Value->Prop}{ok:Nat->Prop}{xs:List α}(h:Sl sz enc ok w v xs):v.oneCell' = true:=by
 obtain⟨a,c,rfl,_⟩:=h
 rfl
theorem Vk{e:TypeId}{m:Nat}{xs:List Value}(h:w.ownsRow 0 e sz v m xs):v.oneCell' = true:=by
 rcases h.2 with ⟨rfl,_⟩|⟨g,cap,cur,rfl,_⟩<;>rfl
theorem St.aaM{i:Nat}{e:TypeId}{m:Nat}{xs:List Value}(h:St bs L w)(hi:L[i]? = some (row v e sz m xs)):v.oneCell' = true:=Vk (h.own _ (ze hi))
theorem uJ:([]:List Value).all (·.oneCell')=true:=rfl
theorem oW{l:List Value}(h:v.oneCell' = true)(k:l.all (·.oneCell')=true):(v :: l).all (·.oneCell')=true:=by simp only[List.all_cons,h,k,Bool.and_self]
theorem St.at{R:gh}{i:Nat}(h:St bs L w)(hi:L[i]? = some R):R.holds w:=h.own _ (ze hi)
def n9(pl:List (Nat×Nat)):List Value->List (Nat×List Value)->Option (List Value)
 | cs,[]=>some cs
 | cs,(i,vs) :: rest=>match pl[i]? with
  | none=>none
  | some (off,sz)=>bif Nat.beq vs.length sz&&Nat.ble (off+vs.length) cs.length then n9 pl (setAt cs off vs) rest else none
def s7:List (Nat×Value)->List (Nat×List Value)->Prop
 | [],[]=>True
 | (i,v) :: l,(j,vs) :: m=>i=j/\v.cells.toList=vs/\s7 l m
 | _,_=>False
theorem Dq(pl:List (Nat×Nat)):∀ (ps:List (Nat×Value)) (qs:List (Nat×List Value)) (cs out:List Value),s7 ps qs->n9 pl cs qs=some out->Instr.fill (pl.toArray[·]?) cs.toArray ps=some out.toArray:=by
 intro ps
 induction ps with
 | nil =>
  intro qs cs out h hf
  cases qs with
  | nil=>simp only[n9,Option.some.injEq]at hf;subst hf;rfl
  | cons q qs=>cases h
 | cons p ps ih =>
  intro qs cs out h hf
  cases qs with
  | nil=>cases h
  | cons q qs =>
   obtain⟨i,v⟩:=p
   obtain⟨j,vs⟩:=q
   obtain⟨rfl,hv,h⟩:=h
   simp only[n9]at hf
   simp only[Instr.fill,rH]
   cases hp:pl[i]? with
   | none=>rw[hp]at hf;cases hf
   | some p =>
    obtain⟨off,sz⟩:=p
    rw[hp]at hf
    simp only at hf
    cases hb:(Nat.beq vs.length sz&&Nat.ble (off+vs.length) cs.length)with
    | false=>rw[hb]at hf;cases hf
    | true =>
     rw[hb]at hf
     simp only[cond_true]at hf
     rw[zt]at hb
     have h1:vs.length=sz:=z7 hb.1
     have h2:=za hb.2
     have hs:v.cells.size=vs.length:=by rw[<-hv];simp
     simp only[hs]
     rw[if_neg (by simp;omega)]
     have hfo:=Mb off v.cells.toList 0 cs.toArray (by simp[hs];omega)
     have hz:Array.foldl (fun cs (q:Value×Nat)=>cs.setIfInBounds (off+q.2) q.1) cs.toArray v.cells.zipIdx=(setAt cs off vs).toArray:=by
      rw[<-Array.foldl_toList,Array.toList_zipIdx]
      simp only[nF,tH,hs,hv]at hfo ⊢
      rw[hfo]
      simp[setAt]
     rw[show (Array.foldl (fun cs (x:Value×Nat)=>match x with|(c,j)=>cs.setIfInBounds (off+j) c) cs.toArray v.cells.zipIdx)=_ from hz]
     simpa only[rH]using ih qs _ out h hf
def nh(P:Program)(T:TypeId)(pl:List (Nat×Nat)):Prop :=
 ∃ fields,P.underlying T=some (.struct fields)/\∀ w,(fields.mapM (fun f=>do pure (f.offset,<-sizeOf f.type):Field->Sem (Nat×Nat))).run P w = .ok pl.toArray w
theorem jS{pl:List (Nat×Nat)}{ps:List (Nat×Value)}(qs:List (Nat×List Value)){cs out:List Value}(ht:TI P T sz by_ z)(hp:nh P T pl)(hz:z.cells.toList=cs)(hc:s7 ps qs)(hf:n9 pl cs qs=some out)(w:World) :
 (Instr.build T ps.toArray).run P w = .ok (.agg out.toArray) w:=by
 obtain⟨fields,hu,hm⟩:=hp
 have:=Dq pl ps qs cs out hc hf
 subst hz
 simp only[C6]at this
 simp only[Instr.build,zj,ht.s6,zd,run_underlying hu,hm,this,zm]
theorem BX{e:TypeId}{len szE byE:Nat}{zE:Value}{ps:List (Nat×Value)}(qs:List (Nat×List Value)){cs out:List Value}(ht:TI P T sz by_ z)(hu:P.underlying T=some (.array len e))(hE:TI P e szE byE zE)(hz:z.cells.toList=cs)
 (hc:s7 ps qs) (hf:n9 ((List.range len).map fun i=>(i*szE,szE)) cs qs=some out) (hlt:∀ p∈ps,p.1<len) (w:World) :
 (Instr.build T ps.toArray).run P w = .ok (.agg out.toArray) w:=by
 have h1:=Dq _ ps qs cs out hc hf
 have h2:∀ (l:List (Nat×Value)) (arr:Array Value),(∀ p∈l,p.1<len)->Instr.fill (fun i=>some (i*szE,szE)) arr l=Instr.fill ((((List.range len).map fun i=>(i*szE,szE)).toArray)[·]?) arr l:=by
  intro l
  induction l with
  | nil=>intro arr _;rfl
  | cons p l ih =>
   intro arr h
   obtain⟨i,v⟩:=p
   have hi:=h (i,v) s_
   simp only at hi
   simp only[Instr.fill,rH,kX,Bj hi,oE]
   split
   . rfl
   . simpa only[rH,kX]using ih _ (fun p hp=>h p (by simp[hp]))
 subst hz
 simp only[C6]at h1
 simp only[Instr.build,zj,ht.s6,zd,run_underlying hu,hE.size,h2 _ _ hlt,h1,zm]
end
end Go.Sx
namespace Go.Sx
open Go
section
variable {P:Program} {n:Nat} {s:List (Nat×Value)} {w:World} {dd:Option Nat} {ty:TypeId} {pos:String} {af:Array Edge} {g:Option (Nat×Bool)} {x:Operand} {name:String} {az:List Operand} {T:Array TypeId} {t:TypeId} {v:Value} {f:FuncId} {vl al:List Value}
theorem YV(hx:ev n s x = .iface t v)(hvs:az.map (ev n s)=al)(hm:∀ w,(callMethod (.iface t v) name al.toArray).run P w = .ok (.enter f vl.toArray) w) :
 (execOp (ev n s) ⟨dd,.call ⟨.invoke x name,az.toArray,T⟩,ty,pos,af,g⟩).run P w = .ok (.enter f vl.toArray) w:=by
 have h1:(#[Value.iface t v]++al.toArray)[0]? = some (.iface t v):=by simp
 have h2:(#[Value.iface t v]++al.toArray).extract 1 (#[Value.iface t v]++al.toArray).size=al.toArray:=by
  apply Array.ext' ;simp
 simp only[execOp,resolve,invoke,Bu, hvs,hx,zj,zm,zd,h1,h2,hm]
end
end Go.Sx
namespace Go.Sx
open Go
section
variable {w w' w0:World} {bs:List (World×List Nat)} {L:List gh} {R R' : gh}
structure Own (R:gh) (w:World):Prop where
 holds:R.holds w
 nodup:R.gT.Nodup
 lt:∀ b∈R.gT,b<w.heap.size
structure gm (R:gh) (w w' : World) (R' : gh):Prop where
 holds:R'.holds w'
 gK:gB R.gT w w'
 place:∀ b∈R'.gT,b∈R.gT\/w.heap.size<=b
 nodup:R'.gT.Nodup
 lt:∀ b∈R'.gT,b<w'.heap.size
theorem GA{α β:Type}{f:α->List β}:∀ {l:List α} {x:α},(l.flatMap f).Nodup->x∈l->(f x).Nodup:=by
 intro l
 induction l with
 | nil=>intro x _ h;simp at h
 | cons y l ih =>
  intro x h hx
  rw[lu]at h
  rcases zg.1 hx with rfl|hx
  . exact(zw.1 h).1
  . exact ih (zw.1 h).2.1 hx
theorem St.aaB{i:Nat}(h:St bs L w)(hi:L[i]? = some R):Own R w :=
 ⟨h.own R (ze hi),GA h.sep (ze hi),fun b hb=>h.lt b (qm hi hb)⟩
theorem St.v7{LL:List gh}(i:Nat)(h:St bs L w)(hi:L[i]? = some R)(ht:gm R w w' R')(hL:L.set i R' = LL):St bs LL w' := by
 subst hL
 exact h.iF hi ht.gK ht.place ht.nodup ht.lt ht.holds
theorem St.Jr(h:Own R w):St [(w,R.gT)] [R] w:=by
 have:=St.PB w [R] (fun Q hQ=>by simp only[mj]at hQ;subst hQ;exact h.holds) (by simpa[iT]using h.nodup) (fun b hb=>h.lt b (by simpa[iT]using hb))
 simpa[iT]using this
theorem St.D9(h:St bs (R' :: L) w')(hb:(w,R.gT)∈bs):gm R w w' R' := by
 have hB:=h.base _ hb
 refine⟨h.own R' s_,hB.gK,fun b hb' => hB.mine b (by rw[ou];simp[hb']),GA (x:=R') h.sep s_,fun b hb' => h.lt b (by rw[ou];simp[hb'])⟩
theorem gm.refl(h:Own R w):gm R w w R:=⟨h.holds,gB.refl _ _,fun b hb=>.inl hb,h.nodup,h.lt⟩
theorem St.WV{X:List Nat}{b:Nat}(h:St bs L w)(hb:(w0,X)∈bs)(hlt:b<w0.heap.size)(hX:b∉X):b∉iT L:=by
 intro hf
 rcases(h.base _ hb).mine b hf with h1|h1
 . exact hX h1
 . exact absurd hlt (Nat.not_lt.2 h1)
theorem Ih{b o:Nat}{T:TypeId}{cs:List Value}{v:Value}(h:(blk b T cs).holds w)(hv:cs[o]? = some v):w.cell? ⟨b,o,none⟩=some v:=by
 have h0:(blk b T cs).holds w:=h
 have:=(St.XC w h0).zP (i:=0) (o:=o) rfl hv
 exact this
end
end Go.Sx
namespace Go.Sx
open Go
theorem St.perm{bs:List (World×List Nat)}{L L' : List gh}{w:World}(h:St bs L w)(hp:L.Perm L'):St bs L' w:=by
 have hf:(iT L).Perm (iT L'):=hp.flatMap_right _
 exact⟨fun p hp' => ⟨(h.base p hp').gK,fun b hb=>(h.base p hp').mine b (hf.mem_iff.2 hb)⟩,fun X hX=>h.own X (hp.mem_iff.2 hX),hf.nodup_iff.1 h.sep,fun b hb=>h.lt b (hf.mem_iff.2 hb)⟩
theorem St.swap{bs:List (World×List Nat)}{L:List gh}{R R' : gh}{w:World}(h:St bs (R :: R' :: L) w):St bs (R' :: R :: L) w:=h.perm (List.Perm.swap _ _ _)
theorem oS{a b:Nat}(h:a<=b):Nat.ble a b=true:=C9 h
end Go.Sx
namespace Go.Sx
open Go
def jq(l:Nat)(r:Loop):gh where
 gT:=[l]
 holds w:=w.heap[l]? = some (.loop r)
 loc w w' h hh:=(h l s_).trans hh
def kR(d:Nat)(o:Option (List Deferred)):gh where
 gT:=[d]
 holds w:=w.heap[d]? = some (.deferred o)
 loc w w' h hh:=(h d s_).trans hh
theorem gB.putObj(w:World)(r:Nat)(o:Obj):gB [r] w (w.putObj r o) :=
 ⟨rfl,rfl,rfl,s_,fun b _ hb=>World.putObj_heap_other (by simpa using hb)⟩
section
variable {w w' : World} {bs:List (World×List Nat)} {L LL:List gh} {i l d:Nat} {rc:Loop}
theorem St.xo(h:St bs L w)(hi:L[i]? = some (jq l rc)):w.heap[l]? = some (.loop rc):=h.own _ (ze hi)
theorem St.BQ(h:St bs L w)(hi:L[i]? = some (jq l rc))(rc' : Loop):St bs (L.set i (jq l rc')) (w.putObj l (.loop rc')):=by
 have hlt:l<w.heap.size:=h.lt l (qm hi (by simp[jq]))
 exact h.iF hi (gB.putObj w l _) (fun b hb=>.inl hb) (by simp[jq]) (fun b hb=>by simp[jq]at hb;subst hb;simpa using hlt) (World.putObj_heap_same hlt)
theorem St.YF{o:Option (List Deferred)}(h:St bs L w)(hi:L[i]? = some (kR d o))(o' : Option (List Deferred)):St bs (L.set i (kR d o')) (w.putObj d (.deferred o')):=by
 have hlt:d<w.heap.size:=h.lt d (qm hi (by simp[kR]))
 exact h.iF hi (gB.putObj w d _) (fun b hb=>.inl hb) (by simp[kR]) (fun b hb=>by simp[kR]at hb;subst hb;simpa using hlt) (World.putObj_heap_same hlt)
end
def gF(L:List gh):gh where
 gT:=iT L
 holds w:=∀ R∈L,R.holds w
 loc w w' h hh R hR:=R.loc w w' (fun b hb=>h b (p7.2 ⟨R,hR,hb⟩)) (hh R hR)
section
variable {w w0:World} {bs:List (World×List Nat)} {A B:List gh} {R:gh}
theorem Sy(A B:List gh):iT (A++B)=iT A++iT B:=by simp[iT]
theorem zN(A B:List gh):iT (gF A :: B)=iT (A++B):=by rw[ou,Sy];rfl
theorem St.pack(A B:List gh)(h:St bs (A++B) w):St bs (gF A :: B) w :=
 ⟨fun p hp=>⟨(h.base p hp).gK,fun b hb=>(h.base p hp).mine b (by rw[<-zN];exact hb)⟩,fun Q hQ=>by
  rcases zg.1 hQ with rfl|hQ
  . exact fun R hR=>h.own R (uO _ hR)
  . exact h.own Q (wu _ hQ),by rw[zN];exact h.sep,fun b hb=>h.lt b (by rw[<-zN];exact hb)⟩
theorem St.unpack(h:St bs (gF A :: B) w):St bs (A++B) w :=
 ⟨fun p hp=>⟨(h.base p hp).gK,fun b hb=>(h.base p hp).mine b (by rw[zN];exact hb)⟩,fun Q hQ=>by
  rcases zr.1 hQ with hQ|hQ
  . exact h.own (gF A) s_ Q hQ
  . exact h.own Q (by simp[hQ]),by rw[<-zN];exact h.sep,fun b hb=>h.lt b (by rw[zN];exact hb)⟩
theorem St.YJ{b:Nat}(h:St bs (R :: B) w)(hb:b∈iT B):b∉R.gT:=fun hr=>by
 have:=h.sep
 rw[ou]at this
 exact(zw.1 this).2.2 b hr b hb rfl
end
def YR(P:Program)(l:Nat)(vl:List Value)(w:World)(R:Value->World->Prop):Prop :=
 ∃ f tmps assign body,(Instr.yield l vl.toArray).run P w = .ok (.round l f tmps assign body) w/\RoundIn (FW none) 0 P l f tmps assign body w (fun e w' => ∃ v,e = .returned v/\R v w')
section
variable {P:Program} {ops:Array Oper} {Q:Exit->Act->World->Prop} {rest:List Oper} {n:Nat} {s:List (Nat×Value)} {ds:List Deferred} {w:World}
variable {d:Option Nat} {ty:TypeId} {pos:String} {af:Array Edge} {g:Option (Nat×Bool)} {x:Operand} {l:Nat}
theorem yl{az:List Operand}{T:Array TypeId}{vl:List Value}{R:Value->World->Prop}(hg:gy ops n s g=true)(hx:ev n s x = .func (.yield l) #[] #[])(hvs:az.map (ev n s)=vl)(hy:YR P l vl w R)
 (K:∀ v w', R v w' -> WL none P ops Q rest (Fr n (jJ d v s) ds) w'):WL none P ops Q (⟨d,.call ⟨.value x,az.toArray,T⟩,ty,pos,af,g⟩ :: rest) (Fr n s ds) w:=by
 obtain⟨f,tmps,assign,body,h1,h2⟩:=hy
 refine⟨?_⟩
 unfold wpListIn
 rw[nW,hg,if_pos rfl]
 refine⟨fun _ _=>trivial,?_⟩
 have hr:(Oper.semAt (FW none).round (Fr n s ds).eval (⟨d,.call ⟨.value x,az.toArray,T⟩,ty,pos,af,g⟩:Oper)).run P w = .ok (.round l f tmps assign body) w:=by
  rw[show (FW none).round=none from rfl,Oper.semAt_none,qn]
  simp only[execOp,resolve,Deferred.ofValue,hx,Bu, hvs,zj,zm,zd,invoke]
  simpa using h1
 rw[hr]
 refine⟨fun h=>by simp[FW]at h,RoundIn.mono h2 ?_⟩
 rintro e w' ⟨v,rfl,hR⟩
 have:=(K v w' hR).out
 rw[<-vK]at this
 exact this
def qC:List Nat->List Value->List (Nat×Value)->List (Nat×Value)
 | p :: ps,v :: vs,s=>qC ps vs ((p,v) :: s)
 | _,_,s=>s
theorem Sd(p:Nat)(v:Value):(Fr n s ds).tmps.setIfInBounds p v=(Fr n ((p,v) :: s) ds).tmps:=congrArg Act.tmps (Em n s ds p v)
theorem S4:∀ (ps:List Nat) (vs:List Value) (s:List (Nat×Value)),((ps.zip vs).foldl (fun(t:Array Value) (q:Nat×Value)=>t.setIfInBounds q.1 q.2) (Fr n s ds).tmps)=(Fr n (qC ps vs s) ds).tmps:=by
 intro ps
 induction ps with
 | nil=>intro vs s;simp[qC]
 | cons p ps ih =>
  intro vs s
  cases vs with
  | nil=>simp[qC]
  | cons v vs =>
   simp only[List.zip_cons_cons,CC,qC]
   rw[Sd]
   exact ih vs _
theorem Ml(ps:List Nat)(vs:List Value)(s:List (Nat×Value)):((ps.toArray.zip vs.toArray).foldl (fun(t:Array Value) (q:Nat×Value)=>t.setIfInBounds q.1 q.2) (Fr n s ds).tmps)=(Fr n (qC ps vs s) ds).tmps:=by
 rw[<-S4,List.zip_toArray,List.foldl_toArray]
variable {bs:List (World×List Nat)} {L LL:List gh} {i:Nat} {rc:Loop}
theorem Kg{ps:List Nat}{vl:List Value}{s' : List (Nat×Value)}{fn dd:Nat}{assign body:Code}{R:Value->World->Prop}(i:Nat)(hrc:rc=⟨.ready,none,fn,(Fr n s ds).tmps,ps.toArray,assign,body,dd⟩)(hst:St bs L w)(hi:L[i]? = some (jq l rc))
 (hlen:vl.length=ps.length) (hs:qC ps vl s=s')
 (h:WP (some l) P assign (Exit.then (fun a w₁=>∃ w₂,(Instr.beginRound l).run P w₁ = .ok () w₂/\WP (some l) P body (roundPost P l (fun e w' => ∃ v,e = .returned v/\R v w')) a w₂) (fun _ _ _=>False)) (Fr n s' []) w):YR P l vl w R:=by
 subst hs hrc
 refine⟨_,_,_,_,run_yield (hst.xo hi) (by simpa using hlen),roundIn_of_wpIn trivial ?_⟩
 have e:=Ml (n:=n) (ds:=ds) ps vl s
 show assign.wpIn (FW (some l)) 0 P _ { tmps:=((ps.toArray.zip vl.toArray).foldl (fun(t:Array Value) (q:Nat×Value)=>t.setIfInBounds q.1 q.2) (Fr n s ds).tmps),defers:=[] } w
 rw[e]
 exact h
theorem J5{B:World->Prop}(i:Nat)(hst:St bs L w)(hi:L[i]? = some (jq l rc))(hr:rc.state = .ready)(hL:L.set i (jq l { rc with state:=.busy })=LL)(K:∀ w₂,St bs LL w₂->B w₂):∃ w₂,(Instr.beginRound l).run P w = .ok () w₂/\B w₂ :=
 ⟨_,run_beginRound (hst.xo hi) hr,K _ (by subst hL;exact hst.BQ hi _)⟩
theorem J9{R:Ending->World->Prop}{a:Act}(i:Nat)(hst:St bs L w)(hi:L[i]? = some (jq l { rc with state:=.busy }))(hr:rc.state = .ready)(hp:rc.pending=none)(hL:L.set i (jq l rc)=LL)(K:∀ w', St bs LL w' -> R (.returned (.bool true)) w'):roundPost P l R .normal a w:=by
 refine⟨_,_,run_endRound none (hst.xo hi),K _ ?_⟩
 subst hL
 have:=hst.BQ hi rc
 obtain⟨a,b,c,d,e,f,g,h⟩:=rc
 simp only at hr hp
 subst hr hp
 exact this
theorem rf{f:FuncId}{fi ca:List Value}{ps:List Nat}{assign body:Code}{α:Type}(LZ:α->List gh)(C:α->Prop)(hst:St bs L w)(hx:ev n s x = .func (.func f) fi.toArray ca.toArray)(he:gC P f)
 (h1:∀ fn dd l w₁ rc,rc=(⟨.ready,none,fn,(Fr n s ds).tmps,ps.toArray,assign,body,dd⟩:Loop)->St bs (jq l rc :: kR dd (some []) :: L) w₁ ->
  CR P f (fi++[Value.func (.yield l) #[] #[]]++ca).toArray w₁ (fun _ w₃=>∃ z,C z/\St bs (jq l rc :: kR dd (some []) :: LZ z) w₃))
 (h2:∀ z dd w₄,C z->St bs (kR dd (some []) :: LZ z) w₄->Q .normal (Fr n s (⟨.collected dd,#[]⟩ :: ds)) w₄):WP none P (.rangeFunc x ps.toArray assign body) Q (Fr n s ds) w:=by
 refine wpIn_rangeFunc fun fn _=>?_
 have hs1:St bs (kR w.heap.size (some []) :: L) (w.alloc (.deferred (some []))) :=
  hst.q5 (gB.alloc [] w _) (fun b hb=>by simp[kR]at hb;omega) (by simp[kR]) (fun b hb=>by simp[kR]at hb;simp;omega) (World.alloc_heap_new w _)
 have hs2:St bs (jq (w.heap.size+1) ⟨.ready,none,fn,(Fr n s ds).tmps,ps.toArray,assign,body,w.heap.size⟩ :: kR w.heap.size (some []) :: L) ((w.alloc (.deferred (some []))).alloc (.loop ⟨.ready,none,fn,(Fr n s ds).tmps,ps.toArray,assign,body,w.heap.size⟩)) :=
  hs1.q5 (gB.alloc [] _ _) (fun b hb=>by simp[jq]at hb;simp;omega) (by simp[jq]) (fun b hb=>by simp[jq]at hb;simp;omega) (by have:=World.alloc_heap_new (w.alloc (.deferred (some []))) (.loop ⟨.ready,none,fn,(Fr n s ds).tmps,ps.toArray,assign,body,w.heap.size⟩);simpa[jq]using this)
 refine⟨w.heap.size+1,_,_,⟨.fn (.func f) ca.toArray,(fi++[Value.func (.yield (w.heap.size+1)) #[] #[]]).toArray⟩,((w.alloc (.deferred (some []))).alloc (.loop ⟨.ready,none,fn,(Fr n s ds).tmps,ps.toArray,assign,body,w.heap.size⟩)),f,(fi++[Value.func (.yield (w.heap.size+1)) #[] #[]]++ca).toArray,((w.alloc (.deferred (some []))).alloc (.loop ⟨.ready,none,fn,(Fr n s ds).tmps,ps.toArray,assign,body,w.heap.size⟩)),run_enterLoop_outer fn _ _ _ _,?_,fun _ _=>trivial,?_,fun h=>by simp[FW]at h,?_⟩
 . rw[qn]
   simp only[resolve,rangeCall,Deferred.ofValue,hx]
   simp[ev]
 . have:=he ((fi++[Value.func (.yield (w.heap.size+1)) #[] #[]]++ca).toArray) ((w.alloc (.deferred (some []))).alloc (.loop ⟨.ready,none,fn,(Fr n s ds).tmps,ps.toArray,assign,body,w.heap.size⟩))
   simp only[invoke]
   simpa using this
 . refine rV.2 (Calls.mono (h1 fn w.heap.size (w.heap.size+1) _ _ rfl hs2) ?_)
   rintro e w₃ ⟨v,rfl,z,hC,hs3⟩
   refine⟨none,_,run_endLoop (hs3.xo (i:=0) rfl) s_,?_⟩
   refine h2 z w.heap.size _ hC ?_
   exact(hs3.BQ (i:=0) rfl _).sub (Kk _ _)
end
section
variable {P:Program} {n:Nat} {s:List (Nat×Value)} {w:World} {fn:Func} {f:FuncId} {c:Code} {vs:List Value} {RR:Ending->World->Prop} {bs:List (World×List Nat)} {L LL:List gh} {d:Nat} {tmps:Array Value}
theorem Ey(hf:P.funcs[f]? = some fn)(hb:fn.body=some c)(hn:fn.ntmps=n)(hs:Nat.ble vs.length n=true)
 (h:WP none P c (bodyPostM (FW none) 0 P fn RR) (Fr n (uM vs 0) []) w):Calls P f vs.toArray w RR:=by
 refine rV.1 (callsIn_of_wp_marks (F:=FW none) (n:=0) hf hb trivial ?_)
 rw[hn,NH vs n (za hs)]
 exact h
theorem Eu(i:Nat)(hst:St bs L w)(hi:L[i]? = some (kR d (some [])))(hL:L.set i (kR d none)=LL)(K:∀ w', St bs LL w' -> ∃ v,(results fn tmps).run P w' = .ok v w' /\ RR (.returned v) w') :
 LeavesInM (FW none) 0 P fn tmps RR [⟨.collected d,#[]⟩] .returning w :=
 ⟨s_,.inl ⟨d,_,rfl,run_takeDeferred (hst.own _ (ze hi)),K _ (by subst hL;exact hst.YF hi none)⟩⟩
end
end Go.Sx
namespace Go.Sx
open Go
section
variable {P:Program} {w:World} {t e:TypeId} {k:IntKind} {by_:Nat} {z:Value}
theorem TC(d:Nat)(he:P.underlying e=some (.int k))(a b:Int):(Op.equalIn (d+1) e (.int k a) (.int k b)).run P w = .ok (a==b) w:=by
 simp[Op.equalIn,run_underlying he]
theorem Lx(d:Nat)(he:P.underlying t=some .bool)(a b:Bool):(Op.equalIn (d+1) t (.bool a) (.bool b)).run P w = .ok (a==b) w:=by
 simp[Op.equalIn,run_underlying he]
theorem DT(he:P.underlying e=some (.int k))(xs:Array Value)(i:Nat)(v:Value)(h:xs[i]? = some v):(part e xs i).run P w = .ok v w:=by
 simp[part,qU he,lK,h]
theorem SD(ht:P.underlying t=some (.array 4 e))(he:P.underlying e=some (.int k))(hi:TI P e 1 by_ z)(a0 a1 a2 a3 b0 b1 b2 b3:Int) :
 (Op.equal t (.agg #[.int k a0,.int k a1,.int k a2,.int k a3]) (.agg #[.int k b0,.int k b1,.int k b2,.int k b3])).run P w = .ok (decide ([a0,a1,a2,a3]=[b0,b1,b2,b3])) w:=by
 have p:∀ (x0 x1 x2 x3:Value),(part e #[x0,x1,x2,x3] 0).run P w = .ok x0 w/\(part e #[x0,x1,x2,x3] 1).run P w = .ok x1 w/\(part e #[x0,x1,x2,x3] 2).run P w = .ok x2 w/\(part e #[x0,x1,x2,x3] 3).run P w = .ok x3 w:=fun x0 x1 x2 x3 =>
  ⟨DT he _ _ _ rfl,DT he _ _ _ rfl,DT he _ _ _ rfl,DT he _ _ _ rfl⟩
 have q:=fun a b=>TC (P:=P) (w:=w) 9998 he a b
 simp only[Nat.reduceAdd]at q
 show (Op.equalIn 10000 t _ _).run P w=_
 unfold Op.equalIn
 simp only[zj,run_underlying ht,zd,hi.size,Std.Legacy.Range.forIn_eq_forIn_range', Std.Legacy.Range.size]
 simp only[show List.range' 0 ((4-0+1-1) / 1) 1=[0,1,2,3] from rfl,List.forIn_cons,List.forIn_nil,zj,Nat.mul_one,(p _ _ _ _).1,(p _ _ _ _).2.1,(p _ _ _ _).2.2.1,(p _ _ _ _).2.2.2,zd,q]
 by_cases h0:a0=b0
 . by_cases h1:a1=b1
   . by_cases h2:a2=b2
     . by_cases h3:a3=b3
       . simp[h0,h1,h2,h3,p,q,Result.andThen]
       . simp[h0,h1,h2,h3,p,q,Result.andThen]
     . simp[h0,h1,h2,p,q,Result.andThen]
   . simp[h0,h1,p,q,Result.andThen]
 . simp[h0,p,q,Result.andThen]
end
section
variable {r:Option Nat} {P:Program} {ops:Array Oper} {Q:Exit->Act->World->Prop} {rest:List Oper} {n:Nat} {s:List (Nat×Value)} {ds:List Deferred} {w:World}
variable {d:Nat} {dd:Option Nat} {ty t t' e:TypeId} {pos:String} {af:Array Edge} {g:Option (Nat×Bool)} {x y:Operand} {k:IntKind} {by_:Nat} {z:Value} {a0 a1 a2 a3 b0 b1 b2 b3:Int} {c:Bool}
theorem run_eqGuard_agg(op:BinOp)(hgd:P.eqGuardType P.depth t=false)(xs ys:Array Value):(eqGuard op t x y (.agg xs) (.agg ys)).run P w = .ok () w:=by
 unfold eqGuard
 cases op<;>simp[hgd,program,Sem.run]
theorem W6(hx:ev n s x = .agg #[.int k a0,.int k a1,.int k a2,.int k a3])(hy:ev n s y = .agg #[.int k b0,.int k b1,.int k b2,.int k b3])(ht:P.underlying t=some (.array 4 e))(he:P.underlying e=some (.int k))(hi:TI P e 1 by_ z)
 (hgd:P.eqGuardType P.depth t=false) (hc:(!decide ([a0,a1,a2,a3]=[b0,b1,b2,b3]))=c) :
 (execOp (ev n s) ⟨dd,.binOp .neq t x y t', ty,pos,af,g⟩).run P w = .ok (.value (.bool c)) w:=by
 subst hc
 have h:=SD (P:=P) (w:=w) ht he hi a0 a1 a2 a3 b0 b1 b2 b3
 simp only[execOp,hx,hy,zj,run_eqGuard_agg .neq hgd,zd]
 simp only[binOp,zj,h,zd,zm]
theorem uk{a b:Bool}(hx:ev n s x = .bool a)(hy:ev n s y = .bool b)(ht:P.underlying t=some .bool)(hc:(!(a==b))=c) :
 (execOp (ev n s) ⟨dd,.binOp .neq t x y t', ty,pos,af,g⟩).run P w = .ok (.value (.bool c)) w:=by
 subst hc
 have h1:(Op.equal t (.bool a) (.bool b)).run P w = .ok (a==b) w:=Lx 9999 ht a b
 have h2:(eqGuard .neq t x y (.bool a) (.bool b)).run P w = .ok () w:=rfl
 simp only[execOp,hx,hy,zj,h2,zd]
 simp only[binOp,zj,h1,zd,zm]
theorem EA{a b:Bool}(hg:gy ops n s g=true)(hx:ev n s x = .bool a)(hy:ev n s y = .bool b)(ht:P.underlying t=some .bool)(hc:(!(a==b))=c)(K:WL r P ops Q rest (Fr n ((d,.bool c) :: s) ds) w) :
 WL r P ops Q (⟨some d,.binOp .neq t x y t', ty,pos,af,g⟩ :: rest) (Fr n s ds) w:=pv hg rfl (uk hx hy ht hc) K
theorem Vg{a b:Bool}(hx:ev n s x = .bool a)(hy:ev n s y = .bool b)(ht:P.underlying t=some .bool)(hc:(a==b)=c) :
 (execOp (ev n s) ⟨dd,.binOp .eql t x y t', ty,pos,af,g⟩).run P w = .ok (.value (.bool c)) w:=by
 subst hc
 have h1:(Op.equal t (.bool a) (.bool b)).run P w = .ok (a==b) w:=Lx 9999 ht a b
 have h2:(eqGuard .eql t x y (.bool a) (.bool b)).run P w = .ok () w:=rfl
 simp only[execOp,hx,hy,zj,h2,zd]
 simp only[binOp,zj,h1,zd,zm]
theorem Es{a b:Bool}(hg:gy ops n s g=true)(hx:ev n s x = .bool a)(hy:ev n s y = .bool b)(ht:P.underlying t=some .bool)(hc:(a==b)=c)(K:WL r P ops Q rest (Fr n ((d,.bool c) :: s) ds) w) :
 WL r P ops Q (⟨some d,.binOp .eql t x y t', ty,pos,af,g⟩ :: rest) (Fr n s ds) w:=pv hg rfl (Vg hx hy ht hc) K
theorem Y6(hg:gy ops n s g=true)(hx:ev n s x = .agg #[.int k a0,.int k a1,.int k a2,.int k a3])(hy:ev n s y = .agg #[.int k b0,.int k b1,.int k b2,.int k b3])(ht:P.underlying t=some (.array 4 e))(he:P.underlying e=some (.int k))(hi:TI P e 1 by_ z)
 (hgd:P.eqGuardType P.depth t=false) (hc:(!decide ([a0,a1,a2,a3]=[b0,b1,b2,b3]))=c) (K:WL r P ops Q rest (Fr n ((d,.bool c) :: s) ds) w) :
 WL r P ops Q (⟨some d,.binOp .neq t x y t', ty,pos,af,g⟩ :: rest) (Fr n s ds) w:=pv hg rfl (W6 hx hy ht he hi hgd hc) K
end
section
variable {w w' : World} {bs:List (World×List Nat)} {L:List gh} {b:Nat} {T:TypeId} {cs:List Value}
theorem St.Jg{w0:World}(h:St bs L w)(hb:(w0,[])∈bs)(h0:(blk b T cs).holds w0){o:Nat}{u:Value}(hv:cs[o]? = some u):w.cell? ⟨b,o,none⟩=some u:=h.Pf hb (Ih h0 hv) sw
theorem St.YD(h:St bs L w)(hc:gB [] w w')(hn:w.heap.size<=b)(hb:(blk b T cs).holds w'):St bs (blk b T cs :: L) w' :=
 h.q5 hc (fun x hx=>by simp[blk]at hx;omega) (by simp[blk]) (fun x hx=>by
  simp only[blk,mj]at hx
  subst hx
  exact(z8.1 (show w'.heap[x]? = _ from hb)).1) hb
end
end Go.Sx
namespace Go.Sx
open Go
abbrev jx{α:Type}(sz:Nat)(cf:α->List Value)(ok:Nat->Prop)(w:World)(v:Value)(xs:List α):Prop:=Sl sz (fun _ x vs=>vs=cf x) ok w v xs
def jC(sz:Nat)(v:Value)(i off:Nat):Value:=match v with
 | .slice (some ⟨b,o,_⟩) _ _=>.pointer (some ⟨b,o+i*sz+off,none⟩)
 | _=>.pointer none
theorem TA(sz:Nat)(v:Value)(i:Nat):jC sz v i 0=Qo sz v i:=by
 cases v with
 | slice a m c=>cases a<;>rfl
 | _=>rfl
abbrev fV{α:Type}(cf:α->List Value)(v:Value)(e:TypeId)(sz:Nat)(ys:List α):gh:=row v e sz ys.length (ys.flatMap cf)
theorem ov {α:Type}{l:List α}{k:Nat}(h:k<l.length):∃ y,l[k]? = some y:=⟨l[k],zo h⟩
section
variable {α:Type} {sz:Nat} {cf:α->List Value} {ok ok' : Nat->Prop} {w w' w0:World} {v:Value} {xs:List α} {bs:List (World×List Nat)} {L:List gh}
theorem jx.to(h:jx sz cf ok w v xs)(hp:0<sz)(hk:∀ b,ok b->b<w.heap.size->w'.heap[b]? = w.heap[b]?):jx sz cf ok w' v xs:=Sl.to h hk (fun _ _ _ h=>h) hp
theorem St.Aw{X:List Nat}(h:St bs L w)(hb:(w0,X)∈bs)(hp:0<sz)(hI:jx sz cf ok w0 v xs)(hok:∀ b,ok b->b∉X):jx sz cf ok w v xs:=jx.to hI hp fun b hb' hlt=>h.keep hb hlt (hok b hb')
theorem St.ZZ(h:St bs L w)(hb:(w0,[])∈bs)(hp:0<sz)(hI:jx sz cf ok w0 v xs):jx sz cf ok w v xs:=h.Aw hb hp hI fun _ _=>sw
theorem jx.place{k:Nat}{c:α}(h:jx sz cf ok w v xs)(hk:xs[k]? = some c):∃ b o m cp,v = .slice (some ⟨b,o,none⟩) m cp/\k<m/\ok b/\(cf c).length=sz/\∀ j u,(cf c)[j]? = some u->w.cell? ⟨b,o+k*sz+j,none⟩=some u:=by
 have hlt:=(zb.1 hk).1
 obtain⟨a,cp,rfl,h1,h2,h3⟩:=h
 obtain⟨b,o,vs,rfl,hb,hl,rfl,hc⟩:=h3 k c hk
 exact⟨b,o,_,cp,rfl,hlt,hb,hl,hc⟩
theorem xh(hl:∀ x:α,(cf x).length=sz):∀ (xs:List α) (k j:Nat) (x:α) (u:Value),xs[k]? = some x->(cf x)[j]? = some u->(xs.flatMap cf)[k*sz+j]? = some u:=by
 intro xs
 induction xs with
 | nil=>intro k j x u h;simp at h
 | cons x0 xs ih =>
  intro k j x u hk hj
  rw[lu]
  cases k with
  | zero =>
   simp at hk
   subst hk
   have hlt:j<(cf x0).length:=(zb.1 hj).1
   rw[tS o_]
   simpa using hj
  | succ k =>
   have:=ih k j x u (by simpa using hk) hj
   rw[wE (by rw[hl,ot];omega),hl,show (k+1)*sz+j-sz=k*sz+j by rw[ot];omega]
   exact this
theorem St.Ec{i:Nat}{e:TypeId}(h:St bs L w)(hi:L[i]? = some (fV cf v e sz xs))(hl:∀ x:α,(cf x).length=sz):jx sz cf (fun b=>v.ownBlock=some b) w v xs:=by
 have hown:w.ownsRow 0 e sz v xs.length (xs.flatMap cf):=h.own _ (ze hi)
 rcases hown.2 with ⟨rfl,h0⟩|⟨g', cap,cur,rfl,_,hg,h1,h2,_⟩
 . have:xs=[]:=wS h0
   subst this
   exact Sl.nil _ _ _ _
 . refine⟨_,cap,rfl,h1,h2,fun j y hj=>⟨g', 0,cf y,rfl,rfl,hl y,rfl,fun q u hq=>?_⟩⟩
   have:=hown.cells (g:=g') rfl (j*sz+q) u (xh hl xs j q y u hj hq)
   rw[Addr.add_lit]at this
   simpa[ko]using this
theorem jx.src(h:jx sz cf ok w v xs)(hl:∀ x:α,(cf x).length=sz):Src w v sz xs.length (xs.flatMap cf):=by
 obtain⟨a,cp,rfl,h1,h2,h3⟩:=h
 have hlen:(xs.flatMap cf).length=xs.length*sz:=by
  clear h1 h2 h3
  induction xs with
  | nil=>simp
  | cons x xs ih=>rw[lu,zn,hl,ih,zk,ot];omega
 refine⟨a,cp,rfl,hlen,fun j u hj=>?_⟩
 have hj' := (zb.1 hj).1
 rw[hlen]at hj'
 have hsz:0<sz:=by
  rcases wK sz with h0|h0
  . subst h0;omega
  . exact h0
 have hk:j / sz<xs.length:=(Kz hsz).2 hj'
 obtain⟨x,hx⟩:=ov hk
 obtain⟨b,o,vs,rfl,_,_,rfl,hc⟩:=h3 _ x hx
 refine⟨_,rfl,?_⟩
 have hm:j%sz<(cf x).length:=by rw[hl];exact vh _ hsz
 obtain⟨u', hu'⟩:=ov hm
 have h4:=xh hl xs _ _ x u' hx hu'
 rw[Bl]at h4
 rw[hj]at h4
 cases h4
 have h5:=hc _ u hu'
 rw[Addr.add_lit,<-Bl j sz]
 rw[Bl,show o+j=o+j / sz*sz+j%sz by have:=Bl j sz;omega]
 exact h5
end
section
variable {α:Type} {cf:α->List Value} {ok:Nat->Prop} {ys zs:List α} {k:Nat} {c:α} {off off' : Nat}
variable {r:Option Nat} {P:Program} {ops:Array Oper} {Q:Exit->Act->World->Prop} {rest:List Oper} {n:Nat} {s:List (Nat×Value)} {ds:List Deferred} {w w0:World}
variable {d:Nat} {dd:Option Nat} {ty:TypeId} {pos:String} {af:Array Edge} {g:Option (Nat×Bool)} {v u:Value} {x y:Operand} {bs:List (World×List Nat)} {L L' : List gh} {t e T:TypeId} {sz by_ m cnt szf byf:Nat} {z zf:Value} {i:Int} {k' : IntKind} {ud:TypeDesc} {fields:Array Field} {f:Field} {j:Nat}
theorem kz(hx:ev n s x=v)(hy:ev n s y = .int k' i)(ht:P.underlying t=some (.slice e))(hi:TI P e sz by_ z)(hI:jx sz cf ok w0 v ys)(h0:0<=i)(hk:i.toNat=k)(hel:ys[k]? = some c) :
 (execOp (ev n s) ⟨dd,.indexAddr t x y,ty,pos,af,g⟩).run P w = .ok (.value (jC sz v k 0)) w:=by
 subst hk
 rw[TA]
 exact aah hx hy ht hi hI h0 hel
theorem jj(hg:gy ops n s g=true)(hx:ev n s x=v)(hy:ev n s y = .int k' i)(ht:P.underlying t=some (.slice e))(hi:TI P e sz by_ z)(hI:jx sz cf ok w0 v ys)(h0:0<=i)(hk:i.toNat=k)(hel:ys[k]? = some c)
 (K:WL r P ops Q rest (Fr n ((d,jC sz v k 0) :: s) ds) w):WL r P ops Q (⟨some d,.indexAddr t x y,ty,pos,af,g⟩ :: rest) (Fr n s ds) w:=pv hg rfl (kz hx hy ht hi hI h0 hk hel) K
theorem mJ(hx:ev n s x=jC sz v k off)(hT:P.underlying T=some (.struct fields))(hf:fields[j]? = some f)(ht:TI P f.type (szf+1) byf zf)(ho:off+f.offset=off')(hI:jx sz cf ok w0 v ys)(hel:ys[k]? = some c) :
 (execOp (ev n s) ⟨dd,.fieldAddr T x j,ty,pos,af,g⟩).run P w = .ok (.value (jC sz v k off')) w:=by
 obtain⟨b,o,m,cp,rfl,_⟩:=hI.place hel
 subst ho
 exact jy hx hT hf ht (by simp only[ko])
theorem Bb(hg:gy ops n s g=true)(hx:ev n s x=jC sz v k off)(hT:P.underlying T=some (.struct fields))(hf:fields[j]? = some f)(ht:TI P f.type (szf+1) byf zf)(ho:off+f.offset=off')(hI:jx sz cf ok w0 v ys)(hel:ys[k]? = some c)
 (K:WL r P ops Q rest (Fr n ((d,jC sz v k off') :: s) ds) w):WL r P ops Q (⟨some d,.fieldAddr T x j,ty,pos,af,g⟩ :: rest) (Fr n s ds) w:=pv hg rfl (mJ hx hT hf ht ho hI hel) K
theorem mc(hx:ev n s x=jC sz v k off)(hu:P.underlying t=some ud)(hn:lK ud=false)(hI:jx sz cf ok w v ys)(hel:ys[k]? = some c)(hc:(cf c)[off]? = some u) :
 (execOp (ev n s) ⟨dd,.load t x,ty,pos,af,g⟩).run P w = .ok (.value u) w:=by
 obtain⟨b,o,m,cp,rfl,_,_,_,h3⟩:=hI.place hel
 exact gU hx hu hn (h3 off u hc)
theorem l6(hg:gy ops n s g=true)(hx:ev n s x=jC sz v k off)(hu:P.underlying t=some ud)(hn:lK ud=false)(hI:jx sz cf ok w v ys)(hel:ys[k]? = some c)(hc:(cf c)[off]? = some u)
 (K:WL r P ops Q rest (Fr n ((d,u) :: s) ds) w):WL r P ops Q (⟨some d,.load t x,ty,pos,af,g⟩ :: rest) (Fr n s ds) w:=pv hg rfl (mc hx hu hn hI hel hc) K
theorem lJ{cs:List Value}{sz' : Nat}(hx:ev n s x=jC sz v k off)(hu:P.underlying t=some ud)(hn:lK ud=true)(ht:TI P t sz' by_ z)(hI:jx sz cf ok w v ys)(hel:ys[k]? = some c)(hl:cs.length=sz')(hc:((cf c).drop off).take cs.length=cs) :
 (execOp (ev n s) ⟨dd,.load t x,ty,pos,af,g⟩).run P w = .ok (.value (.agg cs.toArray)) w:=by
 obtain⟨b,o,m,cp,rfl,_,_,_,h3⟩:=hI.place hel
 refine pU (b:=b) (o:=o+k*sz+off) hx hu hn ht hl fun j u hj=>?_
 rw[<-hc,qN]at hj
 split at hj
 . rw[Bk]at hj
   have:=h3 (off+j) u hj
   rw[ko]
   simpa[ko]using this
 . cases hj
theorem sj{cs:List Value}{sz' : Nat}(hg:gy ops n s g=true)(hx:ev n s x=jC sz v k off)(hu:P.underlying t=some ud)(hn:lK ud=true)(ht:TI P t sz' by_ z)(hI:jx sz cf ok w v ys)(hel:ys[k]? = some c)(hl:cs.length=sz')(hc:((cf c).drop off).take cs.length=cs)
 (K:WL r P ops Q rest (Fr n ((d,.agg cs.toArray) :: s) ds) w):WL r P ops Q (⟨some d,.load t x,ty,pos,af,g⟩ :: rest) (Fr n s ds) w:=pv hg rfl (lJ hx hu hn ht hI hel hl hc) K
theorem slV{enc:World->α->List Value->Prop}{low high:Option Operand}{l h:Nat}(hg:gy ops n s g=true)(hx:ev n s x=v)(ht:P.underlying t=some (.slice e))(hi:TI P e sz by_ z)
 (hI:Sl sz enc ok w0 v ys) (hlo:match low with|none=>l=0|some p=>∃ k,ev n s p = .int k (l:Int)) (hhi:match high with|none=>h=ys.length|some p=>∃ k,ev n s p = .int k (h:Int)) (hlh:l<=h) (hh:h<=ys.length)
 (K:WL r P ops Q rest (Fr n ((d,Go.Sx.nN sz v l h) :: s) ds) w):WL r P ops Q (⟨some d,.slice t x low high none,ty,pos,af,g⟩ :: rest) (Fr n s ds) w:=pv hg rfl (YP hx ht hi hI hlo hhi hlh hh) K
theorem mZ{LL:Value->List gh}(i:Nat)(hg:gy ops n s g=true)(hx:ev n s x=v)(hy:ev n s y=u)(ht:P.underlying t=some (.slice e))(hi:TI P e sz by_ z)(hzs:z.cells.size=sz)(hsz:0<sz)
 (hst:St bs L w) (hL:L[i]? = some (fV cf v e sz ys)) (hs:Src w u sz zs.length (zs.flatMap cf)) (h1:∀ x∈zs.flatMap cf,x.oneCell' = true) (hb:(ys.length+zs.length)*by_<=140737488355328) (h63:ys.length+zs.length<=9223372036854775807)
 (hLL:∀ v', L.set i (fV cf v' e sz (ys++zs))=LL v')
 (K:∀ v' w', St bs (LL v') w' -> gB v.ownBlock.toList w w' -> WL r P ops Q rest (Fr n ((d,v') :: s) ds) w') :
 WL r P ops Q (⟨some d,.call ⟨.builtin .append,#[x,y],#[t,t]⟩,ty,pos,af,g⟩ :: rest) (Fr n s ds) w:=by
 refine Ra i hg hx hy ht hi hzs hsz hst hL hs h1 hb (by simp only[maxLen];omega) fun v' w' h1 h2=>K v' w' ?_ h2
 rw[<-hLL]
 simpa[fV]using h1
end
structure pQ {α:Type} (sz:Nat) (cf:α->List Value) (w:World) (w' : World) (r:Value) (e:TypeId) (zs:List α):Prop where
 own:w'.ownsRow 0 e sz r zs.length (zs.flatMap cf)
 place:∀ b,r.ownBlock=some b->w.heap.size<=b
section
variable {α:Type} {sz:Nat} {cf:α->List Value} {w w' w0:World} {r:Value} {zs:List α} {bs:List (World×List Nat)} {L:List gh} {e:TypeId}
theorem St.Ux(h:St bs (fV cf r e sz zs :: L) w)(hb:(w0,[])∈bs):pQ sz cf w0 w r e zs:=by
 have hB:=h.base _ hb
 refine⟨h.own (fV cf r e sz zs) s_,fun b hb' => ?_⟩
 rcases hB.mine b (by rw[ou];simp[row,hb'])with h1|h1
 . simp at h1
 . exact h1
theorem St.TR(h:St bs L w)(hc:gB [] w w')(hf:pQ sz cf w w' r e zs):St bs (fV cf r e sz zs :: L) w' :=
 h.q5 hc (fun b hb=>hf.place b (by simpa[row]using hb)) (by show r.ownBlock.toList.Nodup;cases r.ownBlock<;>simp) (fun b hb=>GC hf.own (by simpa[row]using hb)) hf.own
end
end Go.Sx
namespace Go.Sx
open Go
section
variable {α:Type} [Inhabited α] {xs:List α} {k j:Nat} {f:α->α} {x:α}
def fM(xs:List α)(k:Nat):α:=(xs[k]?).getD default
def fR(xs:List α)(k:Nat)(f:α->α):List α:=xs.set k (f (fM xs k))
theorem gA(h:k<xs.length):xs[k]? = some (fM xs k):=by
 obtain⟨y,hy⟩:=ov h
 simp[fM,hy]
theorem EW(h:xs[k]? = some x):fM xs k=x:=by simp[fM,h]
theorem gJ:(fR xs k f).length=xs.length:=by simp[fR]
theorem kQ(h:k<xs.length):fM (fR xs k f) k=f (fM xs k):=by simp[fM,fR,sG,h]
theorem kM(h:k≠j):fM (fR xs k f) j=fM xs j:=by simp[fM,fR,sG,h]
theorem kN(h:k<xs.length):fM (fR xs k f) j=if k=j then f (fM xs k)else fM xs j:=by
 split
 . rename_i e;subst e;exact kQ h
 . rename_i e;exact kM e
end
section
variable {α:Type} {cf:α->List Value} {sz:Nat}
theorem rW(hl:∀ x:α,(cf x).length=sz)(xs:List α):(xs.flatMap cf).length=xs.length*sz:=by
 induction xs with
 | nil=>simp
 | cons x xs ih=>rw[lu,zn,hl,ih,zk,ot];omega
theorem Rx{a b vs:List Value}{o:Nat}:setAt (a++b) (a.length+o) vs=a++setAt b o vs:=by
 unfold setAt
 rw[Bi,C2]
 simp only[Ks,lH]
 rw[sL o_,show a.length+o+vs.length-a.length=o+vs.length by omega,Gr o_,nC]
theorem Ld{a b vs:List Value}{o:Nat}(h:o+vs.length<=a.length):setAt (a++b) o vs=setAt a o vs++b:=by
 unfold setAt
 rw[Ku o_,List.drop_append_of_le_length o_]
 simp only[lH]
theorem VD(hl:∀ x:α,(cf x).length=sz):∀ (xs:List α) (k off:Nat) (x x' : α) (vs:List Value),xs[k]? = some x->cf x' = setAt (cf x) off vs->off+vs.length<=sz->setAt (xs.flatMap cf) (k*sz+off) vs=(xs.set k x').flatMap cf:=by
 intro xs
 induction xs with
 | nil=>intro k off x x' vs h;simp at h
 | cons x0 xs ih =>
  intro k off x x' vs hk hx hv
  cases k with
  | zero =>
   simp at hk
   subst hk
   rw[List.set_cons_zero,lu,lu,Nat.zero_mul,jF,Ld (by rw[hl];exact hv),hx]
  | succ k =>
   rw[List.set_cons_succ,lu,lu,show (k+1)*sz+off=(cf x0).length+(k*sz+off) by rw[hl,ot];omega,Rx]
   rw[ih k off x x' vs (by simpa using hk) hx hv]
end
section
variable {α:Type} [Inhabited α] {cf:α->List Value} {sz:Nat} {w:World} {bs:List (World×List Nat)} {L:List gh} {xs:List α} {b i k off:Nat} {T:TypeId} {v:Value} {vs:List Value} {f:α->α}
theorem St.Iu(h:St bs L w)(hi:L[i]? = some (blk b T (xs.flatMap cf)))(hl:∀ x:α,(cf x).length=sz)(hk:k<xs.length)(hc:(cf (fM xs k))[off]? = some v):w.cell? ⟨b,k*sz+off,none⟩=some v :=
 h.zP hi (xh hl xs k off _ v (gA hk) hc)
theorem St.Nl(h:St bs L w)(hi:L[i]? = some (blk b T (xs.flatMap cf)))(hl:∀ x:α,(cf x).length=sz)(hk:k<xs.length)(hc:((cf (fM xs k)).drop off).take vs.length=vs):∀ j u,vs[j]? = some u->w.cell? ⟨b,k*sz+off+j,none⟩=some u:=by
 intro j u hj
 rw[<-hc,qN]at hj
 split at hj
 . rw[Bk]at hj
   rw[ko]
   exact h.Iu hi hl hk hj
 . cases hj
theorem jP(hl:∀ x:α,(cf x).length=sz)(hk:k<xs.length)(hx:cf (f (fM xs k))=setAt (cf (fM xs k)) off vs)(hv:off+vs.length<=sz):setAt (xs.flatMap cf) (k*sz+off) vs=(fR xs k f).flatMap cf :=
 VD hl xs k off _ _ vs (gA hk) hx hv
theorem jQ(hl:∀ x:α,(cf x).length=sz)(hk:k<xs.length){n:Nat}(hv:off+n<=sz):k*sz+off+n<=(xs.flatMap cf).length:=by
 rw[rW hl]
 have:(k+1)*sz<=xs.length*sz:=wL _ hk
 rw[ot]at this
 omega
end
end Go.Sx
namespace Go.Sx
open Go
section
variable {α:Type} [Inhabited α] {cf:α->List Value} {sz:Nat} {w w0:World} {bs:List (World×List Nat)} {L:List gh} {xs:List α} {b k off:Nat} {T:TypeId} {v:Value} {vs:List Value}
theorem St.EK(h:St bs L w)(hb:(w0,[])∈bs)(h0:(blk b T (xs.flatMap cf)).holds w0)(hl:∀ x:α,(cf x).length=sz)(hk:k<xs.length)(hc:(cf (fM xs k))[off]? = some v):w.cell? ⟨b,k*sz+off,none⟩=some v :=
 h.Jg hb h0 (xh hl xs k off _ v (gA hk) hc)
theorem St.X5(h:St bs L w)(hb:(w0,[])∈bs)(h0:(blk b T (xs.flatMap cf)).holds w0)(hl:∀ x:α,(cf x).length=sz)(hk:k<xs.length)(hc:((cf (fM xs k)).drop off).take vs.length=vs):∀ j u,vs[j]? = some u->w.cell? ⟨b,k*sz+off+j,none⟩=some u:=by
 intro j u hj
 rw[<-hc,qN]at hj
 split at hj
 . rw[Bk]at hj
   rw[ko]
   exact h.EK hb h0 hl hk hj
 . cases hj
end
end Go.Sx
namespace Go.Sx
open Go
section
variable {r:Option Nat} {P:Program} {ops:Array Oper} {Q:Exit->Act->World->Prop} {rest:List Oper} {n:Nat} {s:List (Nat×Value)} {ds:List Deferred} {w:World}
variable {d:Nat} {dd:Option Nat} {ty t e:TypeId} {pos:String} {af:Array Edge} {g:Option (Nat×Bool)} {x y:Operand} {cs:Array Value} {k:IntKind} {i:Int} {len by_:Nat} {u:TypeDesc} {v z:Value}
theorem V9(hx:ev n s x = .agg cs)(hy:ev n s y = .int k i)(ht:P.underlying t=some (.array len e))(he:P.underlying e=some u)(hn:lK u=false)(hi:TI P e 1 by_ z)(h0:0<=i/\i<(len:Int))(hv:cs[i.toNat]? = some v) :
 (execOp (ev n s) ⟨dd,.index t x y,ty,pos,af,g⟩).run P w = .ok (.value v) w:=by
 simp[execOp,hx,hy,Instr.index,asIntOf,run_underlying ht,h0,hi.size,part,qU he,hn,hv]
theorem nt(hg:gy ops n s g=true)(hx:ev n s x = .agg cs)(hy:ev n s y = .int k i)(ht:P.underlying t=some (.array len e))(he:P.underlying e=some u)(hn:lK u=false)(hi:TI P e 1 by_ z)(h0:0<=i/\i<(len:Int))(hv:cs[i.toNat]? = some v)
 (K:WL r P ops Q rest (Fr n ((d,v) :: s) ds) w):WL r P ops Q (⟨some d,.index t x y,ty,pos,af,g⟩ :: rest) (Fr n s ds) w:=pv hg rfl (V9 hx hy ht he hn hi h0 hv) K
end
end Go.Sx
namespace Go.Sx
open Go
section
variable {α:Type} {cf:α->List Value} {sz:Nat} {w:World} {bs:List (World×List Nat)} {L:List gh} {ys:List α} {b i:Nat} {v:Value} {e:TypeId}
theorem St.UH(h:St bs L w)(hi:L[i]? = some (fV cf v e sz ys))(hn:0<ys.length) :
 ∃ b cap ex,v = .slice (some ⟨b,0,none⟩) ys.length cap/\ys.length<=cap/\cap<=maxLen/\(ys.flatMap cf++ex).length=cap*sz/\St bs (L.set i (blk b e (ys.flatMap cf++ex))) w:=by
 have hown:w.ownsRow 0 e sz v ys.length (ys.flatMap cf):=h.own _ (ze hi)
 rcases hown.2 with ⟨_,h0⟩|⟨g', cap,cur,rfl,_,hg,h1,h2,h3,h4⟩
 . omega
 . have e1:cur.toList=ys.flatMap cf++cur.toList.drop (ys.length*sz):=by
    rw[<-h4,yV]
   refine⟨g', cap,cur.toList.drop (ys.length*sz),rfl,h1,h2,by rw[<-e1];simpa using h3,?_⟩
   refine h.iF hi (gB.refl _ _) (fun x hx=>.inl (by simpa[row,Value.ownBlock,blk]using hx)) (by simp[blk]) (fun x hx=>?_) ?_
   . simp[blk]at hx
     subst hx
     exact(z8.1 hg).1
   . show w.heap[g']? = some (.cells (ys.flatMap cf++cur.toList.drop (ys.length*sz)).toArray e (0,0))
     rw[<-e1]
     simpa using hg
theorem St.L3{ex:List Value}{cap:Nat}(h:St bs L w)(hi:L[i]? = some (blk b e (ys.flatMap cf++ex)))(hl:∀ x:α,(cf x).length=sz)(hc:ys.length<=cap)(hm:cap<=maxLen)(hlen:(ys.flatMap cf++ex).length=cap*sz) :
 St bs (L.set i (fV cf (.slice (some ⟨b,0,none⟩) ys.length cap) e sz ys)) w:=by
 have:=h.Pq hi hlen hc hm
 have e2:(ys.flatMap cf).length=ys.length*sz:=rW hl ys
 rw[<-e2,List.take_left]at this
 exact this
theorem St.Xg{m:Nat}(h:St bs L w)(hi:L[i]? = some (fV cf v e sz ys))(hl:∀ x:α,(cf x).length=sz)(hm:m<=ys.length):St bs (L.set i (fV cf (nN sz v 0 m) e sz (ys.take m))) w:=by
 have hown:w.ownsRow 0 e sz v ys.length (ys.flatMap cf):=h.own _ (ze hi)
 have hlt:(ys.take m).length=m:=by rw[l5];omega
 have hfl:(ys.take m).flatMap cf=(ys.flatMap cf).take (m*sz):=by
  have e1:ys.flatMap cf=(ys.take m).flatMap cf++(ys.drop m).flatMap cf:=by rw[<-List.flatMap_append,yV]
  have e2:((ys.take m).flatMap cf).length=m*sz:=by rw[rW hl,hlt]
  rw[e1,<-e2,List.take_left]
 rcases hown.2 with ⟨rfl,h0⟩|⟨g', cap,cur,rfl,_,hg,h1,h2,h3,h4⟩
 . have h9:m=0:=by omega
   subst h9
   refine h.iF hi (gB.refl _ _) (fun x hx=>.inl (by simp[row,Value.ownBlock,nN]at hx)) (by simp[row,Value.ownBlock,nN]) (fun x hx=>by simp[row,Value.ownBlock,nN]at hx) ?_
   exact⟨s_,.inl ⟨by simp[nN],s_⟩⟩
 . have hv:nN sz (.slice (some ⟨g', 0,none⟩) ys.length cap) 0 m = .slice (some ⟨g', 0,none⟩) m cap:=by
    simp only[nN,yM,Nat.zero_mul,oE,Addr.add_lit,nF]
    split<;>rfl
   rw[hv]
   refine h.iF hi (gB.refl _ _) (fun x hx=>.inl (by simpa[row,Value.ownBlock]using hx)) (by simp[row,Value.ownBlock]) (fun x hx=>?_) ?_
   . simp[row,Value.ownBlock]at hx
     subst hx
     exact(z8.1 hg).1
   . refine⟨by rw[rW hl],.inr ⟨g', cap,cur,by rw[hlt],oG _,hg,by rw[hlt];omega,h2,h3,?_⟩⟩
     rw[hlt,hfl,<-h4,List.take_take,CU (wL _ hm)]
end
section
variable {α:Type} [Inhabited α] {cf:α->List Value} {sz:Nat} {w:World} {bs:List (World×List Nat)} {L L' : List gh} {ys:List α} {b i k off:Nat} {v u:Value} {e:TypeId} {vs:List Value} {f:α->α}
variable {r:Option Nat} {P:Program} {ops:Array Oper} {Q:Exit->Act->World->Prop} {rest l:List Oper} {n:Nat} {s s0:List (Nat×Value)} {ds:List Deferred} {Nx:Value->World->Prop}
variable {d:Nat} {dd:Option Nat} {ty t:TypeId} {pos:String} {af:Array Edge} {g:Option (Nat×Bool)} {x y:Operand} {szt by_:Nat} {z:Value}
theorem OP(i:Nat)(hx:ev n s x=jC sz v k off)(hy:ev n s y=u)(hvs:u.cells.toList=vs)(ht:TI P t szt by_ z)(hsz:vs.length=szt)(h1:vs.all (·.oneCell')=true)(hst:St bs L w)(hi:L[i]? = some (fV cf v e sz ys))(hl:∀ x:α,(cf x).length=sz)(hk:k<ys.length)(hoff:Nat.ble (off+vs.length) sz=true)
 (hf:cf (f (fM ys k))=setAt (cf (fM ys k)) off vs) (hL:L.set i (fV cf v e sz (fR ys k f))=L') :
 ∃ w', (execOp (ev n s) ⟨dd,.store t x y,ty,pos,af,g⟩).run P w = .ok .skip w' /\ St bs L' w' := by
 have hoff:=za hoff
 have hil:=(zb.1 hi).1
 obtain⟨b,cap,ex,rfl,hc,hm,hlen,hs⟩:=hst.UH hi o_
 have hx' : ev n s x = .pointer (some ⟨b,k*sz+off,none⟩):=by rw[hx];simp[jC]
 have hfit:=jQ hl hk (n:=vs.length) hoff
 have hb:(L.set i (blk b e (ys.flatMap cf++ex)))[i]? = some (blk b e (ys.flatMap cf++ex)):=by simp[hil]
 obtain⟨w', hr,hs', _⟩:=Jz (dd:=dd) (ty:=ty) (pos:=pos) (af:=af) (g:=g) (cs' := (fR ys k f).flatMap cf++ex) i hx' hy hvs ht hsz h1 hs hb (by rw[zn];omega) (by rw[Ld hfit,jP hl hk hf hoff]) rfl
 refine⟨w', hr,?_⟩
 have hlen' : ((fR ys k f).flatMap cf++ex).length=cap*sz:=by rw[<-hlen,zn,zn,rW hl,rW hl,gJ]
 have:=hs'.L3 (ys:=fR ys k f) (ex:=ex) (cap:=cap) (i:=i) (b:=b) (e:=e) (by simp[hil]) hl (by rw[gJ];exact hc) hm hlen'
 subst hL
 simpa[gJ]using this
theorem se(i:Nat)(hg:gy ops n s g=true)(hx:ev n s x=jC sz v k off)(hy:ev n s y=u)(hvs:u.cells.toList=vs)(ht:TI P t szt by_ z)(hsz:vs.length=szt)(h1:vs.all (·.oneCell')=true)(hst:St bs L w)(hi:L[i]? = some (fV cf v e sz ys))(hl:∀ x:α,(cf x).length=sz)(hk:k<ys.length)(hoff:Nat.ble (off+vs.length) sz=true)
 (hf:cf (f (fM ys k))=setAt (cf (fM ys k)) off vs) (hL:L.set i (fV cf v e sz (fR ys k f))=L')
 (K:∀ w', St bs L' w' -> WL r P ops Q rest (Fr n s ds) w'):WL r P ops Q (⟨none,.store t x y,ty,pos,af,g⟩ :: rest) (Fr n s ds) w:=by
 obtain⟨w', h2,h3⟩:=OP (dd:=none) (ty:=ty) (pos:=pos) (af:=af) (g:=g) i hx hy hvs ht hsz h1 hst hi hl hk hoff hf hL
 exact zQ hg rfl h2 (K w' h3)
theorem Ev(i:Nat)(hg:gy ops n s g=true)(hx:ev n s x=jC sz v k off)(hy:ev n s y=u)(hvs:u.cells.toList=vs)(ht:TI P t szt by_ z)(hsz:vs.length=szt)(h1:vs.all (·.oneCell')=true)(hst:St bs L w)(hi:L[i]? = some (fV cf v e sz ys))(hl:∀ x:α,(cf x).length=sz)(hk:k<ys.length)(hoff:Nat.ble (off+vs.length) sz=true)
 (hf:cf (f (fM ys k))=setAt (cf (fM ys k)) off vs) (hL:L.set i (fV cf v e sz (fR ys k f))=L')
 (K:∀ w', St bs L' w' -> Nx undef w'):lB P ops Q n ds s0 l ⟨none,.store t x y,ty,pos,af,g⟩ s Nx w:=by
 obtain⟨w', h2,h3⟩:=OP (dd:=none) (ty:=ty) (pos:=pos) (af:=af) (g:=g) i hx hy hvs ht hsz h1 hst hi hl hk hoff hf hL
 exact A7 hg rfl h2 (K w' h3)
end
section
variable {α:Type}
def gG(cf:α->List Value)(T:TypeId)(B:Nat)(ps:List (Option Nat))(xs:List α):gh where
 gT:=ps.filterMap id
 holds w:=∀ (j b:Nat),ps[j]? = some (some b)->w.heap[b]? = some (.cells (((xs.drop (B*j)).take B).flatMap cf).toArray T (0,0))
 loc w w' h hh j b hb:=by
  rw[h b (CD.2 ⟨some b,ze hb,rfl⟩)]
  exact hh j b hb
def gN(p:Option Nat):List Value:=[.pointer (p.map fun b=>⟨b,0,none⟩)]
variable [Inhabited α] {cf:α->List Value} {sz B:Nat} {w:World} {bs:List (World×List Nat)} {L:List gh} {xs C:List α} {b i k off j:Nat} {v:Value} {T:TypeId} {vs:List Value} {f:α->α} {ps:List (Option Nat)}
theorem mem_some{ps:List (Option Nat)}{j b:Nat}(h:ps[j]? = some (some b)):b∈ps.filterMap id:=CD.2 ⟨some b,ze h,rfl⟩
theorem Ik(hB:0<B)(hk:k<xs.length):fM ((xs.drop (B*(k / B))).take B) (k%B)=fM xs k/\k%B<((xs.drop (B*(k / B))).take B).length:=by
 have h1:=vh k hB
 have h2:=Nat.div_add_mod k B
 constructor
 . unfold fM
   rw[qN,if_pos h1,Bk,h2]
 . rw[l5,wU];omega
theorem St.WN(h:St bs L w)(hi:L[i]? = some (gG cf T B ps xs))(hl:∀ x:α,(cf x).length=sz)(hB:0<B)(hk:k<xs.length)(hp:ps[k / B]? = some (some b))(hc:(cf (fM xs k))[off]? = some v):w.cell? ⟨b,k%B*sz+off,none⟩=some v:=by
 have hh:=h.own _ (ze hi) _ _ hp
 rw[cell_of_row w b _ _ T (0,0) hh]
 obtain⟨h1,h2⟩:=Ik hB hk
 have:=xh hl _ (k%B) off _ v (gA h2) (by rw[h1];exact hc)
 simpa using this
theorem RB(hB:0<B)(hk:k<xs.length):((fR xs k f).drop (B*(k / B))).take B=fR ((xs.drop (B*(k / B))).take B) (k%B) f:=by
 obtain⟨h1,h2⟩:=Ik hB hk
 have h3:=vh k hB
 have h4:=Nat.div_add_mod k B
 unfold fR
 rw[h1,List.drop_set,if_neg o_,List.take_set]
 congr 1
 omega
theorem R7(hB:0<B){j:Nat}(hj:j≠k / B):((fR xs k f).drop (B*j)).take B=(xs.drop (B*j)).take B:=by
 have h3:=vh k hB
 have h4:=Nat.div_add_mod k B
 unfold fR
 rw[List.drop_set]
 split
 . rfl
 . rename_i hlt
   rw[List.take_set_of_le]
   rcases qH j (k / B)with h|h
   . have:B*(j+1)<=B*(k / B):=CG _ h
     rw[Be]at this
     omega
   . have:B*(k / B+1)<=B*j:=CG _ o_
     rw[Be]at this
     omega
end
section
variable {α:Type} [Inhabited α] {cf:α->List Value} {sz B:Nat} {w:World} {bs:List (World×List Nat)} {L L' : List gh} {xs C:List α} {b i k off j:Nat} {v u:Value} {T:TypeId} {vs:List Value} {f:α->α} {ps:List (Option Nat)}
variable {r:Option Nat} {P:Program} {ops:Array Oper} {Q:Exit->Act->World->Prop} {rest l:List Oper} {n:Nat} {s s0:List (Nat×Value)} {ds:List Deferred} {Nx:Value->World->Prop}
variable {d:Nat} {dd:Option Nat} {ty t:TypeId} {pos:String} {af:Array Edge} {g:Option (Nat×Bool)} {x y:Operand} {szt by_:Nat} {z:Value}
theorem XZ(i:Nat)(hx:ev n s x = .pointer (some ⟨b,k%B*sz+off,none⟩))(hy:ev n s y=u)(hvs:u.cells.toList=vs)(ht:TI P t szt by_ z)(hsz:vs.length=szt)(h1:vs.all (·.oneCell')=true)(hst:St bs L w)(hi:L[i]? = some (gG cf T B ps xs))(hl:∀ x:α,(cf x).length=sz)(hB:0<B)(hk:k<xs.length)(hp:ps[k / B]? = some (some b))(hoff:Nat.ble (off+vs.length) sz=true)
 (hf:cf (f (fM xs k))=setAt (cf (fM xs k)) off vs) (hL:L.set i (gG cf T B ps (fR xs k f))=L') :
 ∃ w', (execOp (ev n s) ⟨dd,.store t x y,ty,pos,af,g⟩).run P w = .ok .skip w' /\ St bs L' w' := by
 have hoff:=za hoff
 obtain⟨c1,c2⟩:=Ik (xs:=xs) hB hk
 have hown:=hst.own _ (ze hi)
 have hh:=hown _ _ hp
 obtain⟨ch,hch⟩:∃ ch,ch=(xs.drop (B*(k / B))).take B:=⟨_,rfl⟩
 rw[<-hch]at c1 c2 hh
 have hfit:=jQ hl c2 (n:=vs.length) hoff
 have hrun:=run_storeCells_at P b (k%B*sz+off) T vs 0 (ch.flatMap cf).toArray w hh (by simpa using hfit) (by simpa using h1)
 have hlen:u.cells.size=szt:=by rw[<-hsz,<-hvs];simp
 have hset:setAt (ch.flatMap cf) (k%B*sz+off) vs=(fR ch (k%B) f).flatMap cf:=jP hl c2 (by rw[c1];exact hf) hoff
 have hfoot:∀ x∈(gG cf T B ps xs).gT,x<w.heap.size:=fun x hx=>hst.lt x (qm hi hx)
 have hnd:(ps.filterMap id).Nodup:=sublist_nodup' hst.sep (ze hi)
 refine⟨w.setRow b ((setAt (ch.flatMap cf) (k%B*sz+off) vs).toArray),?_,?_⟩
 . simp only[execOp,hx,hy,Instr.storeAt,Instr.sureAddr,storeVar,zj,zm,zd,ht.size,hlen,ne_eq,not_true,if_false,hvs]
   simp only[nF]at hrun
   simp[hrun,setAt]
 . subst hL
   refine hst.iF hi ((gB.setRow w b _).mono (fun x hx=>?_)) (fun c hc=>.inl hc) hnd (fun c hc=>?_) ?_
   . simp only[mj]at hx
     subst hx
     exact mem_some hp
   . have:=hfoot c hc
     simpa using this
   . intro q c hq
     by_cases hqk:q=k / B
     . subst hqk
       rw[hp]at hq
       cases hq
       rw[RB hB hk,<-hch,<-hset]
       exact setRow_heap w b (ch.flatMap cf).toArray _ T (0,0) hh
     . rw[R7 hB hqk]
       have hne:c≠b:=by
        intro e'
        subst e'
        exact hqk (some_inj hnd hq hp)
       have h8:(w.setRow b ((setAt (ch.flatMap cf) (k%B*sz+off) vs).toArray)).heap[c]? = w.heap[c]? := setRow_other w b c _ hne
       rw[h8]
       exact hown q c hq
where
 sublist_nodup' {L:List gh} {R:gh} (h:(iT L).Nodup) (hR:R∈L):R.gT.Nodup:=GA h hR
 some_inj {ps:List (Option Nat)} {b:Nat}:∀ {i j:Nat},(ps.filterMap id).Nodup->ps[i]? = some (some b)->ps[j]? = some (some b)->i=j:=by
  induction ps with
  | nil=>intro i j _ h;simp at h
  | cons p ps ih =>
   intro i j hn hi hj
   have hn' : (ps.filterMap id).Nodup:=by
    cases p with
    | none=>simpa using hn
    | some q=>rw[wz]at hn;exact(zx.1 hn).2
   have hnot:p=some b->b∉ps.filterMap id:=fun e' => by
    subst e'
    rw[wz]at hn
    exact(zx.1 hn).1
   cases i with
   | zero =>
    simp at hi
    cases j with
    | zero=>rfl
    | succ j=>exact absurd (mem_some (by simpa using hj)) (hnot hi)
   | succ i =>
    cases j with
    | zero =>
     simp at hj
     exact absurd (mem_some (by simpa using hi)) (hnot hj)
    | succ j=>exact congrArg (· + 1) (ih hn' (by simpa using hi) (by simpa using hj))
theorem qA(i:Nat)(hg:gy ops n s g=true)(hx:ev n s x = .pointer (some ⟨b,k%B*sz+off,none⟩))(hy:ev n s y=u)(hvs:u.cells.toList=vs)(ht:TI P t szt by_ z)(hsz:vs.length=szt)(h1:vs.all (·.oneCell')=true)(hst:St bs L w)(hi:L[i]? = some (gG cf T B ps xs))(hl:∀ x:α,(cf x).length=sz)(hB:0<B)(hk:k<xs.length)(hp:ps[k / B]? = some (some b))(hoff:Nat.ble (off+vs.length) sz=true)
 (hf:cf (f (fM xs k))=setAt (cf (fM xs k)) off vs) (hL:L.set i (gG cf T B ps (fR xs k f))=L')
 (K:∀ w', St bs L' w' -> WL r P ops Q rest (Fr n s ds) w'):WL r P ops Q (⟨none,.store t x y,ty,pos,af,g⟩ :: rest) (Fr n s ds) w:=by
 obtain⟨w', h2,h3⟩:=XZ (dd:=none) (ty:=ty) (pos:=pos) (af:=af) (g:=g) i hx hy hvs ht hsz h1 hst hi hl hB hk hp hoff hf hL
 exact zQ hg rfl h2 (K w' h3)
end
section
variable {α:Type} {cf:α->List Value} {sz B:Nat} {w:World} {bs:List (World×List Nat)} {L:List gh} {xs C:List α} {b j:Nat} {T:TypeId} {ps:List (Option Nat)}
theorem St.OX{R R' R'' : gh}(h:St bs (R :: R' :: L) w)(hf:R''.gT.Perm (R.gT++R'.gT))(hh:R.holds w->R'.holds w->R''.holds w):St bs (R'' :: L) w:=by
 have hp:(iT (R'' :: L)).Perm (iT (R :: R' :: L)):=by
  rw[ou,ou,ou,<-lH]
  exact hf.append_right _
 refine⟨fun p hp' => ⟨(h.base p hp').gK,fun b hb=>(h.base p hp').mine b (hp.mem_iff.1 hb)⟩,fun Q hQ=>?_,hp.nodup_iff.2 h.sep,fun b hb=>h.lt b (hp.mem_iff.1 hb)⟩
 rcases zg.1 hQ with rfl|hQ
 . exact hh (h.own R s_) (h.own R' s_)
 . exact h.own Q (by simp[hQ])
theorem RO{ps:List (Option Nat)}{b:Nat}:∀ {j:Nat},ps[j]? = some none->((ps.set j (some b)).filterMap id).Perm (b :: ps.filterMap id):=by
 induction ps with
 | nil=>intro j h;simp at h
 | cons p ps ih =>
  intro j h
  cases j with
  | zero =>
   simp at h
   subst h
   simp
  | succ j =>
   have:=ih (by simpa using h)
   cases p with
   | none=>simpa using this
   | some q =>
    simp only[List.set_cons_succ,wz,id]
    exact(List.Perm.cons q this).trans (List.Perm.swap _ _ _)
theorem St.Oc{cs:List Value}(h:St bs (blk b T cs :: gG cf T B ps xs :: L) w)(hj:ps[j]? = some none)(hC:cs=((xs.drop (B*j)).take B).flatMap cf):St bs (gG cf T B (ps.set j (some b)) xs :: L) w:=by
 have hjl:=(zb.1 hj).1
 refine h.OX (by simpa[gG,blk]using RO hj) fun h1 h2 q c hq=>?_
 rw[sG]at hq
 split at hq
 . rename_i e'
   subst e'
   cases hq
   rw[<-hC]
   exact h1
 . exact h2 q c hq
theorem St.Ny{cs:List Value}(h:St bs (blk b T cs :: gG cf T B ps xs :: L) w)(hx:xs.length=B*ps.length)(hn:C.length=B)(hC:cs=C.flatMap cf):St bs (gG cf T B (ps++[some b]) (xs++C) :: L) w:=by
 refine h.OX (by simp only[gG,blk,KZ];exact sC) fun h1 h2 q c hq=>?_
 rw[yQ]at hq
 split at hq
 . rename_i hlt
   have:B*(q+1)<=B*ps.length:=CG _ hlt
   rw[Be]at this
   rw[List.drop_append_of_le_length o_,Ku (by rw[wU];omega)]
   exact h2 q c hq
 . rename_i hge
   have hq' : q=ps.length:=by
    have:=(zb.1 hq).1
    simp at this
    omega
   subst hq'
   simp at hq
   subst hq
   rw[<-hx,List.drop_left,sL o_,<-hC]
   exact h1
theorem St.Ez(h:St bs L w)(m:Nat):St bs (gG cf T B (List.replicate m none) xs :: L) w:=by
 refine h.add (lo:=w.heap.size) (fun p hp=>(h.base p hp).gK.size) h.lt (fun b hb=>?_) ?_ (fun b hb=>?_) ?_
 . simp[gG]at hb
 . simp[gG]
 . simp[gG]at hb
 . intro j b hb
   have:=ze hb
   simp at this
end
section
variable {α:Type} {cf:α->List Value} {z0:α}
theorem RF{z:Value}{sz:Nat}(hz:z.cells.toList=cf z0)(hl:∀ x:α,(cf x).length=sz)(hsz:0<sz)(c:Nat):madeCells z.cells (c*sz)=((List.replicate c z0).flatMap cf).toArray:=by
 have hzs:z.cells.size=sz:=by rw[<-tH,hz,hl]
 apply Array.ext'
 apply nE
 intro i
 by_cases hi:i<c*sz
 . have h1:i / sz<c:=(Kz hsz).2 hi
   have h2:i%sz<(cf z0).length:=by rw[hl];exact vh _ hsz
   obtain⟨u,hu⟩:=ov h2
   have h3:=xh hl (List.replicate c z0) (i / sz) (i%sz) z0 u (by rw[AT,if_pos h1]) hu
   rw[Bl]at h3
   have h4:z.cells[i%z.cells.size]! = u:=by
    have h6:z.cells.toList[i%sz]? = some u:=by rw[hz];exact hu
    have h5:z.cells[i%sz]? = some u:=by rw[<-sJ];exact h6
    rw[hzs,getElem!_def,h5]
   have h7:(madeCells z.cells (c*sz)).toList[i]? = some (z.cells[i%z.cells.size]!):=by simp[madeCells,hi]
   rw[h7,h4]
   simpa using h3.symm
 . have h1:(madeCells z.cells (c*sz)).toList[i]? = none:=by rw[nk];simp[madeCells];omega
   have h2:((List.replicate c z0).flatMap cf).length=c*sz:=by rw[rW hl,Ko]
   rw[h1]
   symm
   apply nk
   simp only[h2]
   omega
end
section
variable {α:Type} {cf:α->List Value} {z0:α}
variable {r:Option Nat} {P:Program} {ops:Array Oper} {Q:Exit->Act->World->Prop} {rest l:List Oper} {n:Nat} {s s0:List (Nat×Value)} {ds:List Deferred} {w:World} {Nx:Value->World->Prop}
variable {d:Nat} {dd:Option Nat} {ty t e:TypeId} {pos:String} {af:Array Edge} {g:Option (Nat×Bool)} {x y:Operand} {sz by_:Nat} {z:Value} {bs:List (World×List Nat)} {L:List gh}
theorem Ov{k k' : IntKind}{c m:Nat}(hx:ev n s x = .int k (m:Int))(hy:ev n s y = .int k' (c:Int))(ht:P.underlying t=some (.slice e))(hi:TI P e sz by_ z)(hz:z.cells.toList=cf z0)(hl:∀ x:α,(cf x).length=sz)(hsz:0<sz)(hm:m<=c)(hb:by_*c<=281474976710656)(h63:c<=9223372036854775807) :
 (execOp (ev n s) ⟨dd,.makeSlice t x y,ty,pos,af,g⟩).run P w = .ok (.value (.slice (some ⟨w.heap.size,0,none⟩) m c)) (w.alloc (.cells ((List.replicate c z0).flatMap cf).toArray e)):=by
 obtain⟨i,hii,h1,h2,h3⟩:=hi.get
 subst h2
 have hr:=run_make (P:=P) w t e i z ht hii h3 k k' m c o_ o_ (by rw[<-Int.natCast_mul];omega) o_
 simp only[ua,h1]at hr
 rw[RF hz hl hsz]at hr
 simp only[execOp,hx,hy,zj,hr,zd,zm]
theorem E4{k k' : IntKind}{c m:Nat}(hg:gy ops n s g=true)(hx:ev n s x = .int k (m:Int))(hy:ev n s y = .int k' (c:Int))(ht:P.underlying t=some (.slice e))(hi:TI P e sz by_ z)(hz:z.cells.toList=cf z0)(hl:∀ x:α,(cf x).length=sz)(hsz:0<sz)(hm:m<=c)(hb:by_*c<=281474976710656)(h63:c<=9223372036854775807)(hst:St bs L w)
 (K:∀ b w', w.heap.size<=b->gB [] w w' -> St bs (blk b e ((List.replicate c z0).flatMap cf) :: L) w' -> WL r P ops Q rest (Fr n ((d,.slice (some ⟨b,0,none⟩) m c) :: s) ds) w') :
 WL r P ops Q (⟨some d,.makeSlice t x y,ty,pos,af,g⟩ :: rest) (Fr n s ds) w :=
 pv hg rfl (Ov hx hy ht hi hz hl hsz hm hb h63) (K _ _ (zp _) (gB.alloc [] w _) (xD hst e _))
theorem Ou{k k' : IntKind}{c m:Nat}(hg:gy ops n s g=true)(hx:ev n s x = .int k (m:Int))(hy:ev n s y = .int k' (c:Int))(ht:P.underlying t=some (.slice e))(hi:TI P e sz by_ z)(hz:z.cells.toList=cf z0)(hl:∀ x:α,(cf x).length=sz)(hsz:0<sz)(hm:m<=c)(hb:by_*c<=281474976710656)(h63:c<=9223372036854775807)(hst:St bs L w)
 (K:∀ b w', St bs (blk b e ((List.replicate c z0).flatMap cf) :: L) w' -> Nx (.slice (some ⟨b,0,none⟩) m c) w') :
 lB P ops Q n ds s0 l ⟨dd,.makeSlice t x y,ty,pos,af,g⟩ s Nx w :=
 wB hg rfl (Ov hx hy ht hi hz hl hsz hm hb h63) (K _ _ (xD hst e _))
theorem St.Ei{b c m i:Nat}(h:St bs L w)(hi:L[i]? = some (blk b e ((List.replicate c z0).flatMap cf)))(hl:∀ x:α,(cf x).length=sz)(hm:m<=c)(hc:c<=maxLen):St bs (L.set i (fV cf (.slice (some ⟨b,0,none⟩) m c) e sz (List.replicate m z0))) w:=by
 have e1:(List.replicate c z0).flatMap cf=(List.replicate m z0).flatMap cf++(List.replicate (c-m) z0).flatMap cf:=by
  rw[<-List.flatMap_append,List.replicate_append_replicate]
  congr 2
  omega
 rw[e1]at hi
 have:=h.L3 (cf:=cf) (ys:=List.replicate m z0) (cap:=c) hi hl (by simpa using hm) hc (by rw[<-e1,rW hl,Ko])
 simpa using this
end
theorem St.made{w w' : World}{bs:List (World×List Nat)}{L:List gh}{R:gh}(h:St bs L w)(ht:gm (gF []) w w' R):St bs (R :: L) w' :=
 h.q5 (by simpa[gF,iT]using ht.gK) (fun b hb=>(ht.place b hb).elim (fun h=>by simp[gF,iT]at h) id) ht.nodup ht.lt ht.holds
theorem St.BS{w w' : World}{bs:List (World×List Nat)}{L:List gh}{R:gh}(h:St bs (R :: L) w')(hb:(w,[])∈bs):gm (gF []) w w' R:=h.D9 (R:=gF []) hb
section
variable {P:Program} {ops:Array Oper} {Q:Exit->Act->World->Prop} {l:List Oper} {n:Nat} {s s0:List (Nat×Value)} {ds:List Deferred} {w:World} {Nx:Value->World->Prop}
variable {dd:Option Nat} {ty t e:TypeId} {pos:String} {af:Array Edge} {g:Option (Nat×Bool)} {sz by_:Nat} {z:Value} {bs:List (World×List Nat)} {L:List gh}
theorem Ap{len:Nat}{ps:List (Nat×Operand)}{vs cs:List Value}(hg:gy ops n s g=true)(hp:ps.map (fun q=>(q.1,ev n s q.2))=idx 0 vs)(ht:P.underlying t=some (.slice e))(hi:TI P e sz by_ z)
 (hlen:vs.length=len) (hv:∀ v∈vs,v.cells.size=sz) (hcs:vs.flatMap (·.cells.toList)=cs) (hsmall:Nat.ble (len*sz) 16777216=true) (h63:Nat.ble len 16777216=true) (hst:St bs L w)
 (K:∀ b w', St bs (row (.slice (some ⟨b,0,none⟩) len len) e sz len cs :: L) w' -> Nx (.slice (some ⟨b,0,none⟩) len len) w') :
 lB P ops Q n ds s0 l ⟨dd,.buildSlice t len ps.toArray,ty,pos,af,g⟩ s Nx w:=by
 subst hlen hcs
 have hfl:(vs.flatMap (·.cells.toList)).length=vs.length*sz:=by
  clear hp hsmall h63 K
  induction vs with
  | nil=>simp
  | cons v vs ih=>simp only[lu,zn,zk,tH,hv v s_,ih (fun u hu=>hv u (by simp[hu])),ot];omega
 refine wB hg rfl (JM hp ht hi ?_ (za hsmall)) (K _ _ (NN hst e sz _ _ hfl (by have:=za h63;simp only[maxLen];omega)))
 rw[MN sz vs 0 _ hv s_]
 simp
end
theorem zK{e:Option Nat}{b:Nat}(h:e=some b):Value.pointer (e.map fun b=>(⟨b,0,none⟩:Addr)) = .pointer (some ⟨b,0,none⟩):=by rw[h];rfl
def xW:Value->Bool
 | .slice none _ _=>true
 | _=>false
section
variable {r:Option Nat} {P:Program} {ops:Array Oper} {Q:Exit->Act->World->Prop} {rest:List Oper} {n:Nat} {s:List (Nat×Value)} {ds:List Deferred} {w w0 w' : World} {d:Nat} {ty t t' e:TypeId} {pos:String} {af:Array Edge} {g:Option (Nat×Bool)} {v:Value} {x y:Operand}
theorem Ek{α:Type}{sz:Nat}{enc:World->α->List Value->Prop}{ok:Nat->Prop}{ys:List α}(hg:gy ops n s g=true)(hx:ev n s x=v)(hy:ev n s y = .slice none 0 0)(ht:P.underlying t=some (.slice e))(hI:Sl sz enc ok w0 v ys)
 (K:WL r P ops Q rest (Fr n ((d,.bool (xW v)) :: s) ds) w):WL r P ops Q (⟨some d,.binOp .eql t x y t', ty,pos,af,g⟩ :: rest) (Fr n s ds) w:=by
 obtain⟨a,c,rfl,_⟩:=hI
 have:xW (.slice a ys.length c)=a.isNone:=by cases a<;>rfl
 rw[this]at K
 exact XH hg hx hy ht K
theorem DZ{α:Type}{sz:Nat}{enc:World->α->List Value->Prop}{ok:Nat->Prop}{ys:List α}(h:xW v=true)(hI:Sl sz enc ok w0 v ys):ys=[]:=by
 obtain⟨a,c,rfl,h1,h2,h3⟩:=hI
 cases ys with
 | nil=>rfl
 | cons y ys =>
  obtain⟨b,o,vs,ha,_⟩:=h3 0 y rfl
  subst ha
  cases h
theorem pQ.Fg {α:Type}{sz:Nat}{cf:α->List Value}{e:TypeId}:pQ sz cf w w' (.slice none 0 0) e ([]:List α):=⟨⟨s_,.inl ⟨rfl,rfl⟩⟩,fun b hb=>by simp[Value.ownBlock]at hb⟩
end
section
variable {α:Type} {cf:α->List Value} {w:World} {bs:List (World×List Nat)} {L:List gh} {xs:List α} {b i j B:Nat} {T:TypeId} {ps:List (Option Nat)}
theorem St.M8(h:St bs L w)(hi:L[i]? = some (gG cf T B ps xs))(hp:ps[j]? = some (some b)):∀ q u,(((xs.drop (B*j)).take B).flatMap cf)[q]? = some u->w.cell? ⟨b,0+q,none⟩=some u:=by
 intro q u hq
 have hh:=h.own _ (ze hi) _ _ hp
 rw[cell_of_row w b _ _ T (0,0) hh]
 simpa using hq
theorem L6{sz:Nat}(hl:∀ x:α,(cf x).length=sz)(hx:xs.length=B*ps.length)(hj:j<ps.length):(((xs.drop (B*j)).take B).flatMap cf).length=B*sz:=by
 rw[rW hl,l5,wU]
 have:B*(j+1)<=B*ps.length:=CG _ hj
 rw[Be]at this
 have e:min B (xs.length-B*j)=B:=by omega
 rw[e]
theorem L8{cs vs:List Value}(h:vs.length=cs.length):setAt cs 0 vs=vs:=by
 unfold setAt
 rw[List.take_zero,nC,jF,Gr o_,mD]
end
theorem zM{α:Type}{cf:α->List Value}(h:∀ a,(cf a).all (·.oneCell')=true)(xs:List α):∀ x∈xs.flatMap cf,x.oneCell' = true:=by
 intro x hx
 obtain⟨a,_,ha⟩:=p7.1 hx
 exact zz.1 (h a) x ha
structure qQ (ps qs:List (Option Nat)) (k:Nat):Prop where
 len:qs.length=ps.length
 rest:∀ j,k<=j->j<ps.length->qs[j]? = some none
 done:∀ j,j<k->qs[j]? = some none->ps[j]? = some none
theorem qQ.start(ps:List (Option Nat)):qQ ps (List.replicate ps.length none) 0 :=
 ⟨s_,fun j _ hj=>by rw[AT,if_pos hj],fun j hj=>absurd hj o_⟩
theorem qQ.skip{ps qs:List (Option Nat)}{k:Nat}(h:qQ ps qs k)(hk:ps[k]? = some none):qQ ps qs (k+1) :=
 ⟨h.len,fun j h1 h2=>h.rest j o_ h2,fun j h1 h2=>by
  by_cases e:j=k
  . subst e;exact hk
  . exact h.done j o_ h2⟩
theorem qQ.set{ps qs:List (Option Nat)}{k b:Nat}(h:qQ ps qs k)(hk:k<ps.length):qQ ps (fR qs k (fun _=>some b)) (k+1):=by
 have hl:=h.len
 refine⟨by rw[gJ];exact hl,fun j h1 h2=>?_,fun j h1 h2=>?_⟩
 . unfold fR
   rw[List.getElem?_set_ne o_]
   exact h.rest j o_ h2
 . unfold fR at h2
   by_cases e:k=j
   . subst e
     rw[sG,if_pos rfl,if_pos o_]at h2
     cases h2
   . rw[List.getElem?_set_ne e]at h2
     exact h.done j o_ h2
theorem qQ.next{ps qs:List (Option Nat)}{k:Nat}(h:qQ ps qs k)(hk:k<ps.length):qs[k]? = some none:=h.rest k (zp _) hk
end Go.Sx
namespace Go.Sx
open Go
def jZ(p:Prop)(R:gh):gh where
 gT:=R.gT
 holds w:=p/\R.holds w
 loc w w' h hh:=⟨hh.1,R.loc w w' h hh.2⟩
section
variable {w w' w0:World} {bs:List (World×List Nat)} {L LL:List gh} {R R' : gh} {p p' : Prop}
theorem Own.fact(h:Own (jZ p R) w):p:=h.holds.1
theorem Own.un(h:Own (jZ p R) w):Own R w:=⟨h.holds.2,h.nodup,h.lt⟩
theorem gm.qd(h:gm R w w' R')(hp:p'):gm (jZ p R) w w' (jZ p' R'):=⟨⟨hp,h.holds⟩,h.gK,h.place,h.nodup,h.lt⟩
theorem gm.oC(h:gm R w w' R')(hp:p'):gm R w w' (jZ p' R'):=⟨⟨hp,h.holds⟩,h.gK,h.place,h.nodup,h.lt⟩
theorem gm.F4(h:gm R w w' R'):gm (jZ p R) w w' R' := ⟨h.holds,h.gK,h.place,h.nodup,h.lt⟩
theorem St.un(h:St bs (jZ p R :: L) w):St bs (R :: L) w :=
 ⟨fun q hq=>⟨(h.base q hq).gK,(h.base q hq).mine⟩,fun Q hQ=>by
  rcases zg.1 hQ with rfl|hQ
  . exact(h.own (jZ p Q) s_).2
  . exact h.own Q (by simp[hQ]),h.sep,h.lt⟩
theorem St.qd(h:St bs (R :: L) w)(hp:p):St bs (jZ p R :: L) w :=
 ⟨fun q hq=>⟨(h.base q hq).gK,(h.base q hq).mine⟩,fun Q hQ=>by
  rcases zg.1 hQ with rfl|hQ
  . exact⟨hp,h.own R s_⟩
  . exact h.own Q (by simp[hQ]),h.sep,h.lt⟩
theorem St.fact(h:St bs (jZ p R :: L) w):p:=(h.own (jZ p R) s_).1
theorem St.Yi{i:Nat}(h:St bs L w)(hi:L[i]? = some (jZ p R)):p:=(h.own (jZ p R) (ze hi)).1
theorem Own.of{L:List gh}(h:Own (gF L) w):St [(w,(gF L).gT)] L w:=by
 have h1:=(St.Jr h).unpack
 rwa [mD]at h1
theorem St.OL(h:St bs L w')(hb:(w,R.gT)∈bs):gm R w w' (gF L):=by
 have h1:St bs (L++[]) w' := by rwa [mD]
 exact(St.pack L [] h1).D9 hb
theorem gm.EH{A B:List gh}(h:gm R w w' (gF (A++B))):gm R w w' (gF [gF A,gF B]):=by
 have hf:(gF [gF A,gF B]).gT=(gF (A++B)).gT:=by simp[gF,iT]
 refine⟨fun Q hQ=>?_,h.gK,fun b hb=>h.place b (hf▸hb),hf▸h.nodup,fun b hb=>h.lt b (hf▸hb)⟩
 simp only[zg,sw,or_false]at hQ
 rcases hQ with rfl|rfl
 . exact fun S hS=>h.holds S (uO _ hS)
 . exact fun S hS=>h.holds S (wu _ hS)
theorem gm.E6{R'' : gh}(h:gm R w w' R')(hf:R''.gT=R'.gT)(hh:R'.holds w' -> R''.holds w'):gm R w w' R'' :=
 ⟨hh h.holds,h.gK,fun b hb=>h.place b (hf▸hb),hf▸h.nodup,fun b hb=>h.lt b (hf▸hb)⟩
end
end Go.Sx
namespace Go.Sx
open Go
def Co(L:List gh):List Nat->List gh
 | []=>[]
 | i :: r=>match L[i]? with
  | some x=>x :: Co L r
  | none=>Co L r
theorem NQ(L:List gh):∀ ix,Co L ix=ix.filterMap fun i=>L[i]?
 | []=>rfl
 | i :: r=>by
  simp only[Co,wz]
  cases L[i]? <;> simp[NQ L r]
theorem SY(L:List gh):(List.range L.length).filterMap (fun i=>L[i]?)=L:=by
 apply nE
 intro j
 have h:∀ (n:Nat),n<=L.length->(List.range n).filterMap (fun i=>L[i]?)=L.take n:=by
  intro n
  induction n with
  | zero=>intro _;rfl
  | succ n ih =>
   intro hn
   rw[List.range_succ,KZ,ih o_,yO]
   simp only[wz,List.filterMap_nil]
   cases L[n]? <;> simp
 rw[h _ (zp _),FA]
theorem IP(L:List gh):∀ ix:List Nat,(ix.filter fun i=>decide (i<L.length)).filterMap (fun i=>L[i]?)=ix.filterMap fun i=>L[i]?
 | []=>rfl
 | i :: r=>by
  by_cases h:i<L.length
  . rw[List.filter_cons_of_pos (by simpa using h),wz,wz,IP L r]
  . rw[List.filter_cons_of_neg (by simpa using h),wz,IP L r,nk o_]
theorem St.re{bs:List (World×List Nat)}{L:List gh}{w:World}(ix:List Nat)(h:St bs L w)(hn:ix.Nodup:=by decide):St bs (Co L ix) w:=by
 have hp:((ix.filter fun i=>decide (i<L.length))++((List.range L.length).filter fun i=>decide (i∉ix))).Perm (List.range L.length):=by
  rw[List.perm_ext_iff_of_nodup]
  . intro a
    simp only[zr,FJ,ni,decide_eq_true_eq]
    by_cases ha:a∈ix<;>simp[ha]
  . rw[zw]
    refine⟨hn.sublist List.filter_sublist,C4.sublist List.filter_sublist,fun a ha b hb e=>?_⟩
    subst e
    simp only[FJ,decide_eq_true_eq]at ha hb
    exact hb.2 ha.1
  . exact C4
 have h1:=hp.filterMap fun i=>L[i]?
 rw[SY,KZ,IP,<-NQ]at h1
 exact(h.perm h1.symm).sub (List.sublist_append_left _ _)
end Go.Sx
namespace Go.Ex
open Go Go.Sx
inductive Tr (α:Type) where
 | e
 | n (l:Tr α) (v:Option α) (r:Tr α)
variable {α:Type}
noncomputable def Tr.get(t:Tr α):Nat->Option α :=
 Tr.rec (motive:=fun _=>Nat->Option α) (fun _=>none) (fun _ v _ gl gr k=>cond (Nat.beq k 0) v (cond (Nat.beq (Nat.mod k 2) 1) (gl (Nat.div k 2)) (gr (Nat.pred (Nat.div k 2))))) t
noncomputable def Tr.single(a:Option α)(f:Nat):Nat->Tr α :=
 Nat.rec (motive:=fun _=>Nat->Tr α) (fun _=>.e) (fun _ ih k=>cond (Nat.beq k 0) (.n .e a .e) (cond (Nat.beq (Nat.mod k 2) 1) (.n (ih (Nat.div k 2)) none .e) (.n .e none (ih (Nat.pred (Nat.div k 2)))))) f
noncomputable def Tr.put(t:Tr α)(k:Nat)(a:Option α):Tr α :=
 Tr.rec (motive:=fun _=>Nat->Tr α) (fun k=>Tr.single a (Nat.succ k) k) (fun l v r pl pr k=>cond (Nat.beq k 0) (.n l a r) (cond (Nat.beq (Nat.mod k 2) 1) (.n (pl (Nat.div k 2)) v r) (.n l v (pr (Nat.pred (Nat.div k 2)))))) t k
theorem oO(a b:Nat):Nat.beq a b=decide (a=b):=by
 by_cases h:a=b
 . subst h;simp
 . cases hb:Nat.beq a b with
   | false=>simp[h]
   | true=>exact absurd (z7 hb) h
theorem Tr.Cb(k:Nat):(Tr.e:Tr α).get k=none:=rfl
theorem Tr.uC(l r:Tr α)(v:Option α)(k:Nat):(Tr.n l v r).get k=if k=0 then v else if k%2=1 then l.get (k / 2)else r.get (k / 2-1):=by
 show cond (Nat.beq k 0) v (cond (Nat.beq (Nat.mod k 2) 1) (l.get (Nat.div k 2)) (r.get (Nat.pred (Nat.div k 2))))=_
 simp only[oO]
 by_cases h:k=0
 . simp[h]
 . by_cases h1:k%2=1
   . have h2:Nat.mod k 2=1:=h1
     simp[h,h1,h2];rfl
   . have h2:¬ Nat.mod k 2=1:=h1
     simp[h,h1,h2];rfl
theorem Tr.UL(a:Option α)(f k:Nat):Tr.single a (f+1) k=if k=0 then .n .e a .e else if k%2=1 then .n (Tr.single a f (k / 2)) none .e else .n .e none (Tr.single a f (k / 2-1)):=by
 show cond (Nat.beq k 0) (Tr.n Tr.e a Tr.e) (cond (Nat.beq (Nat.mod k 2) 1) (Tr.n (Tr.single a f (Nat.div k 2)) none Tr.e) (Tr.n Tr.e none (Tr.single a f (Nat.pred (Nat.div k 2)))))=_
 simp only[oO]
 by_cases h:k=0
 . simp[h]
 . by_cases h1:k%2=1
   . have h2:Nat.mod k 2=1:=h1
     simp[h,h1,h2];rfl
   . have h2:¬ Nat.mod k 2=1:=h1
     simp[h,h1,h2];rfl
theorem Tr.ZP(a:Option α)(k:Nat):(Tr.e:Tr α).put k a=Tr.single a (k+1) k:=rfl
theorem Tr.YZ(l r:Tr α)(v a:Option α)(k:Nat):(Tr.n l v r).put k a=if k=0 then .n l a r else if k%2=1 then .n (l.put (k / 2) a) v r else .n l v (r.put (k / 2-1) a):=by
 show cond (Nat.beq k 0) (Tr.n l a r) (cond (Nat.beq (Nat.mod k 2) 1) (Tr.n (l.put (Nat.div k 2) a) v r) (Tr.n l v (r.put (Nat.pred (Nat.div k 2)) a)))=_
 simp only[oO]
 by_cases h:k=0
 . simp[h]
 . by_cases h1:k%2=1
   . have h2:Nat.mod k 2=1:=h1
     simp[h,h1,h2];rfl
   . have h2:¬ Nat.mod k 2=1:=h1
     simp[h,h1,h2];rfl
theorem Tr.SI(a:Option α):∀ (f k k' : Nat),k<f->(Tr.single a f k).get k' = if k' = k then a else none:=by
 intro f
 induction f with
 | zero=>intro k k' h;omega
 | succ f ih =>
  intro k k' h
  rw[Tr.UL]
  by_cases h0:k=0
  . subst h0
    rw[if_pos rfl,Tr.uC]
    by_cases h1:k' = 0
    . rw[if_pos h1,if_pos h1]
    . rw[if_neg h1,if_neg h1,Tr.Cb,Tr.Cb];simp
  . rw[if_neg h0]
    by_cases h2:k%2=1
    . rw[if_pos h2,Tr.uC]
      by_cases h1:k' = 0
      . rw[if_pos h1,if_neg o_]
      . rw[if_neg h1]
        by_cases h3:k' % 2=1
        . rw[if_pos h3,ih _ _ o_]
          by_cases h4:k' = k
          . rw[if_pos h4,if_pos (by rw[h4])]
          . rw[if_neg h4,if_neg o_]
        . rw[if_neg h3,Tr.Cb,if_neg (by intro e;subst e;exact h3 h2)]
    . rw[if_neg h2,Tr.uC]
      by_cases h1:k' = 0
      . rw[if_pos h1,if_neg o_]
      . rw[if_neg h1]
        by_cases h3:k' % 2=1
        . rw[if_pos h3,Tr.Cb,if_neg (by intro e;subst e;exact h2 h3)]
        . rw[if_neg h3,ih _ _ o_]
          by_cases h4:k' = k
          . rw[if_pos h4,if_pos (by rw[h4])]
          . rw[if_neg h4,if_neg o_]
theorem Tr.ur(t:Tr α):∀ (k k' : Nat) (a:Option α),(t.put k a).get k' = if k' = k then a else t.get k' := by
 induction t with
 | e=>intro k k' a;rw[Tr.ZP,Tr.SI a (k+1) k k' o_,Tr.Cb]
 | n l v r ihl ihr =>
  intro k k' a
  rw[Tr.YZ]
  by_cases h0:k=0
  . subst h0
    rw[if_pos rfl,Tr.uC,Tr.uC]
    by_cases h1:k' = 0
    . rw[if_pos h1,if_pos h1]
    . rw[if_neg h1,if_neg h1,if_neg h1]
  . rw[if_neg h0]
    by_cases h2:k%2=1
    . rw[if_pos h2,Tr.uC,Tr.uC]
      by_cases h1:k' = 0
      . rw[if_pos h1,if_pos h1,if_neg o_]
      . rw[if_neg h1,if_neg h1]
        by_cases h3:k' % 2=1
        . rw[if_pos h3,if_pos h3,ihl]
          by_cases h4:k' = k
          . rw[if_pos h4,if_pos (by rw[h4])]
          . rw[if_neg h4,if_neg o_]
        . rw[if_neg h3,if_neg h3,if_neg (by intro e;subst e;exact h3 h2)]
    . rw[if_neg h2,Tr.uC,Tr.uC]
      by_cases h1:k' = 0
      . rw[if_pos h1,if_pos h1,if_neg o_]
      . rw[if_neg h1,if_neg h1]
        by_cases h3:k' % 2=1
        . rw[if_pos h3,if_pos h3,if_neg (by intro e;subst e;exact h2 h3)]
        . rw[if_neg h3,if_neg h3,ihr]
          by_cases h4:k' = k
          . rw[if_pos h4,if_pos (by rw[h4])]
          . rw[if_neg h4,if_neg o_]
structure Nm where
 blk:Nat
 sh:Nat
 sl:Nat
abbrev Env:=Nat->Nm
def iY:Nat:=18446744073709551616
def jd(E:Env)(a:Addr):Addr:=⟨(E a.block).blk,(E a.block).sh+a.off,a.spot⟩
def kn(E:Env)(b c:Nat):Nat:=if iY<=c then c-iY+(E b).sl else c
def nK(E:Env):Fn->Fn
 | .yield l=>.yield (E l).blk
 | f=>f
mutual
def fT(E:Env):Value->Value
 | .pointer (some a)=>.pointer (some (jd E a))
 | .slice (some a) m c=>.slice (some (jd E a)) m (kn E a.block c)
 | .map (some r)=>.map (some (E r).blk)
 | .chan (some r)=>.chan (some (E r).blk)
 | .func fn fi ca=>.func (nK E fn) (kP E fi) (kP E ca)
 | .iface t v=>.iface t (fT E v)
 | .agg cs=>.agg (kP E cs)
 | .tuple cs=>.tuple (kP E cs)
 | .pointer none=>.pointer none
 | .slice none m c=>.slice none m c
 | .map none=>.map none
 | .chan none=>.chan none
 | .bool b=>.bool b
 | .int k a=>.int k a
 | .float k a=>.float k a
 | .complex k a b=>.complex k a b
 | .string s=>.string s
 | .nilFunc=>.nilFunc
 | .nilIface=>.nilIface
termination_by structural x=>x
def kP(E:Env):Array Value->Array Value
 | ⟨l⟩=>⟨lW E l⟩
termination_by structural x=>x
def lW(E:Env):List Value->List Value
 | []=>[]
 | v :: l=>fT E v :: lW E l
termination_by structural x=>x
end
mutual
def nm:Value->Nat
 | .pointer (some a)=>a.block+1
 | .slice (some a) _ _=>a.block+1
 | .map (some r)=>r+1
 | .chan (some r)=>r+1
 | .func fn fi ca=>max (match fn with | .yield l=>l+1|_=>0) (max (jL fi) (jL ca))
 | .iface _ v=>nm v
 | .agg cs=>jL cs
 | .tuple cs=>jL cs
 | .pointer none=>0
 | .slice none _ _=>0
 | .map none=>0
 | .chan none=>0
 | .bool _=>0
 | .int _ _=>0
 | .float _ _=>0
 | .complex _ _ _=>0
 | .string _=>0
 | .nilFunc=>0
 | .nilIface=>0
termination_by structural x=>x
def jL:Array Value->Nat
 | ⟨l⟩=>gW l
termination_by structural x=>x
def gW:List Value->Nat
 | []=>0
 | v :: l=>max (nm v) (gW l)
termination_by structural x=>x
end
theorem rX(E:Env):∀ l:List Value,lW E l=l.map (fT E)
 | []=>rfl
 | v :: l=>by rw[lW,rX E l];rfl
theorem BJ(E:Env)(a:Array Value):kP E a=a.map (fT E):=by
 cases a;rw[kP,rX];simp
theorem vE(E:Env)(l:List Value):kP E l.toArray=(l.map (fT E)).toArray:=by rw[BJ];simp
theorem lq{k:Nat}:∀ {l:List Value},gW l<=k↔∀ v∈l,nm v<=k
 | []=>by simp[gW]
 | v :: l=>by
  rw[gW,oL,lq (l:=l)]
  simp
theorem X8{k:Nat}{a:Array Value}:jL a<=k↔∀ v∈a,nm v<=k:=by
 cases a with|mk l=>rw[jL,lq];simp
mutual
theorem uo{E E' : Env}{k:Nat}(h:∀ b,b<k->E' b=E b):∀ v:Value,nm v<=k->fT E' v=fT E v
 | .pointer (some a),hn=>by simp only[nm]at hn;simp only[fT,jd,h a.block o_]
 | .slice (some a) _ _,hn=>by simp only[nm]at hn;simp only[fT,jd,kn,h a.block o_]
 | .map (some r),hn=>by simp only[nm]at hn;simp only[fT,h r o_]
 | .chan (some r),hn=>by simp only[nm]at hn;simp only[fT,h r o_]
 | .func fn fi ca,hn=>by
  simp only[nm,oL]at hn
  simp only[fT]
  rw[DR h fi hn.2.1,DR h ca hn.2.2]
  have:nK E' fn=nK E fn:=by
   cases fn<;>simp only[nK]
   rename_i l
   rw[h l (by have:=hn.1;simp at this;omega)]
  rw[this]
 | .iface t v,hn=>by simp only[nm]at hn;simp only[fT,uo h v hn]
 | .agg cs,hn=>by simp only[nm]at hn;simp only[fT,DR h cs hn]
 | .tuple cs,hn=>by simp only[nm]at hn;simp only[fT,DR h cs hn]
 | .pointer none,_=>rfl
 | .slice none _ _,_=>rfl
 | .map none,_=>rfl
 | .chan none,_=>rfl
 | .bool _,_=>rfl
 | .int _ _,_=>rfl
 | .float _ _,_=>rfl
 | .complex _ _ _,_=>rfl
 | .string _,_=>rfl
 | .nilFunc,_=>rfl
 | .nilIface,_=>rfl
theorem DR{E E' : Env}{k:Nat}(h:∀ b,b<k->E' b=E b):∀ a:Array Value,jL a<=k->kP E' a=kP E a
 | ⟨l⟩,hn=>by simp only[jL]at hn;simp only[kP,HW h l hn]
theorem HW{E E' : Env}{k:Nat}(h:∀ b,b<k->E' b=E b):∀ l:List Value,gW l<=k->lW E' l=lW E l
 | [],_=>rfl
 | v :: l,hn=>by simp only[gW,oL]at hn;simp only[lW,uo h v hn.1,HW h l hn.2]
end
theorem G0{E E' : Env}{k:Nat}(h:∀ b,b<k->E' b=E b){l:List Value}(hn:gW l<=k):l.map (fT E')=l.map (fT E):=by
 rw[<-rX,<-rX,HW h l hn]
mutual
theorem B0:∀ v:Value,nm v=0->∀ E,fT E v=v
 | .pointer (some a),hn,_=>by simp[nm]at hn
 | .slice (some a) _ _,hn,_=>by simp[nm]at hn
 | .map (some r),hn,_=>by simp[nm]at hn
 | .chan (some r),hn,_=>by simp[nm]at hn
 | .func fn fi ca,hn,E=>by
  have h1:jL fi=0:=by simp only[nm]at hn;omega
  have h2:jL ca=0:=by simp only[nm]at hn;omega
  simp only[fT,D8 fi h1,D8 ca h2]
  cases fn<;>simp only[nK]
  simp only[nm]at hn;omega
 | .iface t v,hn,E=>by simp only[nm]at hn;simp only[fT,B0 v hn]
 | .agg cs,hn,E=>by simp only[nm]at hn;simp only[fT,D8 cs hn]
 | .tuple cs,hn,E=>by simp only[nm]at hn;simp only[fT,D8 cs hn]
 | .pointer none,_,_=>rfl
 | .slice none _ _,_,_=>rfl
 | .map none,_,_=>rfl
 | .chan none,_,_=>rfl
 | .bool _,_,_=>rfl
 | .int _ _,_,_=>rfl
 | .float _ _,_,_=>rfl
 | .complex _ _ _,_,_=>rfl
 | .string _,_,_=>rfl
 | .nilFunc,_,_=>rfl
 | .nilIface,_,_=>rfl
theorem D8:∀ a:Array Value,jL a=0->∀ E,kP E a=a
 | ⟨l⟩,hn,E=>by simp only[jL]at hn;simp only[kP,D1 l hn]
theorem D1:∀ l:List Value,gW l=0->∀ E,lW E l=l
 | [],_,_=>rfl
 | v :: l,hn,E=>by
  have h1:nm v=0:=by simp only[gW]at hn;omega
  have h2:gW l=0:=by simp only[gW]at hn;omega
  simp only[lW,B0 v h1,D1 l h2]
end
theorem Dy(E:Env)(v:Value):(fT E v).cells=v.cells.map (fT E):=by
 cases v<;>first
  | (simp only[fT,Value.cells,BJ];done)
  | (rename_i o;cases o<;>simp[fT,Value.cells];done)
  | (rename_i o _ _;cases o<;>simp[fT,Value.cells];done)
  | simp[fT,Value.cells]
theorem BK(v:Value):jL v.cells=nm v:=by
 cases v<;>first
  | rfl
  | simp[Value.cells,jL,gW]
end Go.Ex
namespace Go.Ex
open Go Go.Sx
noncomputable section
inductive AO where
 | cells (cs:List Value) (T:TypeId) (op:Option Nat) (ro:Bool)
 | map (es:List (Value×Value×Nat)) (clock:Nat)
 | loop (n:Nat) (σ:Tr Value) (ps:List Nat) (assign body:Code) (dd:Nat)
 | done (j:Option Nat)
 | Ci (m:Option Nat) (since:Nat) (seen:List Nat) (last:Nat)
 | sD
def Fc(l:List Value)(d:Value):Nat->Value :=
 List.rec (motive:=fun _=>Nat->Value) (fun _=>d) (fun x _ ih i=>cond (Nat.beq i 0) x (ih (Nat.pred i))) l
def rowAt(base:List Value)(d:Value)(t:Tr Value)(i:Nat):Value:=match t.get i with
 | some v=>v
 | none=>Fc base d i
def oV(n:Nat)(base:List Value)(d:Value)(t:Tr Value):List Value:=(List.range n).map (rowAt base d t)
def Aj(base:List Value)(d:Value)(t:Tr Value)(n:Nat):Nat->List Value :=
 Nat.rec (motive:=fun _=>Nat->List Value) (fun _=>[]) (fun _ ih o=>rowAt base d t o :: ih (Nat.succ o)) n
def xF(vs:List Value):Nat->Tr Value->Tr Value :=
 List.rec (motive:=fun _=>Nat->Tr Value->Tr Value) (fun _ t=>t) (fun v _ ih o t=>ih (Nat.succ o) (t.put o (some v))) vs
inductive PO where
 | ao (o:AO)
 | row (n:Nat) (base:List Value) (d:Value) (t:Tr Value) (T:TypeId) (op:Option Nat) (ro:Bool)
def PO.to:PO->AO
 | .ao o=>o
 | .row n base d t T op ro=>.cells (oV n base d t) T op ro
def PO.of:AO->PO
 | .cells cs T op ro=>cond (Nat.ble cs.length 24) (.row cs.length cs (.bool false) .e T op ro) (.row cs.length [] (.bool false) (xF cs 0 .e) T op ro)
 | o=>.ao o
structure AH where
 h:Tr PO
 nf:Nat
def AH.get(A:AH)(b:Nat):Option AO:=match A.h.get b with
 | some p=>some p.to
 | none=>none
def AH.set(A:AH)(b:Nat)(o:AO):AH:=⟨A.h.put b (some (PO.of o)),A.nf⟩
def AH.jT(A:AH)(b:Nat):AH:=⟨A.h.put b none,A.nf⟩
def AH.add(A:AH)(o:AO):AH:=⟨A.h.put A.nf (some (PO.of o)),A.nf+1⟩
def AH.J6(A:AH)(p:PO):AH:=⟨A.h.put A.nf (some p),A.nf+1⟩
inductive XR where
 | val (v:Value)
 | unit
 | enter (f:FuncId) (args:List Value)
 | yield (l:Nat) (args:List Value)
abbrev jk:=Operand->Option Value
def xO:TypeDesc->Bool
 | .struct _=>true
 | .array _ _=>true
 | _=>false
section
variable (P:Program)
def mH(t:TypeId):Option Nat:=(P.info? t).map (·.size)
def Dc(t:TypeId):Option Nat:=(P.info? t).map (·.bytes)
def tz(t:TypeId):Option Value:=match P.info? t with
 | some i=>match i.zero with
  | some z=>bif Nat.beq (nm z) 0&&Nat.beq z.cells.toList.length i.size then some z else none
  | none=>none
 | none=>none
def qt(cs:List Value)(o n:Nat):Option (List Value):=let l:=(cs.drop o).take n;bif Nat.beq l.length n then some l else none
def s9(A:AH)(b o n:Nat):Option (List Value) :=
 match A.h.get b with
 | some (.row m base d t _ _ _)=>bif Nat.ble (o+n) m||Nat.beq n 0 then some (Aj base d t n o)else none
 | some (.ao (.cells cs _ _ _))=>qt cs o n
 | _=>none
def one(v:Value):Bool:=match v with
 | .agg _=>false
 | .tuple _=>false
 | _=>true
def BR(A:AH)(b o:Nat)(vs:List Value):Option AH :=
 match A.h.get b with
 | some (.row m base d t T op false)=>bif Nat.ble (o+vs.length) m&&vs.all one then some ⟨A.h.put b (some (.row m base d (xF vs o t) T op false)),A.nf⟩else none
 | _=>none
def Am(A:AH)(t:TypeId):Value->Option XR
 | .pointer (some ⟨b,o,none⟩)=>match P.underlying t with
  | some d=>bif xO d then(match mH P t with
   | some n=>match s9 A b o n with
    | some l=>some (.val (.agg l.toArray))
    | none=>none
   | none=>none)
   else(match s9 A b o 1 with
    | some [v]=>some (.val v)
    | _=>none)
  | none=>none
 | _=>none
def OB(A:AH)(t:TypeId)(v:Value):Value->Option AH
 | .pointer (some ⟨b,o,none⟩)=>match mH P t with
  | some n=>bif Nat.beq v.cells.toList.length n then BR A b o v.cells.toList else none
  | none=>none
 | _=>none
def ptr(b o:Nat):Value:=.pointer (some ⟨b,o,none⟩)
def uH(t:TypeId)(cs:List Value)(o:Nat):Option Value :=
 match P.underlying t with
 | some d=>bif xO d then(match mH P t with
  | some n=>match qt cs o n with
   | some l=>some (.agg l.toArray)
   | none=>none
  | none=>none)
  else cs[o]?
 | none=>none
def allM{β:Type}(f:β->Option Bool):List β->Option Bool
 | []=>some true
 | x :: l=>match f x with
  | some true=>allM f l
  | some false=>some false
  | none=>none
def rP:Nat->TypeId->Value->Value->Option Bool
 | 0,_,_,_=>none
 | k+1,t,x,y=>match P.underlying t,x,y with
  | some .bool,.bool a,.bool b=>some (a==b)
  | some (.int _),.int j a,.int k b=>bif decide (j=k)then some (a==b)else none
  | some .string,.string a,.string b=>some (a.data.toList==b.data.toList)
  | some (.pointer _),.pointer none,.pointer none=>some true
  | some (.pointer _),.pointer none,.pointer (some _)=>some false
  | some (.pointer _),.pointer (some _),.pointer none=>some false
  | some (.pointer e),.pointer (some a),.pointer (some b)=>match mH P e with
   | some (_+1)=>bif Nat.beq a.block b.block then some (a==b)else none
   | _=>none
  | some (.slice _),.slice none _ _,.slice b _ _=>some b.isNone
  | some (.slice _),.slice (some _) _ _,.slice none _ _=>some false
  | some (.map _ _),.map none,.map b=>some b.isNone
  | some (.map _ _),.map (some _),.map none=>some false
  | some (.func ..),.nilFunc,.nilFunc=>some true
  | some (.func ..),.nilFunc,.func .. => some false
  | some (.func ..),.func ..,.nilFunc=>some false
  | some (.interface _),.nilIface,.iface _ _=>some false
  | some (.interface _),.iface _ _,.nilIface=>some false
  | some (.struct fs),.agg xs,.agg ys=>bif P.stoodInHeld t||P.eqGuardType P.depth t then none else
   allM (fun f : Field => bif f.name == "_" then some true else
    match uH P f.type xs.toList f.offset,uH P f.type ys.toList f.offset with
    | some u,some v=>rP k f.type u v
    | _,_=>none) fs.toList
  | some (.array n e),.agg xs,.agg ys=>bif P.eqGuardType P.depth t then none else match mH P e with
   | some sz=>allM (fun i=>match uH P e xs.toList (i*sz),uH P e ys.toList (i*sz)with
    | some u,some v=>rP k e u v
    | _,_=>none) (List.range n)
   | none=>none
  | _,_,_=>none
def JY(op:BinOp)(x y:ByteArray):Option Value :=
 match op with
 | .add=>bif Nat.ble (x.size+y.size) 9223372036854775807 then some (.string (x++y))else none
 | .eql=>some (.bool (x.data.toList==y.data.toList))
 | .neq=>some (.bool !(x.data.toList==y.data.toList))
 | .lss=>some (.bool (Op.bytesLess x.data.toList y.data.toList))
 | .leq=>some (.bool (Op.bytesLess x.data.toList y.data.toList||x.data.toList==y.data.toList))
 | .gtr=>some (.bool !(Op.bytesLess x.data.toList y.data.toList||x.data.toList==y.data.toList))
 | .geq=>some (.bool !(Op.bytesLess x.data.toList y.data.toList))
 | _=>none
def Qc(op:BinOp)(k:IntKind)(a b:Int):Option Value :=
 match op with
 | .add=>some (.int k (k.wrap (a+b)))
 | .sub=>some (.int k (k.wrap (a-b)))
 | .mul=>some (.int k (k.wrap (a*b)))
 | .quo=>bif decide (b=0)then none else some (.int k (k.wrap (a.tdiv b)))
 | .rem=>bif decide (b=0)then none else some (.int k (a.tmod b))
 | .and | .or | .xor | .andNot=>(nS op k a b).map (.int k)
 | _=>(j9 op a b).map .bool
def PV(op:BinOp)(t:TypeId)(x y:Value):Option Value :=
 match x,y with
 | .int k a,.int k' b=>match op with
  | .shl=>bif decide (0<=b)then some (.int k (k.wrap (a*2 ^ (min b.toNat k.bits))))else none
  | .shr=>bif decide (0<=b)then some (.int k (a.fdiv (2 ^ (min b.toNat k.bits))))else none
  | _=>bif decide (k=k')then Qc op k a b else none
 | .string a,.string b=>JY op a b
 | x,y=>match op with
  | .eql=>(rP P 100 t x y).map .bool
  | .neq=>(rP P 100 t x y).map fun b=>.bool !b
  | _=>none
def Rm(op:UnOp):Value->Option Value
 | .int k a=>match op with
  | .neg=>some (.int k (k.wrap (0-a)))
  | .xor=>(nS .xor k (if k.signed then -1 else k.max) a).map (.int k)
  | _=>none
 | .bool b=>match op with
  | .not=>some (.bool !b)
  | _=>none
 | _=>none
def tI(v:Value):Option Nat:=match v with
 | .int _ (.ofNat n)=>some n
 | _=>none
def mz(ρ:jk):Option Operand->Nat->Option Nat
 | none,d=>some d
 | some x,_=>match ρ x with
  | some v=>tI v
  | none=>none
def rep(z:List Value):Nat->List Value
 | 0=>[]
 | n+1=>z++rep z n
def OT(t:TypeId)(x:Value)(ρ:jk)(lo hi mx:Option Operand):Option Value :=
 match P.underlying t,x with
 | some .string,.string s=>match mx,mz ρ lo 0,mz ρ hi s.size with
  | none,some l,some h=>bif Nat.ble l h&&Nat.ble h s.size then some (.string (s.extract l h))else none
  | _,_,_=>none
 | some (.slice e),.slice (some ⟨b,o,none⟩) n c=>match mH P e with
  | some sz=>bif Nat.ble iY c then(match mx,mz ρ lo 0,mz ρ hi n with
   | none,some l,some h=>bif Nat.ble l h&&Nat.ble h (c-iY)&&Nat.blt l (c-iY)then some (.slice (some ⟨b,o+l*sz,none⟩) (h-l) (c-l))else
    bif Nat.beq l 0&&Nat.ble h (c-iY)then some (.slice (some ⟨b,o,none⟩) h c)else none
   | some _,some l,some h=>match mz ρ mx c with
    | some m=>bif Nat.ble l h&&Nat.ble h m&&Nat.ble m (c-iY)&&Nat.blt (m-l) iY&&hi.isSome then some (.slice (some ⟨b,bif Nat.beq m l then o else o+l*sz,none⟩) (h-l) (m-l))else none
    | none=>none
   | _,_,_=>none)
   else(match mz ρ mx c,mz ρ lo 0,mz ρ hi n with
    | some m,some l,some h=>bif Nat.ble l h&&Nat.ble h m&&Nat.ble m c&&(mx.isNone||hi.isSome)then some (.slice (some ⟨b,bif Nat.beq m l then o else o+l*sz,none⟩) (h-l) (m-l))else none
    | _,_,_=>none)
  | none=>none
 | some (.slice e),.slice none 0 0=>match mH P e,mz ρ mx 0,mz ρ lo 0,mz ρ hi 0 with
  | some _,some 0,some 0,some 0=>bif mx.isNone||hi.isSome then some (.slice none 0 0)else none
  | _,_,_,_=>none
 | some (.array n e),.pointer (some ⟨b,o,none⟩)=>match mH P e,mz ρ mx n,mz ρ lo 0,mz ρ hi n with
  | some sz,some m,some l,some h=>bif Nat.ble l h&&Nat.ble h m&&Nat.ble m n&&Nat.ble n 9223372036854775807&&(mx.isNone||hi.isSome)then some (.slice (some ⟨b,bif Nat.beq m l then o else o+l*sz,none⟩) (h-l) (m-l))else none
  | _,_,_,_=>none
 | _,_=>none
def pN(ki:Bool)(k:Value):List (Value×Value×Nat)->Nat->Option (Option (Nat×Value×Nat))
 | [],_=>some none
 | (k', v,born) :: es,i=>match ki,k,k' with
  | true,.int a x,.int b y=>bif decide (a=b)then(bif x==y then some (some (i,v,born))else pN ki k es (i+1))else none
  | false,.string x,.string y=>bif x.data.toList==y.data.toList then some (some (i,v,born))else pN ki k es (i+1)
  | _,_,_=>none
def BV(t:TypeId):Option (Bool×TypeId×TypeId):=match P.underlying t with
 | some (.map k e)=>match P.underlying k with
  | some (.int _)=>some (true,k,e)
  | some .string=>some (false,k,e)
  | _=>none
 | _=>none
def BL(A:AH)(sz:Nat):Value->Option (Nat×List Value)
 | .slice none n _=>bif Nat.beq n 0 then some (0,[])else none
 | .slice (some ⟨b,o,none⟩) n _=>bif Nat.beq n 0 then some (0,[])else match s9 A b o (n*sz)with
  | some l=>bif l.all one then some (n,l)else none
  | none=>none
 | .string s=>bif Nat.beq sz 1 then some (s.size,s.data.toList.map fun c=>.int .u8 c.toNat)else none
 | _=>none
def uy(c:Nat):Option Nat:=bif Nat.ble iY c then some (c-iY)else none
def uK(c:Nat):Nat:=match uy c with
 | some k=>k
 | none=>c
def E9:Option Nat->Nat->Bool
 | some s,k=>Nat.beq s k
 | none,_=>false
def BM(A:AH)(T0 T1:TypeId)(x y:Value):Option (Value×AH) :=
 match P.underlying T0,P.underlying T1 with
 | some (.slice e),some d1=>match (match d1 with | .slice _=>true | .string=>true|_=>false),mH P e,Dc P e,tz P e with
  | true,some (sz' + 1),some by_,some z =>
   let sz:=sz' + 1
   match BL A sz y,x with
   | some (n,news),.slice none 0 0 =>
    bif Nat.beq n 0 then some (.slice none 0 0,A)else
    bif Nat.ble (n*by_) 140737488355328&&Nat.ble n 9223372036854775807 then some (.slice (some ⟨A.nf,0,none⟩) n (n+iY),A.add (.cells news e (some sz) false))else none
   | some (n,news),.slice (some ⟨b,o,none⟩) m c =>
    bif Nat.ble (m+n) (uK c)then(match BR A b (o+m*sz) news with
     | some A' => some (.slice (some ⟨b,o,none⟩) (m+n) c,A')
     | none=>none)
    else bif Nat.ble ((m+n)*by_) 140737488355328&&Nat.ble (m+n) 9223372036854775807 then(match A.get b with
     | some (.cells cs T op ro)=>match qt cs o (m*sz)with
      | some old=>match uy c with
       | some cb=>bif !ro&&Nat.beq (o+cb*sz) cs.length&&Nat.beq T e&&E9 op sz
        then some (.slice (some ⟨A.nf,0,none⟩) (m+n) (m+n+iY),(A.jT b).add (.cells (old++news) e (some sz) false))else none
       | none=>some (.slice (some ⟨A.nf,0,none⟩) (m+n) (m+n+iY),A.add (.cells (old++news) e (some sz) false))
      | none=>none
     | _=>none)
    else none
   | _,_=>none
  | _,_,_,_=>none
 | _,_=>none
def HD(A:AH)(T0 T1:TypeId)(x y:Value):Option (Value×AH) :=
 match x with
 | .slice (some ⟨b,0,none⟩) m c=>match uy c,A.h.get b with
  | some cb,some (.row n0 base d t T op false)=>bif Nat.ble m cb then(match P.underlying T0,P.underlying T1 with
   | some (.slice e),some d1=>match (match d1 with | .slice _=>true | .string=>true|_=>false),mH P e,Dc P e,tz P e with
    | true,some (sz' + 1),some by_,some z=>match BL A (sz' + 1) y with
     | some (n,news)=>bif Nat.ble (m+n) cb then none else
      bif Nat.ble ((m+n)*by_) 140737488355328&&Nat.ble (m+n) 9223372036854775807&&(Nat.beq (cb*(sz' + 1)) n0&&(Nat.beq T e&&E9 op (sz' + 1)))
       then some (.slice (some ⟨A.nf,0,none⟩) (m+n) (m+n+iY),(A.jT b).J6 (.row (m*(sz' + 1)+news.length) base d (xF news (m*(sz' + 1)) t) e (some (sz' + 1)) false))else none
     | none=>none
    | _,_,_,_=>none
   | _,_=>none)else none
  | _,_=>none
 | _=>none
def IE(A:AH)(T0 T1:TypeId)(x y:Value):Option (Value×AH):=match HD P A T0 T1 x y with
 | some r=>some r
 | none=>BM P A T0 T1 x y
def mapM' {β γ:Type}(f:β->Option γ):List β->Option (List γ)
 | []=>some []
 | x :: l=>match f x with
  | some y=>match mapM' f l with
   | some r=>some (y :: r)
   | none=>none
  | none=>none
def rD(lt:Int->Int->Bool):Value->List Value->Option Value
 | v,[]=>some v
 | .int k x,.int k' y :: l=>rD lt (.int k (bif lt y x then y else x)) l
 | _,_=>none
def EF(args:List Value)(T:List TypeId)(A:AH):Option (XR×AH):=match args,T with
 | [x],[t]=>match P.underlying t,x with
  | some .string,.string s=>some (.val (.int .i64 s.size),A)
  | some (.slice _),.slice _ n _=>some (.val (.int .i64 n),A)
  | some (.array n _),_=>some (.val (.int .i64 n),A)
  | some (.map _ _),.map none=>some (.val (.int .i64 0),A)
  | some (.map _ _),.map (some r)=>match A.get r with
   | some (.map es _)=>some (.val (.int .i64 es.length),A)
   | _=>none
  | _,_=>none
 | _,_=>none
def Mg(args:List Value)(T:List TypeId)(A:AH):Option (XR×AH):=match args,T with
 | [x,y],[t,u]=>(IE P A t u x y).map fun p=>(.val p.1,p.2)
 | _,_=>none
def Er(args:List Value)(T:List TypeId)(A:AH):Option (XR×AH):=match args,T with
 | x :: l,_=>(rD (fun a b=>decide (a<b)) x l).map fun v=>(.val v,A)
 | _,_=>none
def pL(b:Builtin)(args:List Value)(T:List TypeId)(A:AH):Option (XR×AH) :=
 match b with
 | .len=>EF P args T A
 | .append=>Mg P args T A
 | .min=>Er args T A
 | _=>none
def places(t:TypeId):Option (List (Nat×Nat)):=match P.underlying t with
 | some (.struct fs)=>mapM' (fun f:Field=>(mH P f.type).map fun s=>(f.offset,s)) fs.toList
 | _=>none
def ET(src dst:TypeId)(x:Value)(A:AH):Option (XR×AH) :=
 match P.underlying src,P.underlying dst,x with
 | some _,some (.int k),.int _ a=>some (.val (.int k (k.wrap a)),A)
 | some _,some .string,.string s=>some (.val (.string s),A)
 | some (.slice e),some .string,v=>match P.underlying e,v with
  | some (.int .u8),.slice none 0 _=>some (.val (.string ⟨#[]⟩),A)
  | some (.int .u8),.slice (some ⟨b,o,none⟩) n _=>match s9 A b o n with
   | some l=>(mapM' (fun|Value.int .u8 (.ofNat c)=>some c.toUInt8|_=>none) l).map fun l=>(.val (.string ⟨l.toArray⟩),A)
   | none=>none
  | _,_=>none
 | _,_,_=>none
def xM(t:TypeId)(name:String):Option FuncId :=
 match P.info? t with
 | some i=>match i.methods.find? (fun m=>m.name==name)with
  | some m=>bif m.path.isEmpty then(match m.func,P.underlying t with|some (f,true),some (.pointer _)=>some f|_,_=>none)else none
  | none=>none
 | none=>none
def enters(f:FuncId):Bool:=match P.funcs[f]? with
 | some fn => fn.body.isSome && !(fn.name == "runtime.NumGoroutine")
 | none=>false
def Jo(name:String)(f:FuncId):Bool:=match P.funcs[f]? with
 | some fn => fn.body.isNone && fn.name == name && fn.origin == ""
 | none=>false
def OA:List Value->Option Value
 | [.int .u64 (.ofNat x),.int .u64 (.ofNat y),.int .u64 (.ofNat c)]=>bif Nat.ble c 1 then some (.tuple #[.int .u64 (((x:Int)+y+c)%18446744073709551616),.int .u64 (((x:Int)+y+c) / 18446744073709551616)])else none
 | _=>none
def NM(x:Operand)(ρ:jk)(A:AH):Option (XR×AH) :=
 (ρ x).map fun v=>(.val v,A)
def MB(x:Operand)(ρ:jk)(A:AH):Option (XR×AH) :=
 (ρ x).map fun v=>(.val v,A)
def Iz(c a b:Operand)(ρ:jk)(A:AH):Option (XR×AH) :=
 match ρ c with
 | some (.bool true)=>(ρ a).map fun v=>(.val v,A)
 | some (.bool false)=>(ρ b).map fun v=>(.val v,A)
 | _=>none
def Nj(t:TypeId)(ρ:jk)(A:AH):Option (XR×AH) :=
 (tz P t).map fun z=>(.val (ptr A.nf 0),A.add (.cells z.cells.toList t none false))
def Yl(t:TypeId)(x:Operand)(ρ:jk)(A:AH):Option (XR×AH) :=
 (ρ x).map fun v=>(.val (ptr A.nf 0),A.add (.cells v.cells.toList t none false))
def Il(t:TypeId)(parts:Array (Nat×Operand))(ρ:jk)(A:AH):Option (XR×AH) :=
 match tz P t,mapM' (fun p:Nat×Operand=>(ρ p.2).map fun v=>(p.1,v.cells.toList)) parts.toList,P.underlying t with
 | some z,some qs,some (.struct _)=>match places P t with
  | some pl=>(n9 pl z.cells.toList qs).map fun cs=>(.val (.agg cs.toArray),A)
  | none=>none
 | some z,some qs,some (.array n e)=>match mH P e with
  | some sz=>(n9 ((List.range n).map fun i=>(i*sz,sz)) z.cells.toList qs).map fun cs=>(.val (.agg cs.toArray),A)
  | none=>none
 | _,_,_=>none
def Lg(t:TypeId)(n:Nat)(parts:Array (Nat×Operand))(ρ:jk)(A:AH):Option (XR×AH) :=
 match P.underlying t,mapM' (fun p:Nat×Operand=>(ρ p.2).map fun v=>(p.1,v.cells.toList)) parts.toList with
 | some (.slice e),some qs=>match mH P e,tz P e with
  | some sz,some z=>bif Nat.ble (n*sz) 16777216&&Nat.ble n 16777216 then(n9 ((List.range n).map fun i=>(i*sz,sz)) (rep z.cells.toList n) qs).map fun cs=>(.val (.slice (some ⟨A.nf,0,none⟩) n n),A.add (.cells cs e none false))else none
  | _,_=>none
 | _,_=>none
def IN(t:TypeId)(a:Operand)(ρ:jk)(A:AH):Option (XR×AH) :=
 match ρ a with
 | some v=>(Am P A t v).map fun r=>(r,A)
 | none=>none
def Na(t:TypeId)(a x:Operand)(ρ:jk)(A:AH):Option (XR×AH) :=
 match ρ a,ρ x with
 | some p,some v=>(OB P A t v p).map fun A' => (.unit,A')
 | _,_=>none
def GX(x:Operand)(ρ:jk)(A:AH):Option (XR×AH) :=
 match ρ x with
 | some (.pointer (some a))=>some (.val (.pointer (some a)),A)
 | some (.func (.func f) fi ca)=>some (.val (.func (.func f) fi ca),A)
 | some (.func (.method name) ⟨.iface t (.pointer (some a)) :: fi⟩ ca)=>match xM P t name with
  | some _=>some (.val (.func (.method name) ⟨.iface t (.pointer (some a)) :: fi⟩ ca),A)
  | none=>none
 | _=>none
def HR(o:BinOp)(t:TypeId)(x y:Operand)(ρ:jk)(A:AH):Option (XR×AH) :=
 match ρ x,ρ y with
 | some u,some v=>(PV P o t u v).map fun r=>(.val r,A)
 | _,_=>none
def IQ(o:UnOp)(x:Operand)(ρ:jk)(A:AH):Option (XR×AH) :=
 match ρ x with
 | some u=>(Rm o u).map fun r=>(.val r,A)
 | none=>none
def He(s d:TypeId)(x:Operand)(ρ:jk)(A:AH):Option (XR×AH) :=
 match ρ x with
 | some v=>ET P s d v A
 | none=>none
def Gz(t:TypeId)(x:Operand)(ρ:jk)(A:AH):Option (XR×AH) :=
 match ρ x,P.underlying t with
 | some v,some d=>(match d with | .interface _=>none|_=>some (.val (.iface t v),A))
 | _,_=>none
def GP(fn:Fn)(fi ca:Array Operand)(ρ:jk)(A:AH):Option (XR×AH) :=
 match mapM' ρ fi.toList,mapM' ρ ca.toList with
 | some u,some v=>(match fn with | .yield _=>none|fn=>some (.val (.func fn u.toArray v.toArray),A))
 | _,_=>none
def Hg(t:TypeId)(r:Option Operand)(ρ:jk)(A:AH):Option (XR×AH) :=
 match P.underlying t,(match r with|none=>some 0|some x=>(match ρ x with|some v=>tI v|none=>none))with
 | some (.map _ _),some _=>some (.val (.map (some A.nf)),A.add (.map [] 0))
 | _,_=>none
def GF(t:TypeId)(l c:Operand)(ρ:jk)(A:AH):Option (XR×AH) :=
 match P.underlying t,ρ l,ρ c with
 | some (.slice e),some vl,some vc=>match tI vl,tI vc,mH P e,Dc P e,tz P e with
  | some l,some c,some sz,some by_,some z=>bif Nat.ble l c&&Nat.ble (c*by_) 140737488355328&&Nat.ble c 9223372036854775807 then some (.val (.slice (some ⟨A.nf,0,none⟩) l c),A.add (.cells (rep z.cells.toList c) e none false))else none
  | _,_,_,_,_=>none
 | _,_,_=>none
def Ii(t:TypeId)(x:Operand)(lo hi mx:Option Operand)(ρ:jk)(A:AH):Option (XR×AH) :=
 match ρ x with
 | some v=>(OT P t v ρ lo hi mx).map fun r=>(.val r,A)
 | none=>none
def GG(s:TypeId)(x:Operand)(f:Nat)(ρ:jk)(A:AH):Option (XR×AH) :=
 match ρ x,P.underlying s with
 | some (.pointer (some ⟨b,o,none⟩)),some (.struct fs)=>match fs.toList[f]? with
  | some fl=>match mH P fl.type with
   | some (_+1)=>some (.val (ptr b (o+fl.offset)),A)
   | _=>none
  | none=>none
 | _,_=>none
def HL(t:TypeId)(x:Operand)(f:Nat)(ρ:jk)(A:AH):Option (XR×AH) :=
 match ρ x,P.underlying t with
 | some (.agg cs),some (.struct fs)=>match fs.toList[f]? with
  | some fl=>(uH P fl.type cs.toList fl.offset).map fun v=>(.val v,A)
  | none=>none
 | _,_=>none
def GJ(t:TypeId)(x ix:Operand)(ρ:jk)(A:AH):Option (XR×AH) :=
 match ρ x,ρ ix,P.underlying t with
 | some (.slice (some ⟨b,o,none⟩) n _),some vi,some (.slice e)=>match tI vi,mH P e with
  | some i,some sz=>bif Nat.blt i n then some (.val (ptr b (o+i*sz)),A)else none
  | _,_=>none
 | some (.pointer (some ⟨b,o,none⟩)),some vi,some (.array n e)=>match tI vi,mH P e with
  | some i,some sz=>bif Nat.blt i n then some (.val (ptr b (o+i*sz)),A)else none
  | _,_=>none
 | _,_,_=>none
def HY(t:TypeId)(x ix:Operand)(ρ:jk)(A:AH):Option (XR×AH) :=
 match ρ x,ρ ix,P.underlying t with
 | some (.agg cs),some vi,some (.array n e)=>match tI vi,mH P e with
  | some i,some sz=>bif Nat.blt i n then(uH P e cs.toList (i*sz)).map fun v=>(.val v,A)else none
  | _,_=>none
 | some (.string s),some vi,some .string=>match tI vi with
  | some i=>(s.data.toList[i]?).map fun c=>(.val (.int .u8 c.toNat),A)
  | none=>none
 | _,_,_=>none
def Hz(t:TypeId)(x ix:Operand)(ok:Bool)(ρ:jk)(A:AH):Option (XR×AH) :=
 match ρ x,ρ ix,BV P t with
 | some (.map r),some k,some (ki,_,e)=>match (match r with|none=>some []|some r=>(match A.get r with|some (.map es _)=>some es|_=>none)),tz P e with
  | some es,some z=>match pN ki k es 0 with
   | some (some (_,v,_))=>some (.val (bif ok then .tuple #[v,.bool true]else v),A)
   | some none=>some (.val (bif ok then .tuple #[z,.bool false]else z),A)
   | none=>none
  | _,_=>none
 | _,_,_=>none
def Ll(t:TypeId)(m k x:Operand)(ρ:jk)(A:AH):Option (XR×AH) :=
 match ρ m,ρ k,ρ x,BV P t with
 | some (.map (some r)),some k,some v,some (ki,_,_)=>match A.get r with
  | some (.map es clock)=>match pN ki k es 0 with
   | some (some (i,_,born))=>some (.unit,A.set r (.map (es.set i (k,v,born)) clock))
   | some none=>some (.unit,A.set r (.map (es++[(k,v,clock)]) (clock+1)))
   | none=>none
  | _=>none
 | _,_,_,_=>none
def Lq(t:TypeId)(m k:Operand)(ρ:jk)(A:AH):Option (XR×AH) :=
 match ρ m,ρ k,BV P t with
 | some (.map (some r)),some k,some (ki,_,e)=>match A.get r,tz P e with
  | some (.map es clock),some z=>match pN ki k es 0 with
   | some (some (i,v,born))=>some (.val (.tuple #[v,.int .i64 born]),A.set r (.map (es.set i (k,v,born)) clock))
   | some none=>some (.val (.tuple #[z,.int .i64 clock]),A.set r (.map (es++[(k,z,clock)]) (clock+1)))
   | none=>none
  | _,_=>none
 | _,_,_=>none
def Lf(t:TypeId)(m s x:Operand)(ρ:jk)(A:AH):Option (XR×AH) :=
 match ρ m,ρ s,ρ x with
 | some (.map (some r)),some (.int _ b),some v=>match A.get r with
  | some (.map es clock)=>match es.findIdx? (fun e=>(e.2.2:Int)==b)with
   | some i=>some (.unit,A.set r (.map (es.modify i fun e=>(e.1,v,e.2.2)) clock))
   | none=>none
  | _=>none
 | _,_,_=>none
def G9(x:Operand)(i:Nat)(ρ:jk)(A:AH):Option (XR×AH) :=
 match ρ x with
 | some (.tuple vs)=>(vs.toList[i]?).map fun v=>(.val v,A)
 | _=>none
def Jx(b:Builtin)(args:Array Operand)(T:Array TypeId)(ρ:jk)(A:AH):Option (XR×AH) :=
 match mapM' ρ args.toList with
 | some vs=>pL P b vs T.toList A
 | none=>none
def Og(f:Operand)(args:Array Operand)(ρ:jk)(A:AH):Option (XR×AH) :=
 match ρ f,mapM' ρ args.toList with
 | some (.func (.func f) fi ca),some vs=>bif enters P f then some (.enter f (fi.toList++vs++ca.toList),A)else
  bif Jo P "math/bits.Add64" f then (OA (fi.toList ++ vs ++ ca.toList)).map fun v => (.val v, A) else none
 | some (.func (.method name) ⟨.iface t (.pointer (some a)) :: fi⟩ ⟨[]⟩),some vs=>match xM P t name with
  | some f=>bif enters P f then some (.enter f (.pointer (some a) :: fi++vs),A)else none
  | none=>none
 | some (.func (.yield l) ⟨[]⟩ ⟨[]⟩),some vs=>some (.yield l vs,A)
 | _,_=>none
def Of(x:Operand)(name:String)(args:Array Operand)(ρ:jk)(A:AH):Option (XR×AH) :=
 match ρ x,mapM' ρ args.toList with
 | some (.iface t (.pointer (some a))),some vs=>match xM P t name with
  | some f=>bif enters P f then some (.enter f (.pointer (some a) :: vs),A)else none
  | none=>none
 | _,_=>none
def BU(c:Call)(ρ:jk)(A:AH):Option (XR×AH):=match c with
 | ⟨.builtin b,args,T⟩=>Jx P b args T ρ A
 | ⟨.value f,args,_⟩=>Og P f args ρ A
 | ⟨.invoke x name,args,_⟩=>Of P x name args ρ A
def jt(ty:TypeId)(op:Op)(ρ:jk)(A:AH):Option (XR×AH) :=
 match op with
 | .move x=>NM x ρ A
 | .assign x=>MB x ρ A
 | .pick c a b=>Iz c a b ρ A
 | .alloc t=>Nj P t ρ A
 | .box t x=>Yl t x ρ A
 | .build t parts=>Il P t parts ρ A
 | .buildSlice t n parts=>Lg P t n parts ρ A
 | .load t a=>IN P t a ρ A
 | .store t a x=>Na P t a x ρ A
 | .nilCheck x=>GX P x ρ A
 | .binOp o t x y _=>HR P o t x y ρ A
 | .unOp o _ x=>IQ o x ρ A
 | .convert s d x=>He P s d x ρ A
 | .makeInterface t x=>Gz P t x ρ A
 | .makeFunc fn fi ca=>GP fn fi ca ρ A
 | .makeMap t r=>Hg P t r ρ A
 | .makeSlice t l c=>GF P t l c ρ A
 | .slice t x lo hi mx=>Ii P t x lo hi mx ρ A
 | .fieldAddr s x f=>GG P s x f ρ A
 | .field t x f=>HL P t x f ρ A
 | .indexAddr t x ix=>GJ P t x ix ρ A
 | .index t x ix=>HY P t x ix ρ A
 | .lookup t x ix ok=>Hz P t x ix ok ρ A
 | .mapUpdate t m k x=>Ll P t m k x ρ A
 | .mapEntry t m k=>Lq P t m k ρ A
 | .entryStore t m s x=>Lf t m s x ρ A
 | .extract x i=>G9 x i ρ A
 | .call c=>BU P c ρ A
 | _=>none
def GB:Nat:=1000
abbrev ji := Tr Value
def mE(n:Nat)(σ:ji):jk
 | .tmp t=>bif Nat.blt t n then(match σ.get t with|some v=>some v|none=>some undef)else some undef
 | .const v=>bif Nat.beq (nm v) 0 then some v else none
 | .global g=>bif Nat.blt g GB then some (ptr g 0)else none
 | .func f=>some (.func (.func f) #[] #[])
def pY(σ:ji)(d:Option Nat)(v:Value):ji := match d with
 | some d=>σ.put d (some v)
 | none=>σ
def s8(ops:List Oper)(n:Nat)(σ:ji):Option (Nat×Bool)->Bool
 | none=>true
 | some (j,want)=>match r7 ops j with
  | some d=>match mE n σ (.tmp d)with
   | some v=>Ao v want
   | none=>false
  | none=>false
inductive Gn where
 | code (c:Code) (q:Bool) (n:Nat) (σ:ji) (ds:List Nat) (A:AH)
 | rounds (c:Code) (q:Bool) (n:Nat) (σ:ji) (ds:List Nat) (A:AH)
 | call (f:FuncId) (args:List Value) (A:AH)
 | yield (l:Nat) (args:List Value) (A:AH)
inductive Out where
 | code (e:Exit) (σ:ji) (ds:List Nat) (A:AH)
 | call (v:Value) (A:AH)
abbrev Rec:=Gn->Option Out
def Bc(rec:Rec)(q:Bool)(o:Oper)(n:Nat)(σ:ji)(A:AH):Option (Value×AH) :=
 match jt P o.type o.op (mE n σ) A with
 | some (.val v,A')=>some (v,A')
 | some (.unit,A')=>some (undef,A')
 | some (.enter f args,A')=>match rec (.call f args A')with
  | some (.call v A'')=>some (v,A'')
  | _=>none
 | some (.yield l args,A')=>bif q then(match rec (.yield l args A')with
  | some (.call v A'')=>some (v,A'')
  | _=>none)else none
 | none=>none
def AD(rec:Rec)(q:Bool)(ops:List Oper)(n:Nat)(l:List Oper):ji -> AH->Option (ji × AH) :=
 List.rec (motive:=fun _=>ji -> AH->Option (ji × AH)) (fun σ A=>some (σ,A)) (fun o _ ih σ A=>cond (s8 ops n σ o.guard) (match Bc P rec q o n σ A with
  | some (v,A')=>ih (pY σ o.dst v) A'
  | none=>none) (ih (pY σ o.dst undef) A)) l
theorem UZ(rec:Rec)(q:Bool)(ops:List Oper)(n:Nat)(σ:ji)(A:AH):AD P rec q ops n [] σ A=some (σ,A):=rfl
theorem Uq(rec:Rec)(q:Bool)(ops:List Oper)(n:Nat)(o:Oper)(l:List Oper)(σ:ji)(A:AH):AD P rec q ops n (o :: l) σ A=bif s8 ops n σ o.guard then(match Bc P rec q o n σ A with
 | some (v,A')=>AD P rec q ops n l (pY σ o.dst v) A'
 | none=>none)
 else AD P rec q ops n l (pY σ o.dst undef) A:=rfl
def vY:List Value->Nat->ji -> ji
 | [],_,σ=>σ
 | v :: vs,i,σ=>vY vs (i+1) (σ.put i (some v))
def qu:List Nat->List Value->ji -> ji
 | p :: ps,v :: vs,σ=>qu ps vs (σ.put p (some v))
 | _,_,σ=>σ
def vZ(n:Nat)(σ:ji)(A:AH):List ResultVar->Option (List Value)
 | []=>some []
 | .tmp t :: l=>match mE n σ (.tmp t),vZ n σ A l with
  | some v,some vs=>some (v :: vs)
  | _,_=>none
 | .cell a t :: l=>match mE n σ (.tmp a)with
  | some p=>match Am P A t p,vZ n σ A l with
   | some (.val v),some vs=>some (v :: vs)
   | _,_=>none
  | none=>none
def ri:List Value->Value
 | [v]=>v
 | vs=>.tuple vs.toArray
def Jl:Exit->Bool
 | .ret=>true
 | .normal=>true
 | _=>false
def xx(A:AH):List Nat->Option AH
 | []=>some A
 | d :: ds=>match A.get d with
  | some .sD=>xx (A.jT d) ds
  | _=>none
abbrev uW:=Rec->Bool->List Oper->Nat->ji -> AH->Option (ji × AH)
def PE(rec:Rec)(f:FuncId)(args:List Value)(A:AH):Option Out:=match P.funcs[f]? with
 | some fn=>match fn.body with
  | some c=>bif Nat.ble args.length fn.ntmps then(match rec (.code c true fn.ntmps (vY args 0 .e) [] A)with
   | some (.code e σ ds A')=>bif Jl e then(match xx A' ds with
    | some A'' => (vZ P fn.ntmps σ A'' fn.results.toList).map fun vs=>.call (ri vs) A''
    | none=>none)else none
   | _=>none)else none
  | none=>none
 | none=>none
def OM(rec:Rec)(l:Nat)(args:List Value)(A:AH):Option Out:=match A.get l with
 | some (.loop n σ ps assign body dd)=>bif Nat.beq args.length ps.length then
  (match rec (.code assign false n (qu ps args σ) [] A)with
  | some (.code .normal σ' [] A')=>match A'.get l with
   | some (.loop n2 σ2 ps2 assign2 body2 dd2)=>match rec (.code body false n σ' [] (A'.jT l))with
    | some (.code .normal _ [] A'')=>some (.call (.bool true) (A''.set l (.loop n2 σ2 ps2 assign2 body2 dd2)))
    | some (.code .ret _ [] A'')=>some (.call (.bool false) (A''.set l (.done none)))
    | some (.code (.exit i) _ [] A'')=>some (.call (.bool false) (A''.set l (.done (some i))))
    | _=>none
   | _=>none
  | _=>none)else none
 | _=>none
def NK(rec:Rec)(c:Code)(q:Bool)(n:Nat)(σ:ji)(ds:List Nat)(A:AH):Option Out:=match rec (.code c q n σ ds A)with
 | some (.code .normal σ' ds' A')=>rec (.rounds c q n σ' ds' A')
 | r=>r
def N6(reg:uW)(rec:Rec)(ops:Array Oper)(draw q:Bool)(n:Nat)(σ:ji)(ds:List Nat)(A:AH):Option Out :=
 (bif draw then reg rec q ops.toList n σ A else AD P rec q ops.toList n ops.toList σ A).map fun p=>.code .normal p.1 ds p.2
def P0(rec:Rec)(a b:Code)(q:Bool)(n:Nat)(σ:ji)(ds:List Nat)(A:AH):Option Out:=match rec (.code a q n σ ds A)with
 | some (.code .normal σ' ds' A')=>rec (.code b q n σ' ds' A')
 | r=>r
def O6(rec:Rec)(x:Operand)(a b:Code)(q:Bool)(n:Nat)(σ:ji)(ds:List Nat)(A:AH):Option Out:=match mE n σ x with
 | some (.bool true)=>rec (.code a q n σ ds A)
 | some (.bool false)=>rec (.code b q n σ ds A)
 | _=>none
def N8(rec:Rec)(id:Nat)(b:Code)(q:Bool)(n:Nat)(σ:ji)(ds:List Nat)(A:AH):Option Out:=match rec (.code b q n σ ds A)with
 | some (.code (.exit i) σ' ds' A')=>bif Nat.beq i id then some (.code .normal σ' ds' A')else some (.code (.exit i) σ' ds' A')
 | r=>r
def Oy(rec:Rec)(b:Code)(q:Bool)(n:Nat)(σ:ji)(ds:List Nat)(A:AH):Option Out:=match rec (.code b q n σ ds A)with
 | some (.code (.goto _) _ _ _)=>none
 | r=>r
def Oi(rec:Rec)(x:Operand)(ps:Array Tmp)(assign body:Code)(q:Bool)(n:Nat)(σ:ji)(ds:List Nat)(A:AH):Option Out:=bif q then(match mE n σ x with
 | some (.func (.func f) fi ca)=>bif enters P f then(match rec (.call f (fi.toList++[.func (.yield (A.nf+1)) #[] #[]]++ca.toList) ((A.add .sD).add (.loop n σ ps.toList assign body A.nf)))with
  | some (.call _ A')=>match A'.get (A.nf+1)with
   | some (.loop ..)=>some (.code .normal σ (A.nf :: ds) (A'.jT (A.nf+1)))
   | some (.done none)=>some (.code .ret σ (A.nf :: ds) (A'.jT (A.nf+1)))
   | some (.done (some i))=>some (.code (.exit i) σ (A.nf :: ds) (A'.jT (A.nf+1)))
   | _=>none
  | _=>none)else none
 | _=>none)else none
def uB(reg:uW)(rec:Rec)(c:Code)(q:Bool)(n:Nat)(σ:ji)(ds:List Nat)(A:AH):Option Out:=match c with
 | .skip=>some (.code .normal σ ds A)
 | .region _ ops draw=>N6 P reg rec ops draw q n σ ds A
 | .seq a b=>P0 rec a b q n σ ds A
 | .cond x a b=>O6 rec x a b q n σ ds A
 | .block id b=>N8 rec id b q n σ ds A
 | .loop b=>rec (.rounds b q n σ ds A)
 | .scope b=>Oy rec b q n σ ds A
 | .label _=>some (.code .normal σ ds A)
 | .exit i=>some (.code (.exit i) σ ds A)
 | .ret=>some (.code .ret σ ds A)
 | .rangeFunc x ps assign body=>Oi P rec x ps assign body q n σ ds A
 | _=>none
def step(reg:uW)(rec:Rec):Gn->Option Out
 | .call f args A=>PE P rec f args A
 | .yield l args A=>OM rec l args A
 | .rounds c q n σ ds A=>NK rec c q n σ ds A
 | .code c q n σ ds A=>uB P reg rec c q n σ ds A
def run(reg:uW)(k:Nat):Rec:=Nat.rec (motive:=fun _=>Rec) (fun _=>none) (fun _ ih j=>step P reg ih j) k
theorem TX (reg:uW)(j:Gn):run P reg 0 j=none:=rfl
end
end
end Go.Ex
namespace Go.Ex
open Go Go.Sx
noncomputable def slots(n:Nat)(E:Env)(σ:Tr Value):List (Nat×Value):=(List.range n).map fun t=>(t,fT E ((σ.get t).getD undef))
theorem V3(f:Nat->Value):∀ (n t:Nat),Sx.look ((List.range' t n).map fun i=>(i,f i))=fun i=>if t<=i/\i<t+n then f i else undef:=by
 intro n
 induction n with
 | zero=>intro t;funext i;simp[Sx.look];omega
 | succ n ih =>
  intro t
  funext i
  rw[List.range'_succ,zy,w5,ih (t+1)]
  by_cases h:t=i
  . subst h;simp
  . rw[if_neg h]
    show (if t+1<=i/\i<t+1+n then f i else undef)=_
    by_cases h2:t<=i/\i<t+(n+1)
    . rw[if_pos h2,if_pos o_]
    . rw[if_neg h2,if_neg o_]
theorem sS(n:Nat)(E:Env)(σ:Tr Value)(t:Nat):Sx.look (slots n E σ) t=if t<n then fT E ((σ.get t).getD undef)else undef:=by
 have:=congrFun (V3 (fun t=>fT E ((σ.get t).getD undef)) n 0) t
 rw[<-List.range_eq_range']at this
 simpa[slots]using this
theorem Ee {n:Nat}{s s' : List (Nat×Value)}(ds:List Deferred)(h:∀ t,t<n->Sx.look s t=Sx.look s' t):Fr n s ds=Fr n s' ds:=by
 unfold Fr
 congr 2
 funext i
 exact h i.val i.isLt
def oB(E:Env)(ds:List Nat):List Deferred:=ds.map fun d=>⟨.collected (E d).blk,#[]⟩
noncomputable def Fx(n:Nat)(E:Env)(σ:Tr Value)(ds:List Nat):Act:=Fr n (slots n E σ) (oB E ds)
def AO.ro:AO->Bool
 | .cells _ _ _ r=>r
 | _=>false
def jV(k:Nat)(σ:Tr Value):Prop:=∀ t v,σ.get t=some v->nm v<=k
def AO.Wf(k:Nat):AO->Prop
 | .cells cs _ _ _=>gW cs<=k
 | .map es _=>∀ e∈es,nm e.1<=k/\nm e.2.1<=k
 | .loop _ σ _ _ _ dd=>jV k σ/\dd<k
 | .done _=>True
 | .Ci m _ _ _=>∀ x,m=some x->x<k
 | .sD=>True
def oU(E:Env)(x:Nm):AO->Obj->Prop
 | .cells cs T op true,c=>∃ arr T' mk,c = .cells arr T' mk/\∀ j u,cs[j]? = some u->arr[x.sh+j]? = some (fT E u)
 | .cells cs T op false,c=>∃ pre post:List Value,c = .cells (pre++cs.map (fT E)++post).toArray T (0,0)/\pre.length=x.sh/\∀ sz,op=some sz->post.length=x.sl*sz
 | .map es clock,c=>c = .map (es.map fun e=>(⟨fT E e.1,fT E e.2.1,e.2.2⟩:MapEntry)).toArray clock
 | .loop n σ ps assign body dd,c=>∃ fn ds,c = .loop ⟨.ready,none,fn,(Fr n (slots n E σ) ds).tmps,ps.toArray,assign,body,(E dd).blk⟩
 | .done j,c=>∃ rc:Loop,c = .loop rc/\rc.state = .done/\rc.pending=some (match j with|none=>.ret|some i=>.exit i)
 | .Ci m since seen last,c=>x.sh=0/\c = .mapIter (m.map fun b=>(E b).blk) since seen.toArray last
 | .sD,c=>c = .deferred (some [])
theorem AO.Wf.mono{k k' : Nat}{o:AO}(h:o.Wf k)(hk:k<=k'):o.Wf k' := by
 cases o with
 | cells cs T op ro=>exact z1 h hk
 | map es c=>exact fun e he=>⟨z1 (h e he).1 hk,z1 (h e he).2 hk⟩
 | loop n σ ps a b dd=>exact⟨fun t v hv=>z1 (h.1 t v hv) hk,z6 h.2 hk⟩
 | done j=>trivial
 | Ci m a b c=>exact fun x hx=>z6 (h x hx) hk
 | sD=>trivial
theorem BD(E:Env):fT E undef=undef:=rfl
theorem Ds{n k:Nat}{E E' : Env}{σ:Tr Value}(h:∀ b,b<k->E' b=E b)(hs:jV k σ):slots n E' σ=slots n E σ:=by
 unfold slots
 refine A8 fun t _=>?_
 cases hv:σ.get t with
 | none=>rfl
 | some v=>simp only[Bp];rw[uo h v (hs t v hv)]
theorem oU.ext{E E' : Env}{k:Nat}{x:Nm}{o:AO}{c:Obj}(h:∀ b,b<k->E' b=E b)(hw:o.Wf k)(hl:oU E x o c):oU E' x o c:=by
 cases o with
 | cells cs T op ro =>
  cases ro with
  | false =>
   obtain⟨pre,post,e,h1,h2⟩:=hl
   exact⟨pre,post,by rw[G0 h hw];exact e,h1,h2⟩
  | true =>
   obtain⟨arr,T', mk,e,h1⟩:=hl
   exact⟨arr,T', mk,e,fun j u hu=>by rw[uo h u (lq.1 hw u (ze hu))];exact h1 j u hu⟩
 | map es clock =>
  have:(es.map fun e=>(⟨fT E' e.1,fT E' e.2.1,e.2.2⟩:MapEntry))=es.map fun e=>(⟨fT E e.1,fT E e.2.1,e.2.2⟩:MapEntry) :=
   A8 fun e he=>by rw[uo h _ (hw e he).1,uo h _ (hw e he).2]
  simp only[oU]at hl ⊢
  rw[this];exact hl
 | loop n σ ps a b dd =>
  obtain⟨fn,ds,e⟩:=hl
  exact⟨fn,ds,by rw[Ds h hw.1,h dd hw.2];exact e⟩
 | done j=>exact hl
 | Ci m a b d =>
  simp only[oU]at hl ⊢
  cases m with
  | none=>exact hl
  | some y=>rw[hl.2];simp only[oE];rw[h y (hw y rfl)];exact⟨hl.1,rfl⟩
 | sD=>exact hl
structure Rel (E:Env) (A:AH) (w:World):Prop where
 obj:∀ b o,A.get b=some o->∃ c,w.heap[(E b).blk]? = some c/\oU E (E b) o c
 inj:∀ b b' o o', A.get b=some o->A.get b' = some o' -> (E b).blk=(E b').blk->b=b'
 wf:∀ b o,A.get b=some o->b<A.nf/\o.Wf A.nf
 oe:∀ b,b<GB->E b=⟨b,0,0⟩
 low:GB<=A.nf
structure To (E:Env) (A:AH) (w:World) (E' : Env) (A' : AH) (w' : World):Prop where
 nf:A.nf<=A'.nf
 ext:∀ b,b<A.nf->E' b=E b
 os:w'.os=w.os
 tape:w'.tape=w.tape
 output:w'.output=w.output
 size:w.heap.size<=w'.heap.size
 blk:∀ x,x<w.heap.size->(∀ b o,A.get b=some o->o.ro=false->(E b).blk≠x)->w'.heap[x]? = w.heap[x]?
 mine:∀ b o,A'.get b=some o->(∃ c oc,A.get c=some oc/\(E' b).blk=(E c).blk/\(o.ro=false->oc.ro=false))\/w.heap.size<=(E' b).blk
section
variable {E E' E'' : Env} {A A' A'' : AH} {w w' w'' : World} {o o' : AO} {b:Nat}
theorem To.refl(E:Env)(A:AH)(w:World):To E A w E A w :=
 ⟨zp _,fun _ _=>rfl,rfl,rfl,rfl,zp _,fun _ _ _=>rfl,fun b o h=>.inl ⟨b,o,h,rfl,id⟩⟩
theorem To.trans(h:To E A w E' A' w')(k:To E' A' w' E'' A'' w''):To E A w E'' A'' w'' := by
 refine⟨z1 h.nf k.nf,fun b hb=>(k.ext b (z6 hb h.nf)).trans (h.ext b hb),k.os.trans h.os,k.tape.trans h.tape,k.output.trans h.output,z1 h.size k.size,fun x hx hn=>?_,fun b o hb=>?_⟩
 . refine(k.blk x (z6 hx h.size) fun b o hb hr e=>?_).trans (h.blk x hx hn)
   rcases h.mine b o hb with ⟨c,oc,hc,he,hro⟩|hs
   . exact hn c oc hc (hro hr) (he.symm.trans e)
   . omega
 . rcases k.mine b o hb with ⟨c,oc,hc,he,hro⟩|hs
   . rcases h.mine c oc hc with ⟨c2,oc2,hc2,he2,hro2⟩|hs2
     . exact .inl ⟨c2,oc2,hc2,he.trans he2,fun hr=>hro2 (hro hr)⟩
     . exact .inr (by rw[he];exact hs2)
   . exact .inr (z1 h.size hs)
theorem NP(d:Value):∀ (l:List Value) (i:Nat),Fc l d i=(l[i]?).getD d
 | [],i=>rfl
 | x :: l,0=>rfl
 | x :: l,i+1=>by
  show Fc l d i=_
  rw[NP d l i];simp
theorem zD(n:Nat)(base:List Value)(d:Value)(t:Tr Value):(oV n base d t).length=n:=by simp[oV]
theorem xm(n:Nat)(base:List Value)(d:Value)(t:Tr Value)(i:Nat):(oV n base d t)[i]? = if i<n then some (rowAt base d t i)else none:=by
 unfold oV
 rw[kX]
 by_cases h:i<n
 . rw[if_pos h,Bj h];rfl
 . rw[if_neg h,nk (by simp;omega)];rfl
theorem TM(cs:List Value)(d:Value):oV cs.length cs d .e=cs:=by
 refine nE fun i=>?_
 rw[xm]
 by_cases h:i<cs.length
 . rw[if_pos h]
   show some (Fc cs d i)=_
   rw[NP];simp[h]
 . rw[if_neg h,nk o_]
theorem xg:∀ (vs:List Value) (o:Nat) (t:Tr Value) (i:Nat),(xF vs o t).get i=if o<=i/\i<o+vs.length then vs[i-o]? else t.get i
 | [],o,t,i=>by
  rw[if_neg (by simp only[zq];omega)];rfl
 | v :: vs,o,t,i=>by
  show (xF vs (o+1) (t.put o (some v))).get i=_
  rw[xg vs (o+1) _ i,Tr.ur]
  by_cases h1:o+1<=i/\i<o+1+vs.length
  . rw[if_pos h1,if_pos (by simp;omega)]
    obtain⟨k,rfl⟩:∃ k,i=o+1+k:=⟨i-(o+1),o_⟩
    rw[show o+1+k-(o+1)=k by omega,show o+1+k-o=k+1 by omega]
    simp
  . rw[if_neg h1]
    by_cases h2:i=o
    . subst h2;simp
    . rw[if_neg h2,if_neg (by simp;omega)]
theorem Tq(cs:List Value)(d:Value):oV cs.length [] d (xF cs 0 .e)=cs:=by
 refine nE fun i=>?_
 rw[xm]
 by_cases h:i<cs.length
 . rw[if_pos h]
   unfold rowAt
   rw[xg,if_pos (show 0<=i/\i<0+cs.length by omega)]
   have:cs[i-0]? = some cs[i]:=by rw[yM];exact zo h
   rw[this]
   simp[h]
 . rw[if_neg h,nk o_]
theorem PO.O2(o:AO):(PO.of o).to=o:=by
 cases o with
 | cells cs T op ro =>
  simp only[PO.of]
  cases Nat.ble cs.length 24 with
  | true=>simp only[cond_true,PO.to,TM]
  | false=>simp only[cond_false,PO.to,Tq]
 | _=>rfl
theorem AH.En(h:Tr PO)(n b:Nat)(p:PO)(b' : Nat)(n' : Nat):(⟨h.put b (some p),n⟩:AH).get b' = if b' = b then some p.to else(⟨h,n'⟩:AH).get b' := by
 unfold AH.get
 simp only[Tr.ur]
 by_cases e:b' = b
 . simp[e]
 . simp[e]
theorem xw(A:AH)(b b' : Nat)(o:AO):(A.set b o).get b' = if b' = b then some o else A.get b' := by
 unfold AH.set;rw[AH.En (n' := A.nf),PO.O2]
theorem BB(A:AH)(b b' : Nat):(A.jT b).get b' = if b' = b then none else A.get b' := by
 unfold AH.get AH.jT
 simp only[Tr.ur]
 by_cases e:b' = b
 . simp[e]
 . simp[e]
theorem VE(A:AH)(b' : Nat)(p:PO):(A.J6 p).get b' = if b' = A.nf then some p.to else A.get b' := by
 unfold AH.J6;rw[AH.En (n' := A.nf)]
theorem qo(A:AH)(b' : Nat)(o:AO):(A.add o).get b' = if b' = A.nf then some o else A.get b' := by
 unfold AH.add;rw[AH.En (n' := A.nf),PO.O2]
def mg(A A' : AH):Prop:=A.nf=A'.nf/\∀ b,A.get b=A'.get b
theorem Rel.same(h:Rel E A w)(s:mg A' A):Rel E A' w :=
 ⟨fun b o hb=>h.obj b o (by rw[<-s.2];exact hb),fun b b' o o' hb hb' => h.inj b b' o o' (by rw[<-s.2];exact hb) (by rw[<-s.2];exact hb'),fun b o hb=>by rw[s.1];exact h.wf b o (by rw[<-s.2];exact hb),h.oe,by rw[s.1];exact h.low⟩
theorem To.same(h:To E A w E' A' w')(s:mg A'' A'):To E A w E' A'' w' :=
 ⟨by rw[s.1];exact h.nf,h.ext,h.os,h.tape,h.output,h.size,h.blk,fun b o hb=>h.mine b o (by rw[<-s.2];exact hb)⟩
theorem Rel.lt(h:Rel E A w)(hb:A.get b=some o):(E b).blk<w.heap.size:=by
 obtain⟨c,hc,_⟩:=h.obj b o hb
 exact(z8.1 hc).1
theorem Rel.iF{c' : Obj}(h:Rel E A w)(hb:A.get b=some o)(hro:o.ro=false)(hro' : o'.ro=false)(hw:w'.heap[(E b).blk]? = some c')(hl:oU E (E b) o' c')(hn:o'.Wf A.nf)(hc:gB [(E b).blk] w w') :
 Rel E (A.set b o') w' /\ To E A w E (A.set b o') w' := by
 refine⟨⟨fun b1 o1 h1=>?_,fun b1 b2 o1 o2 h1 h2 e=>?_,fun b1 o1 h1=>?_,h.oe,h.low⟩,⟨zp _,fun _ _=>rfl,hc.os,hc.tape,hc.output,hc.size,fun x hx hn' => ?_,fun b1 o1 h1=>?_⟩⟩
 . rw[xw]at h1
   split at h1
   . rename_i e;subst e;cases h1;exact⟨c', hw,hl⟩
   . rename_i e
     obtain⟨c1,hc1,hl1⟩:=h.obj b1 o1 h1
     exact⟨c1,(hc.block _ (h.lt h1) (by simp;exact fun e2=>e (h.inj b1 b o1 o h1 hb e2))).trans hc1,hl1⟩
 . have g:∀ b1 o1,(A.set b o').get b1=some o1->∃ o2,A.get b1=some o2:=by
    intro b1 o1 h1
    rw[xw]at h1
    split at h1
    . rename_i e;subst e;exact⟨o,hb⟩
    . exact⟨o1,h1⟩
   obtain⟨p1,hp1⟩:=g b1 o1 h1
   obtain⟨p2,hp2⟩:=g b2 o2 h2
   exact h.inj b1 b2 p1 p2 hp1 hp2 e
 . rw[xw]at h1
   split at h1
   . rename_i e;subst e;cases h1;exact⟨(h.wf _ _ hb).1,hn⟩
   . exact h.wf b1 o1 h1
 . exact hc.block x hx (by simp;exact fun e=>hn' b o hb hro e.symm)
 . rw[xw]at h1
   split at h1
   . rename_i e;subst e;cases h1;exact .inl ⟨b1,o,hb,rfl,fun _=>hro⟩
   . exact .inl ⟨b1,o1,h1,rfl,id⟩
def lD(E:Env)(k:Nat)(x:Nm):Env:=fun b=>bif Nat.beq b k then x else E b
theorem lg(E:Env)(k:Nat)(x:Nm):lD E k x k=x:=by simp[lD]
theorem oQ(E:Env){k b:Nat}(x:Nm)(h:b≠k):lD E k x b=E b:=by simp[lD,oO,h]
theorem OI(E:Env){k:Nat}(x:Nm):∀ b,b<k->lD E k x b=E b:=fun b h=>oQ E x o_
theorem Rel.new{c:Obj}{x:Nm}(h:Rel E A w)(hw:w'.heap[x.blk]? = some c)(hx:w.heap.size<=x.blk)(hl:oU E x o c)(hn:o.Wf A.nf)(hc:gB [] w w') :
 Rel (lD E A.nf x) (A.add o) w' /\ To E A w (lD E A.nf x) (A.add o) w' := by
 have ext:=OI E (k:=A.nf) x
 have gl:∀ b,b<GB->lD E A.nf x b=⟨b,0,0⟩:=fun b hb=>(ext b (z6 hb h.low)).trans (h.oe b hb)
 refine⟨⟨fun b1 o1 h1=>?_,fun b1 b2 o1 o2 h1 h2 e=>?_,fun b1 o1 h1=>?_,gl,Fu h.low⟩,⟨by simp[AH.add],ext,hc.os,hc.tape,hc.output,hc.size,fun y hy hn' => hc.block y hy s_,fun b1 o1 h1=>?_⟩⟩
 . rw[qo]at h1
   split at h1
   . rename_i e;subst e;cases h1
     rw[lg]
     exact⟨c,hw,hl.ext ext hn⟩
   . rename_i e
     obtain⟨c1,hc1,hl1⟩:=h.obj b1 o1 h1
     rw[oQ E x e]
     exact⟨c1,(hc.block _ (h.lt h1) s_).trans hc1,hl1.ext ext (h.wf b1 o1 h1).2⟩
 . rw[qo]at h1 h2
   split at h1
   . rename_i e1
     split at h2
     . rename_i e2;rw[e1,e2]
     . rename_i e2
       exfalso
       rw[e1,lg,oQ E x e2]at e
       have:=h.lt h2
       omega
   . rename_i e1
     split at h2
     . rename_i e2
       exfalso
       rw[e2,lg,oQ E x e1]at e
       have:=h.lt h1
       omega
     . rename_i e2
       rw[oQ E x e1,oQ E x e2]at e
       exact h.inj b1 b2 o1 o2 h1 h2 e
 . rw[qo]at h1
   split at h1
   . rename_i e;subst e;cases h1;exact⟨by simp[AH.add],hn.mono (by simp[AH.add])⟩
   . have:=h.wf b1 o1 h1
     exact⟨by simp[AH.add];omega,this.2.mono (by simp[AH.add])⟩
 . rw[qo]at h1
   split at h1
   . rename_i e;subst e;exact .inr (by rw[lg];exact hx)
   . rename_i e;exact .inl ⟨b1,o1,h1,by rw[oQ E x e],id⟩
theorem Rel.jT(h:Rel E A w)(b:Nat):Rel E (A.jT b) w/\To E A w E (A.jT b) w:=by
 have g:∀ b1 o1,(A.jT b).get b1=some o1->A.get b1=some o1:=by
  intro b1 o1 h1
  rw[BB]at h1
  split at h1
  . cases h1
  . exact h1
 exact⟨⟨fun b1 o1 h1=>h.obj b1 o1 (g b1 o1 h1),fun b1 b2 o1 o2 h1 h2 e=>h.inj b1 b2 o1 o2 (g _ _ h1) (g _ _ h2) e,fun b1 o1 h1=>h.wf b1 o1 (g _ _ h1),h.oe,h.low⟩,
  ⟨zp _,fun _ _=>rfl,rfl,rfl,rfl,zp _,fun _ _ _=>rfl,fun b1 o1 h1=>.inl ⟨b1,o1,g _ _ h1,rfl,id⟩⟩⟩
theorem Rel.drew(h:Rel E A w):Rel E A w.drew/\To E A w E A w.drew :=
 ⟨⟨h.obj,h.inj,h.wf,h.oe,h.low⟩,⟨zp _,fun _ _=>rfl,rfl,rfl,rfl,zp _,fun _ _ _=>rfl,fun b o h=>.inl ⟨b,o,h,rfl,id⟩⟩⟩
theorem Rel.take{c:Obj}{x:Nm}(h:Rel E A w)(hb:A.get b=some o)(hro:o.ro=false)(hxb:x.blk=(E b).blk)(hw:w'.heap[x.blk]? = some c)(hl:oU E x o' c)(hn:o'.Wf A.nf)(hc:gB [(E b).blk] w w') :
 Rel (lD E A.nf x) ((A.jT b).add o') w' /\ To E A w (lD E A.nf x) ((A.jT b).add o') w' := by
 have ext:=OI E (k:=A.nf) x
 have hnf:(A.jT b).nf=A.nf:=rfl
 have hbn:b<A.nf:=(h.wf b o hb).1
 have g:∀ b1 o1,((A.jT b).add o').get b1=some o1->(b1=A.nf/\o1=o')\/(b1≠A.nf/\b1≠b/\A.get b1=some o1):=by
  intro b1 o1 h1
  rw[qo,hnf]at h1
  split at h1
  . rename_i e;cases h1;exact .inl ⟨e,rfl⟩
  . rename_i e
    rw[BB]at h1
    split at h1
    . cases h1
    . rename_i e2;exact .inr ⟨e,e2,h1⟩
 have gl:∀ b,b<GB->lD E A.nf x b=⟨b,0,0⟩:=fun b hb=>(ext b (z6 hb h.low)).trans (h.oe b hb)
 refine⟨⟨fun b1 o1 h1=>?_,fun b1 b2 o1 o2 h1 h2 e=>?_,fun b1 o1 h1=>?_,gl,Fu h.low⟩,⟨by simp[AH.add,AH.jT],ext,hc.os,hc.tape,hc.output,hc.size,fun y hy hn' => hc.block y hy (by simp;exact fun e=>hn' b o hb hro e.symm),fun b1 o1 h1=>?_⟩⟩
 . rcases g b1 o1 h1 with ⟨rfl,rfl⟩|⟨e1,e2,h1⟩
   . rw[lg]
     exact⟨c,hw,hl.ext ext hn⟩
   . obtain⟨c1,hc1,hl1⟩:=h.obj b1 o1 h1
     rw[oQ E x e1]
     exact⟨c1,(hc.block _ (h.lt h1) (by simp;exact fun e=>e2 (h.inj b1 b o1 o h1 hb e))).trans hc1,hl1.ext ext (h.wf b1 o1 h1).2⟩
 . rcases g b1 o1 h1 with ⟨rfl,rfl⟩|⟨e1,e2,h1⟩
   . rcases g b2 o2 h2 with ⟨rfl,rfl⟩|⟨e3,e4,h2⟩
     . rfl
     . exfalso
       rw[lg,oQ E x e3,hxb]at e
       exact e4 (h.inj b2 b o2 o h2 hb e.symm)
   . rename_i h1'
     rcases g b2 o2 h2 with ⟨rfl,rfl⟩|⟨e3,e4,h2⟩
     . exfalso
       rw[lg,oQ E x e1,hxb]at e
       exact e2 (h.inj b1 b o1 o h1 hb e)
     . rw[oQ E x e1,oQ E x e3]at e
       exact h.inj b1 b2 o1 o2 h1 h2 e
 . rcases g b1 o1 h1 with ⟨rfl,rfl⟩|⟨e1,e2,h1⟩
   . exact⟨by simp[AH.add,AH.jT],hn.mono (by simp[AH.add,AH.jT])⟩
   . have:=h.wf b1 o1 h1
     exact⟨by simp[AH.add,AH.jT];omega,this.2.mono (by simp[AH.add,AH.jT])⟩
 . rcases g b1 o1 h1 with ⟨rfl,rfl⟩|⟨e1,e2,h1⟩
   . exact .inl ⟨b,o,hb,by rw[lg,hxb],fun _=>hro⟩
   . exact .inl ⟨b1,o1,h1,by rw[oQ E x e1],id⟩
end
end Go.Ex
