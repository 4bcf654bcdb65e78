/- Plain lemmas: rules for walking through code, one for each operation, over any program; an evaluator of closed calls with its soundness; and plain mathematics. No conditions. -/
import Derived.WalkKit
import Derived.TacticsIn
import Derived.RangeFuncIn
import Derived.Shelf.Abstract
import Derived.Laws.CopyOwn
import Derived.OrdersIn
import Derived.WalkSpells
import Derived.Lib.SliceRun
import Derived.RecoverIn
import Derived.WideLaws
import Derived.RangeFuncRecord
set_option linter.unusedVariables false
set_option linter.unusedSectionVars false
set_option linter.unusedSimpArgs false
namespace Go.Sx
open Go
abbrev za:=@Nat.le_of_ble_eq_true
abbrev zb:=@List.mem_cons
abbrev zd:=@List.getElem?_eq_some_iff
abbrev ze:=@Result.andThen_ok
abbrev zg:=@List.mem_cons_self
abbrev zh:=@List.mem_of_getElem?
abbrev zj:=@Sem.run_bind
abbrev zk:=@List.getElem?_eq_getElem
abbrev zm:=@Sem.run_pure
abbrev zn:=@Nat.le_refl
abbrev zo:=@Bool.and_eq_true
abbrev zp:=@List.length_cons
abbrev zq:=@List.mem_append
abbrev zr:=@List.length_map
abbrev zt:=@Nat.eq_of_beq_eq_true
abbrev zu:=@List.nodup_append
abbrev zw:=@List.length_append
abbrev zx:=@List.length_nil
abbrev zy:=@List.nodup_cons
abbrev zz:=@List.all_eq_true
abbrev z1:=@List.map_cons
abbrev z6:=@Nat.lt_of_lt_of_le
abbrev z7:=@Nat.le_trans
abbrev z8:=@Array.getElem?_eq_some_iff
abbrev lu:=@List.mem_cons_of_mem
abbrev kJ:=@List.getElem?_map
abbrev kD:=@List.length_take
abbrev kO:=@List.flatMap_cons
abbrev jN:=@Nat.zero_add
abbrev j4:=@Nat.add_assoc
abbrev mB:=@List.getElem?_eq_none
abbrev jW:=@List.mem_map
abbrev lY:=@List.mem_singleton
abbrev mT:=@List.append_assoc
abbrev nq:=@List.ext_getElem?
abbrev mC:=@List.mem_range
abbrev nu:=@Option.map_some
abbrev qH:=@List.getElem?_toArray
abbrev sS:=@List.getElem?_append_left
abbrev rE:=@List.take_of_length_le
abbrev pZ:=@List.getElem?_take
abbrev vg:=@List.eq_nil_of_length_eq_zero
abbrev rz:=@List.perm_append_comm
abbrev rM:=@Array.getElem?_toList
abbrev mL:=@Nat.add_zero
abbrev qI:=@Bool.or_eq_true_iff
abbrev o6:=@List.cons_append
abbrev o7:=@List.mem_flatMap
abbrev u9:=@List.getElem?_append_right
abbrev mS:=@Nat.zero_le
abbrev sL:=@Array.length_toList
abbrev uc:=@Nat.lt_iff_add_one_le
abbrev nw:=@Nat.add_mul
abbrev rD:=@Int.toNat_natCast
abbrev rN:=@List.getElem?_set
abbrev qC:=@List.append_nil
abbrev qL:=@List.map_append
abbrev rF:=@List.not_mem_nil
abbrev wY:=@List.drop_eq_getElem_cons
abbrev wU:=@List.pairwise_iff_getElem
abbrev nv:=@Nat.max_le
abbrev vk:=@List.take_append_drop
abbrev vE:=@List.mem_append_right
abbrev rK:=@List.nil_append
abbrev uZ:=@Nat.mul_le_mul_right
abbrev ve:=@List.mem_append_left
abbrev qa:=@Nat.lt_or_ge
abbrev tV:=@Nat.lt_trichotomy
abbrev vj:=@List.filterMap_cons
abbrev sR:=@Bool.or_eq_true
abbrev zM:=@Array.getElem?_eq_getElem
abbrev tO:=@List.countP_cons
abbrev vt:=@Nat.eq_zero_or_pos
abbrev tU:=@List.length_drop
abbrev EV:=@List.set_eq_take_append_cons_drop
abbrev rC:=@Nat.le_of_lt
abbrev u7:=@List.perm_middle
abbrev vh:=@List.filter_cons
abbrev wO:=@List.pairwise_cons
abbrev zL:=@List.mem_iff_getElem?
abbrev ES:=@List.eraseIdx_eq_take_drop_succ
abbrev zS:=@List.getElem?_append
abbrev Cg:=@List.getElem?_replicate
abbrev zJ:=@List.countP_eq_zero
abbrev Ad:=@List.getElem?_range
abbrev zO:=@List.map_congr_left
abbrev zP:=@List.getElem_of_mem
abbrev zV:=@List.getElem?_drop
abbrev BT:=@Nat.ble_eq_true_of_le
abbrev Ff:=@Array.toList_setIfInBounds
abbrev EC:=@Int.tmod_eq_emod_of_nonneg
abbrev Ay:=@List.take_add_one
abbrev Ck:=@Array.toArray_toList
abbrev Cm:=@List.getElem?_modify
abbrev xh:=@List.nodup_nil
abbrev Ao:=@List.take_append
abbrev Aq:=@Nat.div_add_mod'
abbrev zT:=@Option.getD_some
abbrev Cc:=@Nat.mul_le_mul_left
abbrev Cq:=@List.mem_filterMap
abbrev zW:=@Nat.min_eq_left
abbrev tZ:=@Nat.mod_lt
abbrev zN:=@Option.map_none
abbrev B6:=@List.getLast?_cons
abbrev Fi:=@List.drop_of_length_le
abbrev Js:=@List.take_append_of_le_length
abbrev wQ:=@List.map_nil
abbrev wS:=@Nat.sub_zero
abbrev Fy:=@List.length_replicate
abbrev Fz:=@Array.getElem?_modify
abbrev B5:=@List.drop_append
abbrev Cb:=@List.take_length
abbrev BW:=@List.nodup_range
abbrev Fm:=@List.mem_of_getLast?
abbrev E7:=@List.mem_iff_getElem
abbrev EZ:=@Array.toList_modify
abbrev JB:=@List.mem_or_eq_of_mem_set
abbrev BS:=@Nat.one_ne_zero
abbrev Jr:=@List.getLast?_eq_none_iff
abbrev Cr:=@Int.emod_nonneg
abbrev J9:=@List.exists_mem_of_ne_nil
abbrev B8:=@Nat.testBit_and
abbrev Af:=@List.map_map
abbrev Jw:=@List.length_erase_of_mem
abbrev Ca:=@Bool.xor_false
abbrev JQ:=@Nat.add_sub_cancel_left
abbrev Jn:=@List.length_eq_zero_iff
abbrev EX:=@Option.mem_toList
abbrev Fs:=@Nat.le_succ_of_le
abbrev FC:=@List.filter_congr
abbrev zX:=@Nat.mul_one
abbrev JC:=@List.sublist_cons_self
abbrev zY:=@Nat.mul_add
abbrev JF:=@List.length_pos_of_mem
abbrev Fb:=@List.map_toArray
abbrev EE:=@List.any_eq_true
abbrev JU:=@List.countP_le_length
abbrev Jy:=@Nat.div_lt_iff_lt_mul
abbrev Jt:=@List.filterMap_append
abbrev Jo:=@List.eraseIdx_sublist
abbrev Fq:=@List.mem_filter
abbrev J8:=@List.mem_of_mem_drop
abbrev JV:=@List.mem_of_mem_take
abbrev BR:=@Nat.ne_of_lt
theorem o_{p:Prop}(h:p:=by omega):p:=h
theorem s_{p:Prop}(h:p:=by simp):p:=h
theorem d_{p:Prop}(h:p:=by decide):p:=h
end Go.Sx
namespace Go.Sx
open Go
def look:List (Nat×Value)->Nat->Value
 | [],_=>undef
 | (i,v) :: s,t=>bif Nat.beq i t then v else look s t
def Fr(n:Nat)(s:List (Nat×Value))(ds:List Deferred):Act :=
 { tmps:=Array.ofFn (n:=n) fun i=>look s i.val,defers:=ds }
def ev(n:Nat)(s:List (Nat×Value)):Operand->Value
 | .tmp t=>bif Nat.blt t n then look s t else undef
 | .const v=>v
 | .global g=>.pointer (some ⟨g,0,none⟩)
 | .func f=>.func (.func f) #[] #[]
theorem r6{a b:Nat}(h:a<b):Nat.blt a b=true:=by simp[Nat.blt];omega
theorem AI{a b:Nat}(h:¬ a<b):Nat.blt a b=false:=by
 cases hb:Nat.blt a b with
 | false=>rfl
 | true=>exact absurd (by simpa[Nat.blt,uc]using hb) h
theorem Dh(n:Nat)(s:List (Nat×Value))(ds:List Deferred)(x:Operand):(Fr n s ds).eval x=ev n s x:=by
 cases x with
 | tmp t =>
  by_cases h:t<n
  . simp[Act.eval,Fr,ev,h,r6 h]
  . simp[Act.eval,Fr,ev,h,AI h]
 | _=>rfl
theorem pe (n:Nat)(s:List (Nat×Value))(ds:List Deferred):(Fr n s ds).eval=ev n s:=funext (Dh n s ds)
theorem vM(i t:Nat)(v:Value)(s:List (Nat×Value)):look ((i,v) :: s) t=if i=t then v else look s t:=by
 by_cases h:i=t
 . simp[look,h]
 . have:Nat.beq i t=false:=by
    cases hb:Nat.beq i t with
    | false=>rfl
    | true=>exact absurd (zt hb) h
   simp[look,this,h]
theorem sj{n:Nat}{s s' : List (Nat×Value)}(ds:List Deferred)(h:∀ t,look s t=look s' t):Fr n s ds=Fr n s' ds:=by
 unfold Fr
 congr 2
 funext i
 exact h i.val
theorem DO(n:Nat)(s:List (Nat×Value))(ds:List Deferred)(d:Nat)(v:Value):(Fr n s ds).put (some d) v=Fr n ((d,v) :: s) ds:=by
 unfold Act.put Fr
 simp only[Act.mk.injEq,and_true]
 apply Array.ext
 . simp
 . intro i h1 h2
   simp at h1 h2
   rw[Array.getElem_setIfInBounds (by simpa using h2)]
   simp[vM]
theorem Sb(pre s:List (Nat×Value))(h:∀ p∈pre,look s p.1=p.2)(t:Nat):look (pre++s) t=look s t:=by
 induction pre with
 | nil=>rfl
 | cons p pre ih =>
  have ih' := ih (fun q hq=>h q (lu _ hq))
  obtain⟨i,v⟩:=p
  rw[o6,vM]
  split
  . rename_i e;subst e;exact(h (i,v) (zg ..)).symm
  . exact ih'
def Holds(s:List (Nat×Value)):List (Nat×Value)->Prop
 | []=>True
 | p :: l=>look s p.1=p.2/\Holds s l
theorem Holds.mem{s:List (Nat×Value)}:∀ {l:List (Nat×Value)},Holds s l->∀ p∈l,look s p.1=p.2
 | [],_,p,hp=>by cases hp
 | q :: l,h,p,hp=>by
  cases hp with
  | head=>exact h.1
  | tail _ hp=>exact Holds.mem h.2 p hp
theorem V4{n:Nat}{s:List (Nat×Value)}{ds:List Deferred}(pre:List (Nat×Value))(h:Holds s pre):Fr n s ds=Fr n (pre++s) ds :=
 sj ds fun t=>(Sb pre s h.mem t).symm
def FW(r:Option Nat):Fence:={ fn:=fun _=>True,depth:=none,alive:=false,round:=r }
abbrev WP(r:Option Nat)(P:Program)(c:Code)(Q:Exit->Act->World->Prop)(a:Act)(w:World):Prop:=c.wpIn (FW r) 0 P Q a w
structure WL (r:Option Nat) (P:Program) (ops:Array Oper) (Q:Exit->Act->World->Prop) (l:List Oper) (a:Act) (w:World):Prop where
 out:wpListIn (FW r) 0 P ops Q l a w
theorem qQ{r:Option Nat}{m:Nat}{P:Program}{f:FuncId}{args:Array Value}{w:World}{R:Ending->World->Prop} :
 CallsIn (FW r) m P f args w R↔Calls P f args w R:=callsIn_wide (n:=m)
def qZ:List Oper->Nat->Option Nat
 | [],_=>none
 | o :: _,0=>o.dst
 | _ :: l,j+1=>qZ l j
theorem C8(l:List Oper):∀ j,qZ l j=(l[j]?).bind (·.dst):=by
 induction l with
 | nil=>intro j;simp[qZ]
 | cons o l ih=>intro j;cases j with|zero=>rfl|succ j=>simpa[qZ]using ih j
def yG:Value->Bool->Bool
 | .bool b,want=>bif want then b else !b
 | _,_=>false
def gB(ops:Array Oper)(n:Nat)(s:List (Nat×Value)):Option (Nat×Bool)->Bool
 | none=>true
 | some (j,want) =>
  match qZ ops.toList j with
  | some d=>yG (ev n s (.tmp d)) want
  | none=>false
theorem mX(ops:Array Oper)(n:Nat)(s:List (Nat×Value))(ds:List Deferred)(o:Oper) :
 Region.wanted o (yielded ops (Fr n s ds).tmps)=gB ops n s o.guard:=by
 unfold Region.wanted gB
 cases o.guard with
 | none=>rfl
 | some g =>
  obtain⟨j,want⟩:=g
  have e:qZ ops.toList j=(ops[j]?).bind (·.dst):=by rw[C8];simp
  simp only[yielded,e]
  cases (ops[j]?).bind (·.dst)with
  | none=>simp
  | some d =>
   simp only[Option.bind_some]
   by_cases h:d<n
   . have:(Fr n s ds).tmps[d]? = some (look s d):=by simp[Fr,h]
     rw[this]
     simp only[ev,r6 h,cond_true]
     cases look s d<;>simp[yG]
     rename_i b
     cases b<;>cases want<;>rfl
   . have:(Fr n s ds).tmps[d]? = none:=Array.getElem?_eq_none (by simpa[Fr]using h)
     rw[this]
     simp[ev,AI h,undef,yG]
section ops
variable {r:Option Nat} {P:Program} {ops:Array Oper} {Q:Exit->Act->World->Prop} {rest:List Oper} {n:Nat} {s:List (Nat×Value)} {ds:List Deferred} {w w' : World}
theorem NL(h:Q .normal (Fr n s ds) w):WL r P ops Q [] (Fr n s ds) w:=⟨h⟩
theorem semAt_eq{r:Option Nat}{ρ:Operand->Value}{o:Oper}(h:∀ c,o.op ≠ .defer c):o.semAt r ρ=execOp ρ o:=by
 cases r with
 | none=>exact congrFun (congrFun (funext fun ρ=>funext fun o=>Oper.semAt_none ρ o) ρ) o
 | some l=>exact Oper.semAt_some l ρ o h
def mE:Op->Bool
 | .defer _=>false
 | _=>true
theorem sX{op:Op}(h:mE op=true):∀ c,op ≠ .defer c:=by
 intro c e;subst e;cases h
theorem H8{o:Oper}{v:Value}(hg:gB ops n s o.guard=true)(hd:mE o.op=true)(h:(execOp (ev n s) o).run P w = .ok (.value v) w')
 (K:WL r P ops Q rest ((Fr n s ds).put o.dst v) w'):WL r P ops Q (o :: rest) (Fr n s ds) w:=by
 refine⟨?_⟩
 unfold wpListIn
 rw[mX,hg,if_pos rfl]
 refine⟨fun _ _=>trivial,?_⟩
 rw[semAt_eq (sX hd),pe, h]
 exact K.out
theorem xJ{o:Oper}(hg:gB ops n s o.guard=true)(hd:mE o.op=true)(h:(execOp (ev n s) o).run P w = .ok .skip w')
 (K:WL r P ops Q rest ((Fr n s ds).put o.dst undef) w'):WL r P ops Q (o :: rest) (Fr n s ds) w:=by
 refine⟨?_⟩
 unfold wpListIn
 rw[mX,hg,if_pos rfl]
 refine⟨fun _ _=>trivial,?_⟩
 rw[semAt_eq (sX hd),pe, h]
 exact K.out
theorem G0{o:Oper}{f:FuncId}{args:Array Value}(hg:gB ops n s o.guard=true)(hd:mE o.op=true)(h:(execOp (ev n s) o).run P w = .ok (.enter f args) w')
 (K:Calls P f args w' fun
  | .returned v,w'' => WL r P ops Q rest ((Fr n s ds).put o.dst v) w''
  | .panicked chain,w'' => Q (.panic chain) (Fr n s ds) w''
  | .outgrown,_=>LetsOut Q):WL r P ops Q (o :: rest) (Fr n s ds) w:=by
 refine⟨?_⟩
 unfold wpListIn
 rw[mX,hg,if_pos rfl]
 refine⟨fun _ _=>trivial,?_⟩
 rw[semAt_eq (sX hd),pe, h]
 exact⟨fun h=>by simp[FW]at h,qQ.2 (Calls.mono K fun e w' he=>by cases e<;>first|exact he.out|exact he)⟩
theorem sk{d:Nat}{op:Op}{ty:TypeId}{pos:String}{af:Array Edge}{g:Nat×Bool}(hg:gB ops n s (some g)=false)
 (K:WL r P ops Q rest (Fr n ((d,undef) :: s) ds) w):WL r P ops Q (⟨some d,op,ty,pos,af,some g⟩ :: rest) (Fr n s ds) w:=by
 refine⟨?_⟩
 unfold wpListIn
 rw[mX]
 simp only[hg]
 refine⟨fun _ _=>trivial,?_⟩
 rw[DO]
 exact K.out
theorem gJ{k:IntKind}{a b:Int}(h:a=b):Value.int k a=Value.int k b:=by rw[h]
theorem E4{a b:Bool}(h:a=b):Value.bool a=Value.bool b:=by rw[h]
end ops
end Go.Sx
namespace Go.Sx
open Go
section
variable {r:Option Nat} {P:Program} {ops:Array Oper} {Q:Exit->Act->World->Prop} {rest:List Oper} {n:Nat} {s:List (Nat×Value)} {ds:List Deferred} {w w' : World}
variable {d:Nat} {ty:TypeId} {pos:String} {af:Array Edge} {g:Option (Nat×Bool)}
theorem pv{op:Op}{v:Value}(hg:gB ops n s g=true)(hd:mE op=true)(h:(execOp (ev n s) ⟨some d,op,ty,pos,af,g⟩).run P w = .ok (.value v) w')
 (K:WL r P ops Q rest (Fr n ((d,v) :: s) ds) w'):WL r P ops Q (⟨some d,op,ty,pos,af,g⟩ :: rest) (Fr n s ds) w :=
 H8 hg hd h (by rw[DO];exact K)
theorem iD{x:Operand}{v:Value}(hx:ev n s x=v){dd:Option Nat} :
 (execOp (ev n s) ⟨dd,.move x,ty,pos,af,g⟩).run P w = .ok (.value v) w:=by simp[execOp,hx]
theorem mv{x:Operand}{v:Value}(hg:gB ops n s g=true)(hx:ev n s x=v)(K:WL r P ops Q rest (Fr n ((d,v) :: s) ds) w) :
 WL r P ops Q (⟨some d,.move x,ty,pos,af,g⟩ :: rest) (Fr n s ds) w:=pv hg rfl (iD hx) K
theorem tB{x:Operand}{v:Value}(hx:ev n s x=v){dd:Option Nat} :
 (execOp (ev n s) ⟨dd,.assign x,ty,pos,af,g⟩).run P w = .ok (.value v) w:=by simp[execOp,hx]
theorem tQ{x:Operand}{v:Value}(hg:gB ops n s g=true)(hx:ev n s x=v)(K:WL r P ops Q rest (Fr n ((d,v) :: s) ds) w) :
 WL r P ops Q (⟨some d,.assign x,ty,pos,af,g⟩ :: rest) (Fr n s ds) w:=pv hg rfl (tB hx) K
theorem Iz{c x y:Operand}{v:Value}(hc:ev n s c = .bool true)(hx:ev n s x=v){dd:Option Nat} :
 (execOp (ev n s) ⟨dd,.pick c x y,ty,pos,af,g⟩).run P w = .ok (.value v) w:=by simp[execOp,hx,hc,asBool]
theorem IG{c x y:Operand}{v:Value}(hc:ev n s c = .bool false)(hy:ev n s y=v){dd:Option Nat} :
 (execOp (ev n s) ⟨dd,.pick c x y,ty,pos,af,g⟩).run P w = .ok (.value v) w:=by simp[execOp,hy,hc,asBool]
def jQ:BinOp->Int->Int->Option Bool
 | .eql,a,b=>some (a==b)
 | .neq,a,b=>some (a != b)
 | .lss,a,b=>some (decide (a<b))
 | .leq,a,b=>some (decide (a<=b))
 | .gtr,a,b=>some (decide (b<a))
 | .geq,a,b=>some (decide (b<=a))
 | _,_,_=>none
theorem vI(op:BinOp)(t:TypeId)(x y:Operand)(k k' : IntKind)(a b:Int):(eqGuard op t x y (.int k a) (.int k' b)).run P w = .ok () w:=by
 unfold eqGuard
 cases op<;>simp
theorem Wk{op:BinOp}{t:TypeId}{k:IntKind}{a b:Int}{c:Bool}(h:jQ op a b=some c):(binOp op t (.int k a) (.int k b)).run P w = .ok (.bool c) w:=by
 cases op<;>simp[jQ]at h<;>subst h<;>simp[binOp,Op.intCmp]
theorem mz{op:BinOp}{x y:Operand}{t t' : TypeId}{k:IntKind}{a b:Int}{c:Bool}(hx:ev n s x = .int k a)(hy:ev n s y = .int k b)
 (hc:jQ op a b=some c) {dd:Option Nat} :
 (execOp (ev n s) ⟨dd,.binOp op t x y t', ty,pos,af,g⟩).run P w = .ok (.value (.bool c)) w:=by simp[execOp,hx,hy,vI,Wk hc]
theorem cmp{op:BinOp}{x y:Operand}{t t' : TypeId}{k:IntKind}{a b:Int}{c:Bool}(hg:gB ops n s g=true)(hx:ev n s x = .int k a)(hy:ev n s y = .int k b)
 (hc:jQ op a b=some c) (K:WL r P ops Q rest (Fr n ((d,.bool c) :: s) ds) w) :
 WL r P ops Q (⟨some d,.binOp op t x y t', ty,pos,af,g⟩ :: rest) (Fr n s ds) w:=pv hg rfl (mz hx hy hc) K
theorem wD{a b:Int}(h:a<b):jQ .lss a b=some true:=by simp[jQ,h]
theorem nE{a b:Int}(h:¬ a<b):jQ .lss a b=some false:=by simp[jQ,h]
theorem zC{a b:Int}(h:a<=b):jQ .leq a b=some true:=by simp[jQ,h]
theorem It{a b:Int}(h:¬ a<=b):jQ .leq a b=some false:=by simp[jQ,h]
theorem tv{a b:Int}(h:¬ a>b):jQ .gtr a b=some false:=by simp[jQ];omega
theorem pS{a b:Int}(h:a≥b):jQ .geq a b=some true:=by simp[jQ];omega
theorem uH{a b:Int}(h:¬ a≥b):jQ .geq a b=some false:=by simp[jQ];omega
theorem sF{a b:Int}(h:a=b):jQ .eql a b=some true:=by simp[jQ,h]
theorem Br{a b:Int}(h:¬ a=b):jQ .eql a b=some false:=by simp[jQ,h]
theorem Ey{a b:Int}(h:¬ a=b):jQ .neq a b=some true:=by simp[jQ,h]
theorem n9{a b:Int}(h:a=b):jQ .neq a b=some false:=by simp[jQ,h]
def Ax:BinOp->Int->Int->Option Int
 | .add,a,b=>some (a+b)
 | .sub,a,b=>some (a-b)
 | .mul,a,b=>some (a*b)
 | _,_,_=>none
theorem Wd{op:BinOp}{t:TypeId}{k:IntKind}{a b c:Int}(h:Ax op a b=some c):(binOp op t (.int k a) (.int k b)).run P w = .ok (.int k (k.wrap c)) w:=by
 cases op<;>simp[Ax]at h<;>subst h<;>simp[binOp,Op.intArith]
theorem kG{op:BinOp}{x y:Operand}{t t' : TypeId}{k:IntKind}{a b c e:Int}(hx:ev n s x = .int k a)(hy:ev n s y = .int k b)
 (hc:Ax op a b=some c) (hw:k.wrap c=e) {dd:Option Nat} :
 (execOp (ev n s) ⟨dd,.binOp op t x y t', ty,pos,af,g⟩).run P w = .ok (.value (.int k e)) w:=by simp[execOp,hx,hy,vI,Wd hc,hw]
theorem ar{op:BinOp}{x y:Operand}{t t' : TypeId}{k:IntKind}{a b c e:Int}(hg:gB ops n s g=true)(hx:ev n s x = .int k a)(hy:ev n s y = .int k b)
 (hc:Ax op a b=some c) (hw:k.wrap c=e) (K:WL r P ops Q rest (Fr n ((d,.int k e) :: s) ds) w) :
 WL r P ops Q (⟨some d,.binOp op t x y t', ty,pos,af,g⟩ :: rest) (Fr n s ds) w:=pv hg rfl (kG hx hy hc hw) K
theorem iV{a:Int}(h : -9223372036854775808<=a/\a<=9223372036854775807):IntKind.i64.wrap a=a:=IntWalk.i64_in a h
theorem uV{a:Int}(h:0<=a/\a<=18446744073709551615):IntKind.u64.wrap a=a:=IntWalk.u64_in a h
theorem Pg{x y:Operand}{t t' : TypeId}{k:IntKind}{a b e:Int}(hx:ev n s x = .int k a)(hy:ev n s y = .int k b)
 (hb:b≠0) (hw:k.wrap (a.tdiv b)=e) {dd:Option Nat} :
 (execOp (ev n s) ⟨dd,.binOp .quo t x y t', ty,pos,af,g⟩).run P w = .ok (.value (.int k e)) w:=by simp[execOp,hx,hy,vI,binOp,Op.intDiv,hb,hw]
theorem quo{x y:Operand}{t t' : TypeId}{k:IntKind}{a b e:Int}(hg:gB ops n s g=true)(hx:ev n s x = .int k a)(hy:ev n s y = .int k b)
 (hb:b≠0) (hw:k.wrap (a.tdiv b)=e) (K:WL r P ops Q rest (Fr n ((d,.int k e) :: s) ds) w) :
 WL r P ops Q (⟨some d,.binOp .quo t x y t', ty,pos,af,g⟩ :: rest) (Fr n s ds) w:=pv hg rfl (Pg hx hy hb hw) K
theorem Bu{x y:Operand}{t t' : TypeId}{k:IntKind}{a b e:Int}(hx:ev n s x = .int k a)(hy:ev n s y = .int k b)
 (hb:b≠0) (hw:a.tmod b=e) {dd:Option Nat} :
 (execOp (ev n s) ⟨dd,.binOp .rem t x y t', ty,pos,af,g⟩).run P w = .ok (.value (.int k e)) w:=by simp[execOp,hx,hy,vI,binOp,Op.intDiv,hb,hw]
theorem rem{x y:Operand}{t t' : TypeId}{k:IntKind}{a b e:Int}(hg:gB ops n s g=true)(hx:ev n s x = .int k a)(hy:ev n s y = .int k b)
 (hb:b≠0) (hw:a.tmod b=e) (K:WL r P ops Q rest (Fr n ((d,.int k e) :: s) ds) w) :
 WL r P ops Q (⟨some d,.binOp .rem t x y t', ty,pos,af,g⟩ :: rest) (Fr n s ds) w:=pv hg rfl (Bu hx hy hb hw) K
def mV(op:BinOp)(k:IntKind)(x y:Int):Option Int :=
 let a:=BitVec.ofInt k.bits x
 let b:=BitVec.ofInt k.bits y
 match op with
 | .and=>some (k.wrap (a &&& b).toNat)
 | .or=>some (k.wrap (a ||| b).toNat)
 | .xor=>some (k.wrap (a ^^^ b).toNat)
 | .andNot=>some (k.wrap (a &&& ~~~b).toNat)
 | _=>none
theorem BJ{op:BinOp}{x y:Operand}{t t' : TypeId}{k:IntKind}{a b e:Int}(hx:ev n s x = .int k a)(hy:ev n s y = .int k b)
 (hw:mV op k a b=some e) {dd:Option Nat} :
 (execOp (ev n s) ⟨dd,.binOp op t x y t', ty,pos,af,g⟩).run P w = .ok (.value (.int k e)) w:=by
 simp only[mV]at hw
 cases op<;>simp at hw<;>simp[execOp,hx,hy,vI,binOp,Op.intBits,hw]
theorem bi{op:BinOp}{x y:Operand}{t t' : TypeId}{k:IntKind}{a b e:Int}(hg:gB ops n s g=true)(hx:ev n s x = .int k a)(hy:ev n s y = .int k b)
 (hw:mV op k a b=some e) (K:WL r P ops Q rest (Fr n ((d,.int k e) :: s) ds) w) :
 WL r P ops Q (⟨some d,.binOp op t x y t', ty,pos,af,g⟩ :: rest) (Fr n s ds) w:=pv hg rfl (BJ hx hy hw) K
theorem aax{x y:Operand}{t t' : TypeId}{k ky:IntKind}{a b e:Int}(hx:ev n s x = .int k a)(hy:ev n s y = .int ky b)
 (hb:0<=b) (hw:k.wrap (a*2 ^ (min b.toNat k.bits))=e) {dd:Option Nat} :
 (execOp (ev n s) ⟨dd,.binOp .shl t x y t', ty,pos,af,g⟩).run P w = .ok (.value (.int k e)) w:=by
 have h' : ¬ b<0:=by omega
 simp[execOp,hx,hy,vI,binOp,Op.shift,h', hw]
theorem Pq{x y:Operand}{t t' : TypeId}{k ky:IntKind}{a b e:Int}(hx:ev n s x = .int k a)(hy:ev n s y = .int ky b)
 (hb:0<=b) (hw:a.fdiv (2 ^ (min b.toNat k.bits))=e) {dd:Option Nat} :
 (execOp (ev n s) ⟨dd,.binOp .shr t x y t', ty,pos,af,g⟩).run P w = .ok (.value (.int k e)) w:=by
 have h' : ¬ b<0:=by omega
 simp[execOp,hx,hy,vI,binOp,Op.shift,h', hw]
theorem shr{x y:Operand}{t t' : TypeId}{k ky:IntKind}{a b e:Int}(hg:gB ops n s g=true)(hx:ev n s x = .int k a)(hy:ev n s y = .int ky b)
 (hb:0<=b) (hw:a.fdiv (2 ^ (min b.toNat k.bits))=e) (K:WL r P ops Q rest (Fr n ((d,.int k e) :: s) ds) w) :
 WL r P ops Q (⟨some d,.binOp .shr t x y t', ty,pos,af,g⟩ :: rest) (Fr n s ds) w:=pv hg rfl (Pq hx hy hb hw) K
theorem ZO{x:Operand}{t:TypeId}{k:IntKind}{a e:Int}(hx:ev n s x = .int k a)(hw:k.wrap (0-a)=e){dd:Option Nat} :
 (execOp (ev n s) ⟨dd,.unOp .neg t x,ty,pos,af,g⟩).run P w = .ok (.value (.int k e)) w:=by rw[Int.zero_sub]at hw;simp[execOp,hx,Op.unary,Op.intArith,hw]
theorem ZF{x:Operand}{t:TypeId}{k:IntKind}{a e:Int}(hx:ev n s x = .int k a)(hw:mV .xor k (if k.signed then -1 else k.max) a=some e){dd:Option Nat} :
 (execOp (ev n s) ⟨dd,.unOp .xor t x,ty,pos,af,g⟩).run P w = .ok (.value (.int k e)) w:=by simp only[mV,Option.some.injEq]at hw;subst hw;simp only[execOp,hx];rfl
theorem IP{x:Operand}{t:TypeId}{b c:Bool}(hx:ev n s x = .bool b)(hc:(!b)=c){dd:Option Nat} :
 (execOp (ev n s) ⟨dd,.unOp .not t x,ty,pos,af,g⟩).run P w = .ok (.value (.bool c)) w:=by simp[execOp,hx,Op.unary,hc]
theorem yW{x:Operand}{t t' : TypeId}{k k' : IntKind}{u:TypeDesc}{a e:Int}(hx:ev n s x = .int k a)
 (hs:P.underlying t=some u) (ht:P.underlying t' = some (.int k')) (hw:k'.wrap a=e) {dd:Option Nat} :
 (execOp (ev n s) ⟨dd,.convert t t' x,ty,pos,af,g⟩).run P w = .ok (.value (.int k' e)) w:=by simp[execOp,hx,convert,run_underlying hs,run_underlying ht,Conv.intToInt,hw]
theorem cv{x:Operand}{t t' : TypeId}{k k' : IntKind}{u:TypeDesc}{a e:Int}(hg:gB ops n s g=true)(hx:ev n s x = .int k a)
 (hs:P.underlying t=some u) (ht:P.underlying t' = some (.int k')) (hw:k'.wrap a=e) (K:WL r P ops Q rest (Fr n ((d,.int k' e) :: s) ds) w) :
 WL r P ops Q (⟨some d,.convert t t' x,ty,pos,af,g⟩ :: rest) (Fr n s ds) w:=pv hg rfl (yW hx hs ht hw) K
theorem BF{x:Operand}{i:Nat}{vs:Array Value}{v:Value}(hx:ev n s x = .tuple vs)(hv:vs[i]? = some v){dd:Option Nat} :
 (execOp (ev n s) ⟨dd,.extract x i,ty,pos,af,g⟩).run P w = .ok (.value v) w:=by simp[execOp,hx,Instr.extract,hv]
theorem Ir{x:Operand}{t e:TypeId}{a:Option Addr}{m c:Nat}(hx:ev n s x = .slice a m c)(ht:P.underlying t=some (.slice e)){dd:Option Nat} :
 (execOp (ev n s) ⟨dd,.call ⟨.builtin .len,#[x],#[t]⟩,ty,pos,af,g⟩).run P w = .ok (.value (.int .i64 m)) w:=by simp[execOp,resolve,invoke,builtin,hx,Builtin.len_,run_underlying ht];rfl
theorem Et{x:Operand}{t e:TypeId}{a:Option Addr}{m c:Nat}(hg:gB ops n s g=true)(hx:ev n s x = .slice a m c)(ht:P.underlying t=some (.slice e))
 (K:WL r P ops Q rest (Fr n ((d,.int .i64 m) :: s) ds) w) :
 WL r P ops Q (⟨some d,.call ⟨.builtin .len,#[x],#[t]⟩,ty,pos,af,g⟩ :: rest) (Fr n s ds) w:=pv hg rfl (Ir hx ht) K
theorem jY{x:Operand}{a:Addr}(hx:ev n s x = .pointer (some a)){dd:Option Nat} :
 (execOp (ev n s) ⟨dd,.nilCheck x,ty,pos,af,g⟩).run P w = .ok (.value (.pointer (some a))) w:=by simp[execOp,hx]
theorem q8{x:Operand}{a:Addr}(hg:gB ops n s g=true)(hx:ev n s x = .pointer (some a))
 (K:WL r P ops Q rest (Fr n ((d,.pointer (some a)) :: s) ds) w) :
 WL r P ops Q (⟨some d,.nilCheck x,ty,pos,af,g⟩ :: rest) (Fr n s ds) w:=pv hg rfl (jY hx) K
theorem ZB{fn:Fn}{fi ca:List Operand}{vf vc:List Value}(hf:fi.map (ev n s)=vf)(hc:ca.map (ev n s)=vc){dd:Option Nat} :
 (execOp (ev n s) ⟨dd,.makeFunc fn fi.toArray ca.toArray,ty,pos,af,g⟩).run P w = .ok (.value (.func fn vf.toArray vc.toArray)) w:=by subst hf hc;simp[execOp,Instr.makeFunc]
theorem wJ{fn:Fn}{fi ca:List Operand}{vf vc:List Value}(hg:gB ops n s g=true)(hf:fi.map (ev n s)=vf)(hc:ca.map (ev n s)=vc)
 (K:WL r P ops Q rest (Fr n ((d,.func fn vf.toArray vc.toArray) :: s) ds) w) :
 WL r P ops Q (⟨some d,.makeFunc fn fi.toArray ca.toArray,ty,pos,af,g⟩ :: rest) (Fr n s ds) w:=pv hg rfl (ZB hf hc) K
theorem aaq{x:Operand}{t:TypeId}{u:TypeDesc}{v:Value}(hx:ev n s x=v)(ht:P.underlying t=some u)(hu:(match u with | .interface _=>false|_=>true)=true){dd:Option Nat} :
 (execOp (ev n s) ⟨dd,.makeInterface t x,ty,pos,af,g⟩).run P w = .ok (.value (.iface t v)) w:=by cases u<;>simp at hu<;>simp[execOp,hx,Instr.makeInterface,run_underlying ht]
theorem VX{x y:Operand}{t:TypeId}{k:IntKind}{b:ByteArray}{i:Int}{c:UInt8}(hx:ev n s x = .string b)(hy:ev n s y = .int k i)
 (ht:P.underlying t=some .string) (h0:0<=i) (hc:b[i.toNat]? = some c) {dd:Option Nat} :
 (execOp (ev n s) ⟨dd,.index t x y,ty,pos,af,g⟩).run P w = .ok (.value (.int .u8 c.toNat)) w:=by simp[execOp,hx,hy,Instr.index,asIntOf,run_underlying ht,h0,hc]
end
end Go.Sx
namespace Go.Sx
open Go
section
variable {r:Option Nat} {P:Program} {Q:Exit->Act->World->Prop} {n:Nat} {s:List (Nat×Value)} {ds:List Deferred} {w w' : World}
theorem rg{id:Nat}{l:List Oper}(h:WL r P l.toArray Q l (Fr n s ds) w):WP r P (.region id l.toArray false) Q (Fr n s ds) w:=wpIn_region_lit h.out
theorem sp(h:Q .normal (Fr n s ds) w):WP r P .skip Q (Fr n s ds) w:=wpIn_skip h
theorem bk{id:Nat}{c:Code}(h:WP r P c (Exit.inBlock id Q) (Fr n s ds) w):WP r P (.block id c) Q (Fr n s ds) w:=wpIn_block h
theorem xt{id:Nat}(h:Q (.exit id) (Fr n s ds) w):WP r P (.exit id) Q (Fr n s ds) w:=wpIn_exit h
theorem rt(h:Q .ret (Fr n s ds) w):WP r P .ret Q (Fr n s ds) w:=wpIn_ret h
theorem Qo{c:Operand}{x y:Code}(hc:ev n s c = .bool true)(h:WP r P x Q (Fr n s ds) w):WP r P (.cond c x y) Q (Fr n s ds) w :=
 wpIn_cond_true (by rw[Dh];exact hc) h
theorem Qi{c:Operand}{x y:Code}(hc:ev n s c = .bool false)(h:WP r P y Q (Fr n s ds) w):WP r P (.cond c x y) Q (Fr n s ds) w :=
 wpIn_cond_false (by rw[Dh];exact hc) h
section
variable {K:Act->World->Prop} {a:Act} {i j:Nat} {ch:List PanicEntry}
theorem tN(h:K a w):Exit.then K Q .normal a w:=h
theorem bX(h:Q .normal a w):Exit.inBlock i Q (.exit i) a w:=by simp only[Exit.inBlock,if_true];exact h
theorem EP(hne:Nat.beq j i=false)(h:Q (.exit j) a w):Exit.inBlock i Q (.exit j) a w:=by
 have:¬ j=i:=fun e=>by subst e;simp at hne
 simp only[Exit.inBlock,this,if_false];exact h
end
def ON{α:Type}(n:Nat)(ds:List Deferred)(pre:α->List (Nat×Value))(C:α->World->Prop)(μ:α->Nat)(m:Nat)(a:Act)(w:World):Prop :=
 ∃ x s,a=Fr n s ds/\Holds s (pre x)/\C x w/\μ x<m
theorem again{α:Type}{pre:α->List (Nat×Value)}{C:α->World->Prop}{μ:α->Nat}{m:Nat}(x:α)(h:Holds s (pre x))(hC:C x w)(hm:μ x<m):ON n ds pre C μ m (Fr n s ds) w :=
 ⟨x,s,rfl,h,hC,hm⟩
theorem lp{α:Type}{c:Code}(pre:α->List (Nat×Value))(C:α->World->Prop)(μ:α->Nat)(x0:α)(h0:Holds s (pre x0))(hC:C x0 w)
 (round:∀ x s' w', C x w' -> WP r P c (Exit.then (ON n ds pre C μ (μ x)) Q) (Fr n (pre x++s') ds) w'):WP r P (.loop c) Q (Fr n s ds) w:=by
 intro b k cs hro hb hr
 have key:∀ j x s w,μ x=j->Holds s (pre x)->C x w ->
  ∃ e a' w', Q e a' w' /\ ArrivesIn (Machine.fenced P (FW r)) P (lone (b.atR (Fr n s ds) (.code c :: .inLoop c :: k)) cs w) b k cs e a' w' := by
  intro j
  induction j using Nat.strongRecOn with
  | _ j ih =>
   intro x s w hn hs hI
   obtain⟨e,a₁,w₁,hq,harr⟩:=round x s w hI b (.inLoop c :: k) cs hro hb hr
   rw[<-V4 (pre x) hs]at harr
   cases e with
   | normal =>
    obtain⟨x₁,s₁,rfl,hs₁,hC₁,hlt⟩:=hq
    obtain⟨e₂,a₂,w₂,hq₂,harr₂⟩:=ih (μ x₁) (hn▸hlt) x₁ s₁ w₁ rfl hs₁ hC₁
    exact⟨e₂,a₂,w₂,hq₂,.of_steps (StepsIn.trans harr (.one (fenced_calm hb hr rfl) stepR_inLoop)) harr₂⟩
   | exit id=>exact⟨_,a₁,w₁,hq,.pass (x:=.inLoop c) rfl (fun _ _=>.inl s_) harr⟩
   | goto l=>exact⟨_,a₁,w₁,hq,.pass (x:=.inLoop c) rfl (fun _ _=>.inl s_) harr⟩
   | ret=>exact⟨_,a₁,w₁,hq,.pass (x:=.inLoop c) rfl (fun _ _=>.inl s_) harr⟩
   | panic ch=>exact⟨_,a₁,w₁,hq,.pass (x:=.inLoop c) rfl (fun _ _=>.inl s_) harr⟩
   | outgrown=>exact⟨_,a₁,w₁,hq,.pass (x:=.inLoop c) rfl (fun _ _=>.inl s_) harr⟩
 obtain⟨e,a', w', hq,harr⟩:=key _ x0 s w rfl h0 hC
 exact⟨e,a', w', hq,.of_steps (.one (fenced_calm hb hr rfl) stepR_loop) harr⟩
def Ac(r:Option Nat)(P:Program)(c:Code)(Q:Exit->Act->World->Prop):Nat->Act->World->Prop
 | 0,_,_=>False
 | k+1,a,w=>WP r P c (Exit.then (Ac r P c Q k) Q) a w
theorem sO{c:Code}(k:Nat)(h:Ac r P c Q k (Fr n s ds) w):WP r P (.loop c) Q (Fr n s ds) w:=by
 intro b kk cs hro hb hr
 have key:∀ k a w,Ac r P c Q k a w ->
  ∃ e a' w', Q e a' w' /\ ArrivesIn (Machine.fenced P (FW r)) P (lone (b.atR a (.code c :: .inLoop c :: kk)) cs w) b kk cs e a' w' := by
  intro k
  induction k with
  | zero=>intro a w h;exact h.elim
  | succ k ih =>
   intro a w h
   obtain⟨e,a₁,w₁,hq,harr⟩:=h b (.inLoop c :: kk) cs hro hb hr
   cases e with
   | normal =>
    obtain⟨e₂,a₂,w₂,hq₂,harr₂⟩:=ih a₁ w₁ hq
    exact⟨e₂,a₂,w₂,hq₂,.of_steps (StepsIn.trans harr (.one (fenced_calm hb hr rfl) stepR_inLoop)) harr₂⟩
   | exit id=>exact⟨_,a₁,w₁,hq,.pass (x:=.inLoop c) rfl (fun _ _=>.inl s_) harr⟩
   | goto l=>exact⟨_,a₁,w₁,hq,.pass (x:=.inLoop c) rfl (fun _ _=>.inl s_) harr⟩
   | ret=>exact⟨_,a₁,w₁,hq,.pass (x:=.inLoop c) rfl (fun _ _=>.inl s_) harr⟩
   | panic ch=>exact⟨_,a₁,w₁,hq,.pass (x:=.inLoop c) rfl (fun _ _=>.inl s_) harr⟩
   | outgrown=>exact⟨_,a₁,w₁,hq,.pass (x:=.inLoop c) rfl (fun _ _=>.inl s_) harr⟩
 obtain⟨e,a', w', hq,harr⟩:=key k _ w h
 exact⟨e,a', w', hq,.of_steps (.one (fenced_calm hb hr rfl) stepR_loop) harr⟩
theorem iL{c:Code}{k:Nat}{a:Act}(h:WP r P c (Exit.then (Ac r P c Q k) Q) a w):Ac r P c Q (k+1) a w:=h
def tG:List Value->Nat->List (Nat×Value)
 | [],_=>[]
 | v :: vs,i=>(i,v) :: tG vs (i+1)
theorem Lc(vs:List Value):∀ i t,i<=t->look (tG vs i) t=(vs[t-i]?).getD undef:=by
 induction vs with
 | nil=>intro i t _;simp[tG,look]
 | cons v vs ih =>
  intro i t h
  rw[tG,vM]
  split
  . rename_i e;subst e;simp
  . rename_i e
    rw[ih (i+1) t o_]
    rw[show t-i=(t-(i+1))+1 by omega]
    simp
theorem ND(vs:List Value)(n:Nat)(h:vs.length<=n):({ tmps:=vs.toArray++Array.replicate (n-vs.toArray.size) undef,defers:=[] }:Act)=Fr n (tG vs 0) []:=by
 unfold Fr
 simp only[Act.mk.injEq,and_true]
 apply Array.ext
 . simp;omega
 . intro i h1 h2
   simp only[Array.getElem_ofFn]
   rw[Lc vs 0 i o_]
   by_cases hi:i<vs.length
   . rw[Array.getElem_append_left (by simpa using hi)]
     simp[hi]
   . rw[Array.getElem_append_right (by simpa using hi)]
     simp[hi]
def CR(P:Program)(f:FuncId)(vs:Array Value)(w:World)(R:Value->World->Prop):Prop :=
 Calls P f vs w fun e w' => ∃ v,e = .returned v/\R v w'
theorem CR.mono{f:FuncId}{vs:Array Value}{R R' : Value->World->Prop}(h:CR P f vs w R)(hr:∀ v w', R v w' -> R' v w'):CR P f vs w R' :=
 Calls.mono h fun e w' ⟨v,he,hR⟩=>⟨v,he,hr v w' hR⟩
theorem enter{f:FuncId}{fn:Func}{c:Code}{vs:List Value}{R:Ending->World->Prop}(hf:P.funcs[f]? = some fn)(hb:fn.body=some c)(hn:fn.ntmps=n)(hs:Nat.ble vs.length n=true)
 (h:WP none P c (bodyPost P fn R) (Fr n (tG vs 0) []) w):Calls P f vs.toArray w R:=by
 refine qQ.1 (callsIn_of_wp (F:=FW none) (n:=0) hf hb trivial ?_)
 rw[hn,ND vs n (za hs)]
 exact h
theorem s5(t:Nat):(Fr n s ds).tmps.getD t undef=ev n s (.tmp t):=Dh n s ds (.tmp t)
theorem gF{fn:Func}{t:Nat}{v:Value}{R:Value->World->Prop}(hr:fn.results = #[.tmp t])(hv:ev n s (.tmp t)=v)(h:R v w) :
 bodyPost P fn (fun e w' => ∃ v,e = .returned v/\R v w') .ret (Fr n s []) w :=
 ⟨rfl,_,results_tmp hr _ _ _,_,rfl,by rw[s5,hv];exact h⟩
theorem BL{fn:Func}{R:Value->World->Prop}(hr:fn.results = #[])(h:R (.tuple #[]) w) :
 bodyPost P fn (fun e w' => ∃ v,e = .returned v/\R v w') .ret (Fr n s []) w :=
 ⟨rfl,_,results_none hr _ _ _,_,rfl,h⟩
theorem jf{fn:Func}{R:Value->World->Prop}(hr:fn.results = #[])(h:R (.tuple #[]) w) :
 bodyPost P fn (fun e w' => ∃ v,e = .returned v/\R v w') .normal (Fr n s []) w :=
 ⟨rfl,_,results_none hr _ _ _,_,rfl,h⟩
theorem jm{fn:Func}{t u:Nat}{v v' : Value}{R:Value->World->Prop}(hr:fn.results = #[.tmp t,.tmp u])(hv:ev n s (.tmp t)=v)(hv' : ev n s (.tmp u)=v')(h:R (.tuple #[v,v']) w) :
 bodyPost P fn (fun e w' => ∃ v,e = .returned v/\R v w') .ret (Fr n s []) w :=
 ⟨rfl,_,results_tmp2 hr _ _ _,_,rfl,by rw[s5,s5,hv,hv'];exact h⟩
theorem Rt {fn:Func}{t u x:Tmp}(h:fn.results = #[.tmp t,.tmp u,.tmp x])(tmps:Array Value)(P:Program)(w:World) :
 (results fn tmps).run P w = .ok (.tuple #[tmps.getD t undef,tmps.getD u undef,tmps.getD x undef]) w:=by
 simp[results,h]
theorem yT{fn:Func}{t u x:Nat}{v v' v'' : Value}{R:Value->World->Prop}(hr:fn.results = #[.tmp t,.tmp u,.tmp x])(hv:ev n s (.tmp t)=v)(hv' : ev n s (.tmp u)=v')(hv'' : ev n s (.tmp x)=v'')(h:R (.tuple #[v,v', v'']) w) :
 bodyPost P fn (fun e w' => ∃ v,e = .returned v/\R v w') .ret (Fr n s []) w :=
 ⟨rfl,_,Rt hr _ _ _,_,rfl,by rw[s5,s5,s5,hv,hv', hv''];exact h⟩
variable {ops:Array Oper} {rest:List Oper} {d:Option Nat} {ty:TypeId} {pos:String} {af:Array Edge} {g:Option (Nat×Bool)}
def jy(d:Option Nat)(v:Value)(s:List (Nat×Value)):List (Nat×Value):=match d with|some i=>(i,v) :: s|none=>s
theorem uz(d:Option Nat)(v:Value):(Fr n s ds).put d v=Fr n (jy d v s) ds:=by
 cases d with
 | none=>rfl
 | some i=>exact DO n s ds i v
abbrev gz(P:Program)(f:FuncId):Prop:=∀ (args:Array Value) (w:World),(callFunc f args).run P w = .ok (.enter f args) w
theorem AA (az:List Operand):az.toArray.map (ev n s)=(az.map (ev n s)).toArray:=by simp
theorem tP{f:FuncId}{az:List Operand}{T:Array TypeId}{vl:List Value}{R:Value->World->Prop}(hg:gB ops n s g=true)(hvs:az.map (ev n s)=vl)(he:gz P f)
 (hc:CR P f vl.toArray w R) (K:∀ v w', R v w' -> WL r P ops Q rest (Fr n (jy d v s) ds) w') :
 WL r P ops Q (⟨d,.call ⟨.value (.func f),az.toArray,T⟩,ty,pos,af,g⟩ :: rest) (Fr n s ds) w:=by
 refine G0 (f:=f) (args:=vl.toArray) (w' := w) hg rfl ?_ (Calls.mono hc ?_)
 . simp only[execOp,resolve,invoke,Deferred.ofValue,AA, hvs]
   simp[ev,he _ _]
 . rintro e w' ⟨v,rfl,hR⟩
   simp only[uz]
   exact K v w' hR
theorem wR{x:Operand}{f:FuncId}{fi ca:List Value}{az:List Operand}{T:Array TypeId}{vl:List Value}{R:Value->World->Prop}(hg:gB ops n s g=true)
 (hx:ev n s x = .func (.func f) fi.toArray ca.toArray) (hvs:fi++az.map (ev n s)++ca=vl) (he:gz P f)
 (hc:CR P f vl.toArray w R) (K:∀ v w', R v w' -> WL r P ops Q rest (Fr n (jy d v s) ds) w') :
 WL r P ops Q (⟨d,.call ⟨.value x,az.toArray,T⟩,ty,pos,af,g⟩ :: rest) (Fr n s ds) w:=by
 refine G0 (f:=f) (args:=vl.toArray) (w' := w) hg rfl ?_ (Calls.mono hc ?_)
 . subst hvs
   simp only[execOp,resolve,invoke,Deferred.ofValue,AA, hx]
   simp[he _ _]
 . rintro e w' ⟨v,rfl,hR⟩
   simp only[uz]
   exact K v w' hR
end
end Go.Sx
namespace Go.Sx
open Go
structure gD (S:List Nat) (w w' : World):Prop where
 os:w'.os=w.os
 tape:w'.tape=w.tape
 output:w'.output=w.output
 size:w.heap.size<=w'.heap.size
 block:∀ b,b<w.heap.size->b∉S->w'.heap[b]? = w.heap[b]?
theorem gD.refl(S:List Nat)(w:World):gD S w w:=⟨rfl,rfl,rfl,zn _,fun _ _ _=>rfl⟩
theorem gD.trans{S:List Nat}{a b c:World}(h:gD S a b)(k:gD S b c):gD S a c :=
 ⟨k.os.trans h.os,k.tape.trans h.tape,k.output.trans h.output,z7 h.size k.size,fun i hi hS=>(k.block i (z6 hi h.size) hS).trans (h.block i hi hS)⟩
theorem gD.mono{S S' : List Nat}{a b:World}(h:gD S a b)(hs:∀ x∈S,x∈S'):gD S' a b :=
 ⟨h.os,h.tape,h.output,h.size,fun i hi hS=>h.block i hi (fun hx=>hS (hs i hx))⟩
theorem gD.drew(S:List Nat)(w:World):gD S w w.drew:=⟨rfl,rfl,rfl,zn _,fun _ _ _=>rfl⟩
theorem gD.alloc(S:List Nat)(w:World)(o:Obj):gD S w (w.alloc o) :=
 ⟨rfl,rfl,rfl,s_,fun b hb _=>RowKit.Below.heap_alloc w o b hb⟩
theorem gD.setRow(w:World)(g:Nat)(cs:Array Value):gD [g] w (w.setRow g cs) :=
 ⟨rfl,rfl,rfl,s_,fun b _ hb=>setRow_other w g b cs (by simpa using hb)⟩
theorem gD.Sk{w w' : World}{row:Option Nat}(h:w.grownBy w' row):gD row.toList w w' :=
 ⟨h.os,h.tape,h.output,h.size,fun b hb hn=>h.block b hb (fun e=>hn (by rw[<-e];simp))⟩
theorem gD.below{w w' : World}(h:gD [] w w'):RowKit.Below w.heap.size w w' :=
 ⟨h.os,h.tape,h.output,h.size,fun b hb=>h.block b hb s_⟩
structure gi where
 gU:List Nat
 holds:World->Prop
 loc:∀ w w', (∀ b∈gU,w'.heap[b]? = w.heap[b]?)->holds w->holds w'
def blk(b:Nat)(T:TypeId)(cs:List Value):gi where
 gU:=[b]
 holds w:=w.heap[b]? = some (.cells cs.toArray T (0,0))
 loc w w' h hh:=(h b s_).trans hh
def row(v:Value)(e:TypeId)(sz m:Nat)(xs:List Value):gi where
 gU:=v.ownBlock.toList
 holds w:=w.ownsRow 0 e sz v m xs
 loc w w' h hh:=by
  refine⟨hh.1,?_⟩
  rcases hh.2 with hn|⟨g,cap,cur,rfl,hb,hg,rest⟩
  . exact .inl hn
  . exact .inr ⟨g,cap,cur,rfl,hb,(h g (by simp[Value.ownBlock])).trans hg,rest⟩
def iR(L:List gi):List Nat:=L.flatMap (·.gU)
structure Bs (wb:World) (X:List Nat) (L:List gi) (w:World):Prop where
 gI:gD X wb w
 mine:∀ b∈iR L,b∈X\/wb.heap.size<=b
structure St (bs:List (World×List Nat)) (L:List gi) (w:World):Prop where
 base:∀ p∈bs,Bs p.1 p.2 L w
 own:∀ R∈L,R.holds w
 sep:(iR L).Nodup
 lt:∀ b∈iR L,b<w.heap.size
variable {bs:List (World×List Nat)} {L L' : List gi} {w w' w0:World}
theorem St.init(w:World):St [(w,[])] [] w :=
 ⟨fun p hp=>by simp only[lY]at hp;subst hp;exact⟨gD.refl _ _,by simp[iR]⟩,s_,by simp[iR],by simp[iR]⟩
theorem St.OC(w:World)(L:List gi)(ho:∀ R∈L,R.holds w)(hn:(iR L).Nodup)(hl:∀ b∈iR L,b<w.heap.size):St [(w,iR L)] L w :=
 ⟨fun p hp=>by simp only[lY]at hp;subst hp;exact⟨gD.refl _ _,fun b hb=>.inl hb⟩,ho,hn,hl⟩
theorem St.gI{X:List Nat}(h:St bs L w)(hb:(w0,X)∈bs):gD X w0 w:=(h.base _ hb).gI
theorem St.keep{X:List Nat}(h:St bs L w)(hb:(w0,X)∈bs){b:Nat}(hlt:b<w0.heap.size)(hX:b∉X):w.heap[b]? = w0.heap[b]? :=
 (h.base _ hb).gI.block b hlt hX
theorem St.Ph{X:List Nat}(h:St bs L w)(hb:(w0,X)∈bs){a:Addr}{v:Value}(hc:w0.cell? a=some v)(hX:a.block∉X):w.cell? a=some v :=
 (World.cell?_of_block (h.keep hb (World.block_lt_of_cell? w0 a hc) hX)).trans hc
theorem nN(R:gi)(L:List gi):iR (R :: L)=R.gU++iR L:=by simp[iR]
theorem qd{R:gi}{L:List gi}{i:Nat}(hi:L[i]? = some R){b:Nat}(hb:b∈R.gU):b∈iR L :=
 o7.2 ⟨R,zh hi,hb⟩
theorem St.iE{i:Nat}{R R' : gi}(h:St bs L w)(hi:L[i]? = some R)(hc:gD R.gU w w')(hf:∀ b∈R'.gU,b∈R.gU\/w.heap.size<=b)
 (hnd:R'.gU.Nodup) (hlt:∀ b∈R'.gU,b<w'.heap.size) (ho:R'.holds w'):St bs (L.set i R') w' := by
 obtain⟨l1,l2,rfl,hlen⟩:∃ l1 l2,L=l1++R :: l2/\l1.length=i:=by
  have hlt:=(zd.1 hi).1
  refine⟨L.take i,L.drop (i+1),?_,by simp;omega⟩
  have:=(zd.1 hi).2
  rw[<-this,<-wY hlt,vk]
 have hset:(l1++R :: l2).set i R' = l1++R' :: l2:=by rw[<-hlen];simp
 have hfe:∀ R:gi,iR (l1++R :: l2)=iR l1++(R.gU++iR l2):=fun R=>by simp[iR]
 rw[hset]
 have hsep:=h.sep
 rw[hfe,zu]at hsep
 obtain⟨n1,n2,n3⟩:=hsep
 rw[zu]at n2
 obtain⟨n4,n5,n6⟩:=n2
 have hold:∀ b,b∈iR l1\/b∈iR l2->b<w.heap.size/\b∉R.gU:=by
  intro b hb
  refine⟨h.lt b (by rw[hfe];simp only[zq];rcases hb with hb|hb<;>simp[hb]),fun hr=>?_⟩
  rcases hb with hb|hb
  . exact n3 b hb b (by simp[hr]) rfl
  . exact n6 b hr b hb rfl
 have hkeep:∀ b,b∈iR l1\/b∈iR l2->w'.heap[b]? = w.heap[b]? := fun b hb=>hc.block b (hold b hb).1 (hold b hb).2
 refine⟨fun p hp=>?_,fun X hX=>?_,?_,?_⟩
 . have hb:=h.base p hp
   refine⟨⟨hc.os.trans hb.gI.os,hc.tape.trans hb.gI.tape,hc.output.trans hb.gI.output,z7 hb.gI.size hc.size,fun b hlt' hx=>?_⟩,fun b hb' => ?_⟩
   . refine(hc.block b (z6 hlt' hb.gI.size) (fun hr=>?_)).trans (hb.gI.block b hlt' hx)
     rcases hb.mine b (by rw[hfe];simp[hr])with h1|h1
     . exact hx h1
     . omega
   . rw[hfe]at hb'
     simp only[zq]at hb'
     rcases hb' with h1|h1|h1
     . exact hb.mine b (by rw[hfe];simp[h1])
     . rcases hf b h1 with h2|h2
       . exact hb.mine b (by rw[hfe];simp[h2])
       . exact .inr (z7 hb.gI.size h2)
     . exact hb.mine b (by rw[hfe];simp[h1])
 . simp only[zq,zb]at hX
   rcases hX with h1|rfl|h1
   . exact X.loc w w' (fun b hb=>hkeep b (.inl (o7.2 ⟨X,h1,hb⟩))) (h.own X (by simp[h1]))
   . exact ho
   . exact X.loc w w' (fun b hb=>hkeep b (.inr (o7.2 ⟨X,h1,hb⟩))) (h.own X (by simp[h1]))
 . rw[hfe,zu]
   have hne:∀ b,(b∈iR l1\/b∈iR l2)->∀ c∈R'.gU,b≠c:=by
    rintro b hb c hc' rfl
    rcases hf b hc' with h2|h2
    . exact(hold b hb).2 h2
    . have:=(hold b hb).1;omega
   refine⟨n1,zu.2 ⟨hnd,n5,fun a ha b hb e=>hne b (.inr hb) a ha e.symm⟩,fun a ha b hb=>?_⟩
   simp only[zq]at hb
   rcases hb with hb|hb
   . exact hne a (.inl ha) b hb
   . exact n3 a ha b (by simp[hb])
 . intro b hb
   rw[hfe]at hb
   simp only[zq]at hb
   rcases hb with h1|h1|h1
   . exact z6 (hold b (.inl h1)).1 hc.size
   . exact hlt b h1
   . exact z6 (hold b (.inr h1)).1 hc.size
theorem St.grow(h:St bs L w)(hc:gD [] w w'):St bs L w' :=
 ⟨fun p hp=>by
  have hb:=h.base p hp
  exact⟨⟨hc.os.trans hb.gI.os,hc.tape.trans hb.gI.tape,hc.output.trans hb.gI.output,z7 hb.gI.size hc.size,
   fun b hlt' hx=>(hc.block b (z6 hlt' hb.gI.size) s_).trans (hb.gI.block b hlt' hx)⟩,hb.mine⟩,
  fun X hX=>X.loc w w' (fun b hb=>hc.block b (h.lt b (o7.2 ⟨X,hX,hb⟩)) s_) (h.own X hX),
  h.sep,fun b hb=>z6 (h.lt b hb) hc.size⟩
theorem St.add{R:gi}{lo:Nat}(h:St bs L w)(hlo:∀ p∈bs,p.1.heap.size<=lo)(hlo' : ∀ b∈iR L,b<lo)(hf:∀ b∈R.gU,lo<=b)(hnd:R.gU.Nodup)(hlt:∀ b∈R.gU,b<w.heap.size)(ho:R.holds w):St bs (R :: L) w:=by
 refine⟨fun p hp=>⟨(h.base p hp).gI,fun b hb=>?_⟩,fun X hX=>?_,?_,?_⟩
 . rw[nN,zq]at hb
   rcases hb with hb|hb
   . exact .inr (z7 (hlo p hp) (hf b hb))
   . exact(h.base p hp).mine b hb
 . simp only[zb]at hX
   rcases hX with rfl|hX
   . exact ho
   . exact h.own X hX
 . rw[nN,zu]
   exact⟨hnd,h.sep,fun a ha b hb e=>by have h1:=hf a ha;have h2:=hlo' b hb;omega⟩
 . intro b hb
   rw[nN,zq]at hb
   rcases hb with hb|hb
   . exact hlt b hb
   . exact h.lt b hb
theorem St.qX{R:gi}(h:St bs L w)(hc:gD [] w w')(hf:∀ b∈R.gU,w.heap.size<=b)(hnd:R.gU.Nodup)(hlt:∀ b∈R.gU,b<w'.heap.size)(ho:R.holds w'):St bs (R :: L) w' :=
 (h.grow hc).add (lo:=w.heap.size) (fun p hp=>(h.base p hp).gI.size) h.lt hf hnd hlt ho
theorem St.sub(h:St bs L w)(hs:L'.Sublist L):St bs L' w:=by
 have hm:∀ b∈iR L', b∈iR L:=fun b hb=>by
  obtain⟨X,hX,hx⟩:=o7.1 hb
  exact o7.2 ⟨X,hs.subset hX,hx⟩
 refine⟨fun p hp=>⟨(h.base p hp).gI,fun b hb=>(h.base p hp).mine b (hm b hb)⟩,fun X hX=>h.own X (hs.subset hX),?_,fun b hb=>h.lt b (hm b hb)⟩
 exact h.sep.sublist (by
  clear h hm
  induction hs with
  | slnil=>exact List.Sublist.slnil
  | cons a _ ih=>rw[nN];exact ih.trans (List.sublist_append_right _ _)
  | cons_cons a _ ih=>rw[nN,nN];exact List.Sublist.append_left ih _)
theorem St.DE{i b:Nat}{T:TypeId}{cs:List Value}(h:St bs L w)(hi:L[i]? = some (blk b T cs)):w.heap[b]? = some (.cells cs.toArray T (0,0)) :=
 h.own _ (zh hi)
theorem St.xI{i b o:Nat}{T:TypeId}{cs:List Value}{v:Value}(h:St bs L w)(hi:L[i]? = some (blk b T cs))(hv:cs[o]? = some v):w.cell? ⟨b,o,none⟩=some v:=by
 rw[cell_of_row w b o cs.toArray T (0,0) (h.DE hi)]
 simpa using hv
def setAt(cs:List Value)(o:Nat)(vs:List Value):List Value:=cs.take o++vs++cs.drop (o+vs.length)
abbrev TI(P:Program)(t:TypeId)(sz by_:Nat)(z:Value):Prop:=(P.info? t).map (fun i=>(i.size,i.bytes,i.zero))=some (sz,by_,some z)
theorem TI.get{P:Program}{t:TypeId}{sz by_:Nat}{z:Value}(h:TI P t sz by_ z):∃ i,P.info? t=some i/\i.size=sz/\i.bytes=by_/\i.zero=some z:=by
 unfold TI at h
 cases hi:P.info? t with
 | none=>rw[hi]at h;simp at h
 | some i=>rw[hi]at h;simp at h;exact⟨i,rfl,h.1,h.2.1,h.2.2⟩
variable {P:Program} {t:TypeId} {sz by_:Nat} {z:Value}
theorem TI.size(h:TI P t sz by_ z)(w:World):(sizeOf t).run P w = .ok sz w:=by
 obtain⟨i,hi,h1,_,_⟩:=h.get
 simp[sizeOf,typeInfo,hi,h1]
theorem TI.ux(h:TI P t sz by_ z)(w:World):(zeroValue t).run P w = .ok z w:=by
 obtain⟨i,hi,_,_,h1⟩:=h.get
 simp[zeroValue,typeInfo,hi,h1]
def kQ:TypeDesc->Bool
 | .struct _ | .array _ _=>true
 | _=>false
section
variable {r:Option Nat} {ops:Array Oper} {Q:Exit->Act->World->Prop} {rest:List Oper} {n:Nat} {s:List (Nat×Value)} {ds:List Deferred}
variable {d:Nat} {ty:TypeId} {pos:String} {af:Array Edge} {g:Option (Nat×Bool)} {v:Value} {x y:Operand} {u:TypeDesc}
theorem qf(hu:P.underlying t=some u)(w:World):(isAgg t).run P w = .ok (kQ u) w:=by
 unfold isAgg
 cases u<;>simp[run_underlying hu,kQ]
theorem gZ{a:Addr}(hx:ev n s x = .pointer (some a))(hu:P.underlying t=some u)(hn:kQ u=false)(hv:w.cell? a=some v){dd:Option Nat} :
 (execOp (ev n s) ⟨dd,.load t x,ty,pos,af,g⟩).run P w = .ok (.value v) w:=by
 simp only[execOp,hx,Instr.loadAt,Instr.sureAddr,loadVar,zj,zm,ze,qf hu,hn]
 simp[load,Sem.run,hv]
theorem ld{a:Addr}(hg:gB ops n s g=true)(hx:ev n s x = .pointer (some a))(hu:P.underlying t=some u)(hn:kQ u=false)(hv:w.cell? a=some v)
 (K:WL r P ops Q rest (Fr n ((d,v) :: s) ds) w) :
 WL r P ops Q (⟨some d,.load t x,ty,pos,af,g⟩ :: rest) (Fr n s ds) w:=pv hg rfl (gZ hx hu hn hv) K
theorem uF{b o:Nat}{cs:List Value}(hx:ev n s x = .pointer (some ⟨b,o,none⟩))(hu:P.underlying t=some u)(hn:kQ u=true)(ht:TI P t sz by_ z)
 (hl:cs.length=sz) (hv:∀ j u,cs[j]? = some u->w.cell? ⟨b,o+j,none⟩=some u) {dd:Option Nat} :
 (execOp (ev n s) ⟨dd,.load t x,ty,pos,af,g⟩).run P w = .ok (.value (.agg cs.toArray)) w:=by
 subst hl
 have:=run_loadCells_list (P:=P) w ⟨b,o,none⟩ cs (fun j u hj=>by rw[Addr.add_lit];exact hv j u hj)
 simp only[execOp,hx,Instr.loadAt,Instr.sureAddr,loadVar,zj,zm,ze,qf hu,hn,ht.size,this,if_true]
theorem rA{b o:Nat}{cs:List Value}(hg:gB ops n s g=true)(hx:ev n s x = .pointer (some ⟨b,o,none⟩))(hu:P.underlying t=some u)(hn:kQ u=true)(ht:TI P t sz by_ z)
 (hl:cs.length=sz) (hv:∀ j u,cs[j]? = some u->w.cell? ⟨b,o+j,none⟩=some u)
 (K:WL r P ops Q rest (Fr n ((d,.agg cs.toArray) :: s) ds) w) :
 WL r P ops Q (⟨some d,.load t x,ty,pos,af,g⟩ :: rest) (Fr n s ds) w:=pv hg rfl (uF hx hu hn ht hl hv) K
theorem St.G4{i b o:Nat}{T:TypeId}{cs:List Value}{vs:List Value}(h:St bs L w)(hi:L[i]? = some (blk b T cs))(hv:(cs.drop o).take vs.length=vs) :
 ∀ j u,vs[j]? = some u->w.cell? ⟨b,o+j,none⟩=some u:=by
 intro j u hj
 refine h.xI hi ?_
 rw[<-hv,pZ]at hj
 split at hj
 . simpa using hj
 . cases hj
theorem mD{b o:Nat}{T:TypeId}{cs cs' vs:List Value}(i:Nat)(hg:gB ops n s g=true)(hx:ev n s x = .pointer (some ⟨b,o,none⟩))(hy:ev n s y=v)(hvs:v.cells.toList=vs)
 (ht:TI P t sz by_ z) (hsz:vs.length=sz) (h1:vs.all (·.oneCell')=true) (hst:St bs L w) (hi:L[i]? = some (blk b T cs)) (hfit:Nat.ble (o+vs.length) cs.length=true)
 (hcs:setAt cs o vs=cs') (hL:L.set i (blk b T cs')=L')
 (K:∀ w', St bs L' w' -> WL r P ops Q rest (Fr n s ds) w'):WL r P ops Q (⟨none,.store t x y,ty,pos,af,g⟩ :: rest) (Fr n s ds) w:=by
 have hh:=hst.DE hi
 have hrun:=run_storeCells_at P b o T vs 0 cs.toArray w hh (by simpa using za hfit) (by simpa using h1)
 have hlen:v.cells.size=sz:=by rw[<-hsz,<-hvs];simp
 refine xJ (w' := w.setRow b (cs'.toArray)) hg rfl ?_ ?_
 . simp only[execOp,hx,hy,Instr.storeAt,Instr.sureAddr,storeVar,zj,zm,ze,ht.size,hlen,ne_eq,not_true,if_false,hvs]
   subst hcs
   simp only[mL]at hrun
   simp[hrun,setAt]
 . subst hL
   refine K _ ?_
   refine hst.iE hi (gD.setRow w b _) (fun c hc=>.inl hc) (by simp[blk]) (fun c hc=>?_) (setRow_heap w b cs.toArray cs'.toArray T (0,0) hh)
   simp only[blk,lY]at hc
   subst hc
   simpa using(z8.1 hh).1
theorem v7{bs:List (World×List Nat)}{L:List gi}(hst:St bs L w)(T:TypeId)(cs:List Value):St bs (blk w.heap.size T cs :: L) (w.alloc (.cells cs.toArray T)) :=
 hst.qX (gD.alloc [] w _) (fun b hb=>by simp[blk]at hb;omega) (by simp[blk]) (fun b hb=>by simp[blk]at hb;simp;omega) (heap_alloc_new w _)
theorem al{cs:List Value}(hg:gB ops n s g=true)(ht:TI P t sz by_ z)(hcs:z.cells.toList=cs)(hst:St bs L w)
 (K:∀ b w', w.heap.size<=b->gD [] w w' -> St bs (blk b t cs :: L) w' -> WL r P ops Q rest (Fr n ((d,.pointer (some ⟨b,0,none⟩)) :: s) ds) w') :
 WL r P ops Q (⟨some d,.alloc t,ty,pos,af,g⟩ :: rest) (Fr n s ds) w:=by
 subst hcs
 refine pv (w' := w.alloc (.cells z.cells t)) hg rfl ?_ (K _ _ (zn _) (gD.alloc [] w _) ?_)
 . simp only[execOp,Instr.alloc,zj,ht.ux,ze]
   rfl
 . have:=v7 hst t z.cells.toList
   simpa using this
theorem bx{cs:List Value}(hg:gB ops n s g=true)(hx:ev n s x=v)(hcs:v.cells.toList=cs)(hst:St bs L w)
 (K:∀ b w', w.heap.size<=b->gD [] w w' -> St bs (blk b t cs :: L) w' -> WL r P ops Q rest (Fr n ((d,.pointer (some ⟨b,0,none⟩)) :: s) ds) w') :
 WL r P ops Q (⟨some d,.box t x,ty,pos,af,g⟩ :: rest) (Fr n s ds) w:=by
 subst hcs
 refine pv (w' := w.alloc (.cells v.cells t)) hg rfl ?_ (K _ _ (zn _) (gD.alloc [] w _) ?_)
 . simp only[execOp,hx,Instr.box]
   rfl
 . have:=v7 hst t v.cells.toList
   simpa using this
theorem jL{T:TypeId}{i b o o' szf byf:Nat}{zf:Value}{fields:Array Field}{f:Field}(hx:ev n s x = .pointer (some ⟨b,o,none⟩))(hT:P.underlying T=some (.struct fields))
 (hf:fields[i]? = some f) (ht:TI P f.type (szf+1) byf zf) (ho:o+f.offset=o') {dd:Option Nat} :
 (execOp (ev n s) ⟨dd,.fieldAddr T x i,ty,pos,af,g⟩).run P w = .ok (.value (.pointer (some ⟨b,o', none⟩))) w:=by subst ho;simp[execOp,hx,Instr.fieldAt,run_underlying hT,hf,Instr.sureAddr,fieldPlace,ht.size,Addr.add_lit]
theorem fa{T:TypeId}{i b o o' szf byf:Nat}{zf:Value}{fields:Array Field}{f:Field}(hg:gB ops n s g=true)(hx:ev n s x = .pointer (some ⟨b,o,none⟩))(hT:P.underlying T=some (.struct fields))
 (hf:fields[i]? = some f) (ht:TI P f.type (szf+1) byf zf) (ho:o+f.offset=o') (K:WL r P ops Q rest (Fr n ((d,.pointer (some ⟨b,o', none⟩)) :: s) ds) w) :
 WL r P ops Q (⟨some d,.fieldAddr T x i,ty,pos,af,g⟩ :: rest) (Fr n s ds) w:=pv hg rfl (jL hx hT hf ht ho) K
theorem oN{T e:TypeId}{k:IntKind}{b o m c o' : Nat}{i:Int}(hx:ev n s x = .slice (some ⟨b,o,none⟩) m c)(hy:ev n s y = .int k i)(hT:P.underlying T=some (.slice e))
 (ht:TI P e sz by_ z) (h0:0<=i/\i<m) (ho:o+i.toNat*sz=o') {dd:Option Nat} :
 (execOp (ev n s) ⟨dd,.indexAddr T x y,ty,pos,af,g⟩).run P w = .ok (.value (.pointer (some ⟨b,o', none⟩))) w:=by subst ho;simp[execOp,hx,hy,Instr.indexAt,run_underlying hT,asIntOf,h0,ht.size,Addr.add_lit]
theorem js{T e:TypeId}{k:IntKind}{b o m c o' : Nat}{i:Int}(hg:gB ops n s g=true)(hx:ev n s x = .slice (some ⟨b,o,none⟩) m c)(hy:ev n s y = .int k i)(hT:P.underlying T=some (.slice e))
 (ht:TI P e sz by_ z) (h0:0<=i/\i<m) (ho:o+i.toNat*sz=o') (K:WL r P ops Q rest (Fr n ((d,.pointer (some ⟨b,o', none⟩)) :: s) ds) w) :
 WL r P ops Q (⟨some d,.indexAddr T x y,ty,pos,af,g⟩ :: rest) (Fr n s ds) w:=pv hg rfl (oN hx hy hT ht h0 ho) K
end
end Go.Sx
namespace Go.Sx
open Go
def iC(k:IntKind)(x:Int):Prop:=k.min<=x/\x<=k.max
theorem iC.i64{x:Int}(h:iC .i64 x) : -9223372036854775808<=x/\x<=9223372036854775807:=h
def Sl{α:Type}(sz:Nat)(enc:World->α->List Value->Prop)(ok:Nat->Prop)(w:World)(v:Value)(xs:List α):Prop :=
 ∃ a c,v = .slice a xs.length c/\xs.length<=c/\c<=maxLen/\∀ i x,xs[i]? = some x->∃ b o vs,a=some ⟨b,o,none⟩/\ok b/\vs.length=sz/\enc w x vs/\∀ j u,vs[j]? = some u->w.cell? ⟨b,o+i*sz+j,none⟩=some u
def encI(k:IntKind)(_:World)(x:Int)(vs:List Value):Prop:=vs=[.int k x]/\iC k x
abbrev Ints(k:IntKind)(ok:Nat->Prop)(w:World)(v:Value)(xs:List Int):Prop:=Sl 1 (encI k) ok w v xs
section
variable {α:Type} {sz:Nat} {enc:World->α->List Value->Prop} {ok ok' : Nat->Prop} {w w' w0:World} {v:Value} {xs:List α}
theorem Sl.nil(sz:Nat)(enc:World->α->List Value->Prop)(ok:Nat->Prop)(w:World):Sl sz enc ok w (.slice none 0 0) [] :=
 ⟨none,0,rfl,zn _,mS _,fun i x h=>by simp at h⟩
theorem Sl.len(h:Sl sz enc ok w v xs):xs.length<=9223372036854775807:=by
 obtain⟨a,c,_,h1,h2,_⟩:=h
 simp only[maxLen]at h2;omega
theorem Sl.mono(h:Sl sz enc ok w v xs)(ho:∀ b,ok b->ok' b):Sl sz enc ok' w v xs:=by
 obtain⟨a,c,e,h1,h2,h3⟩:=h
 exact⟨a,c,e,h1,h2,fun i x hi=>let ⟨b,o,vs,ha,hb,rest⟩:=h3 i x hi;⟨b,o,vs,ha,ho b hb,rest⟩⟩
theorem Sl.any(h:Sl sz enc ok w v xs):Sl sz enc (fun _=>True) w v xs:=h.mono fun _ _=>trivial
theorem Sl.to(h:Sl sz enc ok w v xs)(hk:∀ b,ok b->b<w.heap.size->w'.heap[b]? = w.heap[b]?)(he:∀ x vs,x∈xs->enc w x vs->enc w' x vs)(hp:0<sz):Sl sz enc ok w' v xs:=by
 obtain⟨a,c,e,h1,h2,h3⟩:=h
 refine⟨a,c,e,h1,h2,fun i x hi=>?_⟩
 obtain⟨b,o,vs,ha,hb,hl,hx,hc⟩:=h3 i x hi
 refine⟨b,o,vs,ha,hb,hl,he x vs (zh hi) hx,fun j u hj=>?_⟩
 have:=hc j u hj
 exact(World.cell?_of_block (hk b hb (World.block_lt_of_cell? w _ this))).trans this
theorem Ints.to{k:IntKind}{xs:List Int}(h:Ints k ok w v xs)(hk:∀ b,ok b->b<w.heap.size->w'.heap[b]? = w.heap[b]?):Ints k ok w' v xs :=
 Sl.to h hk (fun _ _ _ h=>h) d_
theorem St.ints{k:IntKind}{xs:List Int}{X:List Nat}{bs:List (World×List Nat)}{L:List gi}(h:St bs L w)(hb:(w0,X)∈bs)(hI:Ints k ok w0 v xs)(hok:∀ b,ok b->b∉X):Ints k ok w v xs :=
 Ints.to hI fun b hb' hlt=>h.keep hb hlt (hok b hb')
theorem St.Iy{k:IntKind}{xs:List Int}{bs:List (World×List Nat)}{L:List gi}(h:St bs L w)(hb:(w0,[])∈bs)(hI:Ints k ok w0 v xs):Ints k ok w v xs :=
 h.ints hb hI fun _ _=>rF
end
theorem FH{w:World}{e:TypeId}{sz m b:Nat}{v:Value}{xs:List Value}(h:w.ownsRow 0 e sz v m xs)(hb:v.ownBlock=some b):b<w.heap.size:=(h.lt b hb).2
theorem Rl{P:Program}{w:World}{t ty e:TypeId}{i:TypeInfo}(ht:P.underlying t=some (.slice e))(hi:P.info? e=some i){v:Value}{m:Nat}{xs:List Value}{sz:Nat}(hown:w.ownsRow 0 e sz v m xs)
 {a:Option Addr} {c:Nat}:(Builtin.append_ #[t,t] ty #[v,.slice a 0 c]).run P w = .ok v w:=by
 have hf:(Builtin.firstCells i.size 0 (.slice a 0 c)).run P w = .ok #[] w:=by
  cases a with
  | none=>simp[Builtin.firstCells]
  | some a=>simp[Builtin.firstCells,loadCells,loadCellsFrom]
 rcases hown.2 with ⟨rfl,rfl⟩|⟨g,cap,cur,rfl,_,hg,hnc,_,_,_⟩
 . simp[Builtin.append_,run_underlying ht,sizeOf,typeInfo,hi,Builtin.lenOf,hf]
 . simp[Builtin.append_,run_underlying ht,sizeOf,typeInfo,hi,Builtin.lenOf,hf,hnc,storeCells]
def Src(w:World)(u:Value)(sz cnt:Nat)(news:List Value):Prop :=
 ∃ a c,u = .slice a cnt c/\news.length=cnt*sz/\∀ j x,news[j]? = some x->∃ ad,a=some ad/\w.cell? (ad.add j)=some x
theorem Kl{P:Program}{w:World}{t ty e:TypeId}{sz by_:Nat}{z:Value}(ht:P.underlying t=some (.slice e))(hi:TI P e sz by_ z)(hzs:z.cells.size=sz)(hsz:0<sz)
 {v u:Value} {m cnt:Nat} {xs news:List Value} (hown:w.ownsRow 0 e sz v m xs) (hs:Src w u sz cnt news) (h1:∀ x∈news,x.oneCell' = true) (hb:(m+cnt)*by_<=140737488355328) (h63:m+cnt<=maxLen) :
 ∃ v' w', (Builtin.append_ #[t,t] ty #[v,u]).run P w = .ok v' w' /\ w'.ownsRow 0 e sz v' (m+cnt) (xs++news)/\gD v.ownBlock.toList w w' /\ (∀ b,v'.ownBlock=some b->(v.ownBlock=some b\/w.heap.size<=b)/\b<w'.heap.size) /\
  (v' = .slice none 0 0↔v = .slice none 0 0/\cnt=0):=by
 obtain⟨i,hii,rfl,rfl,hz⟩:=hi.get
 obtain⟨a,c,rfl,hl,hn⟩:=hs
 by_cases h0:cnt=0
 . subst h0
   have hnil:news=[]:=vg (by simpa using hl)
   subst hnil
   exact⟨v,w,Rl ht hii hown,by simpa using hown,gD.refl _ _,fun b hb=>⟨.inl hb,FH hown hb⟩,s_⟩
 . have hpos:0<news.length:=by rw[hl];exact Nat.mul_pos o_ hsz
   obtain⟨ad,rfl,_⟩:=hn 0 news[0] s_
   have hn' : ∀ j x,news[j]? = some x->w.cell? (ad.add j)=some x:=fun j x hj=>by
    obtain⟨ad', e,h⟩:=hn j x hj
    cases e;exact h
   obtain⟨v', w', hr,h2,h3,h4⟩:=run_append_own (P:=P) w 0 t ty e i z i.size i.bytes ht hii hz rfl rfl hzs hsz v m xs hown ad cnt c news hl hn' h1 h63 hb (mS _)
   refine⟨v', w', hr,h2,gD.Sk h3,fun b hb' => ⟨?_,FH h2 hb'⟩,by simpa[h0]using h4⟩
   rcases hown.2 with ⟨rfl,rfl⟩|⟨g,cap,cur,rfl,hbg,hg,hnc,hcm,hcs,htake⟩
   . have hx:xs=[]:=vg (by simpa using hown.1)
     have hr' := run_append_nil (P:=P) w t ty e i z ht hii hz ad cnt c news hl hn' o_ (by simp only[maxLen]at h63;omega) (by simp only[jN]at hb;omega)
     rw[hr]at hr'
     cases hr'
     right
     simp only[Value.ownBlock,Option.some.injEq]at hb'
     omega
   . by_cases hroom:m+cnt<=cap
     . have hfit:m*i.size+news.length<=cur.size:=by rw[hl,hcs,<-nw];exact uZ _ hroom
       have hr' := run_append_room (P:=P) w t ty e i ht hii g m cap cur hg ad cnt c news hl hn' h1 hroom hfit
       rw[hr]at hr'
       cases hr'
       left
       simpa[Value.ownBlock]using hb'
     . have holds:∀ j u,xs[j]? = some u->w.cell? ((⟨g,0,none⟩:Addr).add j)=some u:=hown.cells (g:=g) rfl
       have hr' := run_append_grow (P:=P) w t ty e i z ht hii hz ⟨g,0,none⟩ m cap xs hown.1 holds ad cnt c news hl hn' o_ (by simp only[maxLen]at h63;omega) (growslice_fits o_ hb)
       rw[hr]at hr'
       cases hr'
       right
       simp only[Value.ownBlock,Option.some.injEq]at hb'
       omega
section
variable {r:Option Nat} {P:Program} {ops:Array Oper} {Q:Exit->Act->World->Prop} {rest:List Oper} {n:Nat} {s:List (Nat×Value)} {ds:List Deferred} {w:World}
variable {d:Nat} {ty:TypeId} {pos:String} {af:Array Edge} {g:Option (Nat×Bool)} {v u:Value} {x y:Operand} {bs:List (World×List Nat)} {L L' : List gi} {t e:TypeId} {sz by_ m cnt:Nat} {z:Value} {xs news:List Value}
theorem Ra(i:Nat)(hg:gB ops n s g=true)(hx:ev n s x=v)(hy:ev n s y=u)(ht:P.underlying t=some (.slice e))(hi:TI P e sz by_ z)(hzs:z.cells.size=sz)(hsz:0<sz)
 (hst:St bs L w) (hL:L[i]? = some (row v e sz m xs)) (hs:Src w u sz cnt news) (h1:∀ x∈news,x.oneCell' = true) (hb:(m+cnt)*by_<=140737488355328) (h63:m+cnt<=maxLen)
 (K:∀ v' w', St bs (L.set i (row v' e sz (m+cnt) (xs++news))) w' -> gD v.ownBlock.toList w w' -> WL r P ops Q rest (Fr n ((d,v') :: s) ds) w') :
 WL r P ops Q (⟨some d,.call ⟨.builtin .append,#[x,y],#[t,t]⟩,ty,pos,af,g⟩ :: rest) (Fr n s ds) w:=by
 have hown:w.ownsRow 0 e sz v m xs:=hst.own _ (zh hL)
 obtain⟨v', w', hr,h2,h3,h4,_⟩:=Kl (ty:=ty) ht hi hzs hsz hown hs h1 hb h63
 refine pv hg rfl (v:=v') (w' := w') (by simp only[execOp,resolve,invoke,builtin,zj,zm,ze,Fb,z1,wQ,hx,hy,hr]) (K v' w' ?_ h3)
 refine hst.iE hL h3 (fun b hb' => ?_) ?_ (fun b hb' => ?_) h2
 . simp only[row,EX]at hb'
   rcases(h4 b hb').1 with h|h
   . exact .inl (by simp[row,h])
   . exact .inr h
 . show v'.ownBlock.toList.Nodup
   cases v'.ownBlock<;>simp
 . simp only[row,EX]at hb'
   exact(h4 b hb').2
theorem kZ(i:Nat)(hg:gB ops n s g=true)(hx:ev n s x=v)(ht:P.underlying t=some (.slice e))(hst:St bs L w)(hL:L[i]? = some (row v e sz m xs))
 (K:WL r P ops Q rest (Fr n ((d,.int .i64 m) :: s) ds) w):WL r P ops Q (⟨some d,.call ⟨.builtin .len,#[x],#[t]⟩,ty,pos,af,g⟩ :: rest) (Fr n s ds) w:=by
 have hown:w.ownsRow 0 e sz v m xs:=hst.own _ (zh hL)
 rcases hown.2 with ⟨rfl,rfl⟩|⟨g', cap,cur,rfl,_⟩
 . exact Et hg hx ht K
 . exact Et hg hx ht K
theorem tE{α:Type}{enc:World->α->List Value->Prop}{ok:Nat->Prop}{w0:World}{ys:List α}(hg:gB ops n s g=true)(hx:ev n s x=v)(ht:P.underlying t=some (.slice e))(hI:Sl sz enc ok w0 v ys)
 (K:WL r P ops Q rest (Fr n ((d,.int .i64 ys.length) :: s) ds) w):WL r P ops Q (⟨some d,.call ⟨.builtin .len,#[x],#[t]⟩,ty,pos,af,g⟩ :: rest) (Fr n s ds) w:=by
 obtain⟨a,c,rfl,_⟩:=hI
 exact Et hg hx ht K
theorem EI{k k' : IntKind}{ok:Nat->Prop}{ys:List Int}{i:Int}{el:Int}(hg:gB ops n s g=true)(hx:ev n s x=v)(hy:ev n s y = .int k' i)(ht:P.underlying t=some (.slice e))(hi:TI P e 1 by_ z)
 (hI:Ints k ok w v ys) (h0:0<=i) (hel:ys[i.toNat]? = some el)
 (K:∀ b o,w.cell? ⟨b,o,none⟩=some (.int k el)->iC k el->ok b->WL r P ops Q rest (Fr n ((d,.pointer (some ⟨b,o,none⟩)) :: s) ds) w) :
 WL r P ops Q (⟨some d,.indexAddr t x y,ty,pos,af,g⟩ :: rest) (Fr n s ds) w:=by
 have hlt:=(zd.1 hel).1
 obtain⟨a,c,rfl,_,_,h3⟩:=hI
 obtain⟨b,o,vs,rfl,hob,hl,⟨rfl,hin⟩,hc⟩:=h3 i.toNat el hel
 refine js hg hx hy ht hi ⟨h0,o_⟩ rfl (K b _ ?_ hin hob)
 have:=hc 0 (.int k el) s_
 simpa using this
end
end Go.Sx
namespace Go.Sx
open Go
def ia(S:Nat->Bool):Nat->List Oper->List Value->List (Nat×Value)->List (Nat×Value)
 | i,o :: l,v :: vs,s=>ia S (i+1) l vs (bif S i then jy o.dst v s else s)
 | _,_,_,s=>s
def l8(S:Nat->Bool)(t:Nat):Nat->List Oper->List Value->Option Value
 | i,o :: l,v :: vs=>match l8 S t (i+1) l vs with
  | some u=>some u
  | none=>bif S i&&(o.dst==some t)then some v else none
 | _,_,_=>none
theorem CX(d:Option Nat)(v:Value)(s:List (Nat×Value))(t:Nat):look (jy d v s) t=if d=some t then v else look s t:=by
 cases d with
 | none=>simp[jy]
 | some i=>simp only[jy,vM,Option.some.injEq]
theorem kF(S:Nat->Bool)(t:Nat)(l:List Oper):∀ (i:Nat) (vs:List Value) (s:List (Nat×Value)),look (ia S i l vs s) t=(l8 S t i l vs).getD (look s t):=by
 induction l with
 | nil=>intro i vs s;cases vs<;>simp[ia,l8]
 | cons o l ih =>
  intro i vs s
  cases vs with
  | nil=>simp[ia,l8]
  | cons v vs =>
   simp only[ia,l8]
   rw[ih]
   cases l8 S t (i+1) l vs with
   | some u=>rfl
   | none =>
    simp only[Option.getD_none]
    cases hS:S i with
    | false=>simp
    | true =>
     simp only[cond_true,Bool.true_and,CX]
     by_cases hd:o.dst=some t
     . simp[hd]
     . have:(o.dst==some t)=false:=by simpa using hd
       simp[hd,this]
theorem qP{S S' : Nat->Bool}{t:Nat}(l:List Oper):∀ (i:Nat) (vs vs' : List Value),vs.length=vs'.length ->
 (∀ j o,l[j]? = some o->o.dst=some t->S (i+j)=S' (i+j)/\(S (i+j)=true->vs[j]? = vs'[j]?))->l8 S t i l vs=l8 S' t i l vs' := by
 induction l with
 | nil=>intro i vs vs' _ _;cases vs<;>cases vs' <;> simp[l8]
 | cons o l ih =>
  intro i vs vs' hl h
  cases vs with
  | nil =>
   cases vs' with
   | nil=>simp[l8]
   | cons v' vs' => simp at hl
  | cons v vs =>
   cases vs' with
   | nil=>simp at hl
   | cons v' vs' =>
    simp only[l8]
    rw[ih (i+1) vs vs' (by simpa using hl) (fun j o' hj hd=>by
     have:=h (j+1) o' (by simpa using hj) hd
     rw[show i+1+j=i+(j+1) by omega]
     simpa using this)]
    cases l8 S' t (i+1) l vs' with
    | some u=>rfl
    | none =>
     simp only
     by_cases hd:o.dst=some t
     . have:=h 0 o rfl hd
       simp only[mL]at this
       obtain⟨h1,h2⟩:=this
       rw[h1]at h2
       cases hS:S' i with
       | false=>simp[h1,hS]
       | true=>have h3:=h2 hS;simp at h3;simp[h1,hS,h3]
     . have:(o.dst==some t)=false:=by simpa using hd
       simp[this]
theorem vL{S:Nat->Bool}{t:Nat}(l:List Oper):∀ (i:Nat) (vs:List Value),(∀ j o,l[j]? = some o->o.dst=some t->S (i+j)=false)->l8 S t i l vs=none:=by
 induction l with
 | nil=>intro i vs _;cases vs<;>simp[l8]
 | cons o l ih =>
  intro i vs h
  cases vs with
  | nil=>simp[l8]
  | cons v vs =>
   simp only[l8]
   rw[ih (i+1) vs (fun j o' hj hd=>by rw[show i+1+j=i+(j+1) by omega];exact h (j+1) o' (by simpa using hj) hd)]
   simp only
   by_cases hd:o.dst=some t
   . have:=h 0 o rfl hd
     simp only[mL]at this
     simp[this]
   . have:(o.dst==some t)=false:=by simpa using hd
     simp[this]
theorem C3{S:Nat->Bool}{t:Nat}(l:List Oper):∀ (i k:Nat) (vs:List Value) (o:Oper) (v:Value),l[k]? = some o->o.dst=some t->vs[k]? = some v->S (i+k)=true ->
 (∀ j o', k<j->l[j]? = some o' -> o'.dst=some t->S (i+j)=false)->l8 S t i l vs=some v:=by
 induction l with
 | nil=>intro i k vs o v h;simp at h
 | cons o1 l ih =>
  intro i k vs o v ho hd hv hS hn
  cases vs with
  | nil=>simp at hv
  | cons v1 vs =>
   simp only[l8]
   cases k with
   | zero =>
    simp at ho hv
    subst ho hv
    rw[vL l (i+1) vs (fun j o' hj hd' => by rw[show i+1+j=i+(j+1) by omega];exact hn (j+1) o' o_ (by simpa using hj) hd')]
    simp only[mL]at hS
    simp[hS,hd]
   | succ k =>
    rw[ih (i+1) k vs o v (by simpa using ho) hd (by simpa using hv) (by rw[show i+1+k=i+(k+1) by omega];exact hS)
     (fun j o' hkj hj hd' => by rw[show i+1+j=i+(j+1) by omega];exact hn (j+1) o' o_ (by simpa using hj) hd')]
def IN(l:List Oper)(pre:List (List Nat)):Bool :=
 (List.range l.length).all fun j=>(pre.getD j []).all fun i=>(l[j]?).any fun o=>o.after.toList.any fun e=>Region.binds .any e&&decide (e.on<j)&&(e.on==i||(pre.getD e.on []).contains i)
def j9(ops:Array Oper)(x y:Oper):Bool :=
 match x.dst with
 | some d=>(y.looksAt ops).contains d||y.dst==some d
 | none=>false
def rZ:Op->Bool
 | .select _ _=>true
 | _=>false
def yD(l:List Oper)(pre:List (List Nat))(mem:List Nat):Bool :=
 IN l pre &&
 (l.all fun o => !rZ o.op) &&
 ((List.range l.length).all fun j=>(l[j]?).all fun o=>o.after.toList.all fun e => !Region.binds .any e||decide (e.on<j)) &&
 ((
  List.range l.length).all fun j=>(List.range j).all fun i =>
  match l[i]?,l[j]? with
  | some x,some y => !(j9 l.toArray x y||j9 l.toArray y x||(mem.contains i&&mem.contains j))||(pre.getD j []).contains i
  | _,_=>true) &&
 (mem.all fun m=>decide (m<l.length)) &&
 decide (mem.Pairwise (· < ·))
def tL(pre:List (List Nat))(mem:List Nat)(i:Nat):Nat:=mem.countP fun m=>(pre.getD i []).contains m
def ua(pre:List (List Nat))(mem:List Nat)(i:Nat):Nat:=mem.countP fun m => !(pre.getD m []).contains i
section
variable {Γ:Type} (P:Program) (ops:Array Oper) (Q:Exit->Act->World->Prop) (n:Nat) (ds:List Deferred) (s0:List (Nat×Value))
def mj(o:Oper)(s:List (Nat×Value))(v:Value)(C:World->Prop)(w:World):Prop :=
 (gB ops n s o.guard=true/\mE o.op=true/\((execOp (ev n s) o).run P w = .ok (.value v) w\/∃ f args,(execOp (ev n s) o).run P w = .ok (.enter f args) w/\CR P f args w (fun v' w' => v' = v/\C w')))
 \/ (gB ops n s o.guard=false/\v=undef)
def lG(l:List Oper)(o:Oper)(s:List (Nat×Value))(Nx:Value->World->Prop)(w:World):Prop :=
 (gB ops n s o.guard=true/\mE o.op=true/\((∃ v w', (execOp (ev n s) o).run P w = .ok (.value v) w' /\ Nx v w')\/(∃ w', (execOp (ev n s) o).run P w = .ok .skip w' /\ Nx undef w') \/
  (∃ f args,(execOp (ev n s) o).run P w = .ok (.enter f args) w/\Calls P f args w (fun e w' => match e with
   | .returned v=>Nx v w'
   | .panicked ch=>∀ s,(∀ t,(∀ o∈l,o.dst≠some t)->look s t=look s0 t)->Q (.panic ch) (Fr n s ds) w'
   | .outgrown=>LetsOut Q))))
 \/ (gB ops n s o.guard=false/\Nx undef w)
def jR(pre:List (List Nat))(i:Nat)(g g' : Γ):Nat->List (Γ->Value)->Prop
 | k,v :: vs=>(bif (pre.getD k []).contains i||k==i then True else v g' = v g)/\jR pre i g g' (k+1) vs
 | _,[]=>True
def lQ(l0:List Oper)(pre:List (List Nat))(mem:List Nat)(V:List (Γ->Value))(M:Nat->Γ->World->Prop):Nat->(Γ->List (Nat×Value))->List Oper->List (Γ->Value)->Prop
 | i,s,o :: l,v :: vs =>
  (
   bif mem.contains i then ∀ g w,M (mem.idxOf i) g w->lG P ops Q n ds s0 l0 o (s g) (fun v' w' => ∃ g', M (mem.idxOf i+1) g' w' /\ v' = v g' /\ jR pre i g g' 0 V) w
   else ∀ p g w,tL pre mem i<=p->p<=ua pre mem i->M p g w->mj P ops n o (s g) (v g) (M p g) w) /\
  lQ l0 pre mem V M (i+1) (fun g=>jy o.dst (v g) (s g)) l vs
 | _,_,[],[]=>True
 | _,_,_,_=>False
end
section
variable {Γ:Type} {r:Option Nat} {P:Program} {Q:Exit->Act->World->Prop} {n:Nat} {ds:List Deferred} {s0:List (Nat×Value)} {l:List Oper} {pre:List (List Nat)} {mem:List Nat} {V:List (Γ->Value)} {M:Nat->Γ->World->Prop}
theorem jR.get{i:Nat}{g g' : Γ}:∀ (V:List (Γ->Value)) (b:Nat),jR pre i g g' b V->∀ k v,V[k]? = some v->((pre.getD (b+k) []).contains i||(b+k)==i)=false->v g' = v g:=by
 intro V
 induction V with
 | nil=>intro b _ k v h;simp at h
 | cons v0 V ih =>
  intro b h k v hk hc
  cases k with
  | zero =>
   simp at hk
   subst hk
   have:=h.1
   simp only[mL]at hc
   rw[hc]at this
   exact this
  | succ k=>exact ih (b+1) h.2 k v (by simpa using hk) (by rw[show b+1+k=b+(k+1) by omega];exact hc)
theorem lQ.get{l0:List Oper}:∀ (l:List Oper) (vs:List (Γ->Value)) (b:Nat) (s:Γ->List (Nat×Value)),lQ P l0.toArray Q n ds s0 l0 pre mem V M b s l vs->l.length=vs.length /\
 ∀ k o,l[k]? = some o->∃ v,vs[k]? = some v /\
  (
   bif mem.contains (b+k)then ∀ g w,M (mem.idxOf (b+k)) g w->lG P l0.toArray Q n ds s0 l0 o (ia (fun j=>decide (j<b+k)) b l (vs.map (· g)) (s g)) (fun v' w' => ∃ g', M (mem.idxOf (b+k)+1) g' w' /\ v' = v g' /\ jR pre (b+k) g g' 0 V) w
   else ∀ p g w,tL pre mem (b+k)<=p->p<=ua pre mem (b+k)->M p g w->mj P l0.toArray n o (ia (fun j=>decide (j<b+k)) b l (vs.map (· g)) (s g)) (v g) (M p g) w):=by
 intro l
 induction l with
 | nil=>intro vs b s h;cases vs with|nil=>exact⟨rfl,fun k o hk=>by simp at hk⟩|cons v vs=>exact h.elim
 | cons o l ih =>
  intro vs b s h
  cases vs with
  | nil=>exact h.elim
  | cons v vs =>
   obtain⟨h1,h2⟩:=h
   obtain⟨e,h3⟩:=ih vs (b+1) _ h2
   refine⟨by simp[e],fun k o' hk=>?_⟩
   cases k with
   | zero =>
    simp at hk
    subst hk
    refine⟨v,rfl,?_⟩
    have hs:∀ g,ia (fun j=>decide (j<b+0)) b (o :: l) ((v :: vs).map (· g)) (s g)=s g:=by
     intro g
     have key:∀ (l:List Oper) (us:List Value) (i:Nat) (s:List (Nat×Value)),b<=i->ia (fun j=>decide (j<b+0)) i l us s=s:=by
      intro l
      induction l with
      | nil=>intro us i s _;cases us<;>rfl
      | cons o l ih=>intro us i s hi;cases us with|nil=>rfl|cons u us=>simp only[ia];rw[show decide (i<b+0)=false by simp;omega];exact ih us (i+1) s o_
     exact key _ _ _ _ (zn _)
    simp only[hs]
    exact h1
   | succ k =>
    obtain⟨v', hv', h4⟩:=h3 k o' (by simpa using hk)
    refine⟨v', by simpa using hv', ?_⟩
    rw[show b+1+k=b+(k+1) by omega]at h4
    have hs:∀ g,ia (fun j=>decide (j<b+(k+1))) b (o :: l) ((v :: vs).map (· g)) (s g)=ia (fun j=>decide (j<b+(k+1))) (b+1) l (vs.map (· g)) (jy o.dst (v g) (s g)):=by
     intro g
     simp only[z1,ia]
     rw[show decide (b<b+(k+1))=true by simp]
     rfl
    simp only[hs]
    exact h4
structure Down (l:List Oper) (S:Nat->Bool):Prop where
 closed:∀ j o,l[j]? = some o->S j=true->∀ e∈o.after,Region.binds .any e=true->S e.on=true
theorem CO{S:Nat->Bool}(hp:IN l pre=true)(hd:Down l S):∀ j,S j=true->j<l.length->∀ i,(pre.getD j []).contains i=true->S i=true:=by
 intro j
 induction j using Nat.strongRecOn with
 | _ j ih =>
  intro hS hj i hi
  have h1:=zz.1 hp j (mC.2 hj)
  have h2:=zz.1 h1 i (by simpa using hi)
  rw[zk hj]at h2
  simp only[Option.any_some,EE,zo,decide_eq_true_eq,sR,beq_iff_eq]at h2
  obtain⟨e,he,⟨hb,hlt⟩,h3⟩:=h2
  have hSe:=hd.closed j _ (zk hj) hS e (by simpa using he) hb
  rcases h3 with rfl|h3
  . exact hSe
  . exact ih e.on hlt hSe o_ i (by simpa using h3)
theorem RM{S:Nat->Bool}{i:Nat}:∀ (mem:List Nat),mem.Pairwise (· < ·)->i∈mem->(∀ m∈mem,m<i->S m=true)->S i=false->(∀ m∈mem,i<m->S m=false) ->
 mem.countP S=mem.idxOf i/\mem.countP (fun j=>S j||j==i)=mem.idxOf i+1:=by
 intro mem
 induction mem with
 | nil=>intro _ h;simp at h
 | cons m mem ih =>
  intro hp hi h1 h2 h3
  rw[wO]at hp
  by_cases e:m=i
  . subst e
    have hz:∀ x∈mem,S x=false:=fun x hx=>h3 x (by simp[hx]) (hp.1 x hx)
    have hz' : ∀ x∈mem,(S x||x==m)=false:=fun x hx=>by
     have:=hp.1 x hx
     simp[hz x hx];omega
    rw[tO,tO,zJ.2 (fun x hx=>by simp[hz x hx]),zJ.2 (fun x hx=>by rw[hz' x hx];simp)]
    simp[h2]
  . have hmem:i∈mem:=by simpa[Ne.symm e]using hi
    have hlt:=hp.1 i hmem
    obtain⟨a,b⟩:=ih hp.2 hmem (fun x hx=>h1 x (by simp[hx])) h2 (fun x hx=>h3 x (by simp[hx]))
    have hm:=h1 m s_ hlt
    rw[tO,tO,a,b,List.idxOf_cons]
    have:(m==i)=false:=by simpa using e
    simp[hm,this]
theorem GL(listed:Array Bool)(i j:Nat)(hi:i<listed.size):(listed.setIfInBounds i true).getD j false=(listed.getD j false||j==i):=by
 by_cases h:i=j
 . subst h;simp[hi]
 . have h' : (j==i)=false:=by simpa using Ne.symm h
   simp[h', Array.getElem?_setIfInBounds_ne h]
theorem uu(m j:Nat):(Array.replicate m false).getD j false=false:=by
 rcases qa j m with h|h
 . simp[h]
 . simp[h]
theorem JR{id:Nat}{w:World}(hm:P.follows .mixedOrders=true)(pre:List (List Nat))(mem:List Nat)(hok:yD l pre mem=true)(V:List (Γ->Value))(M:Nat->Γ->World->Prop)(g0:Γ)(sE:Γ->List (Nat×Value))
 (h0:M 0 g0 w.drew) (hO:lQ P l.toArray Q n ds s0 l pre mem V M 0 (fun _=>s0) l V) (hE:∀ g,ia (fun _=>true) 0 l (V.map (· g)) s0=sE g)
 (hend:∀ g w', M mem.length g w' -> Q .normal (Fr n (sE g) ds) w'):WP r P (.region id l.toArray true) Q (Fr n s0 ds) w:=by
 simp only[yD,zo]at hok
 obtain⟨⟨⟨⟨⟨hpre,hsel⟩,hacy⟩,hconf⟩,hmlt⟩,hpw⟩:=hok
 have hpw:=of_decide_eq_true hpw
 obtain⟨hlen,hget⟩:=lQ.get (l0:=l) l V 0 (fun _=>s0) hO
 simp only[jN]at hget
 -- conflicts are ordered
 have nF:∀ i j x y,l[i]? = some x->l[j]? = some y->i<j->(j9 l.toArray x y=true\/j9 l.toArray y x=true\/(i∈mem/\j∈mem))->(pre.getD j []).contains i=true:=by
  intro i j x y hx hy hij h
  have hj:j<l.length:=(zd.1 hy).1
  have h1:=zz.1 (zz.1 hconf j (mC.2 hj)) i (mC.2 hij)
  simp only[hx,hy]at h1
  rcases qI.1 h1 with h2|h2
  . exfalso
    have h3:(j9 l.toArray x y||j9 l.toArray y x||(mem.contains i&&mem.contains j))=true:=by
     rcases h with h|h|⟨h,h'⟩<;>simp[h]
     simp[h']
    rw[h3]at h2
    cases h2
  . exact h2
 refine wpIn_region_any hm ?_
 have hsz:l.toArray.size=l.length:=by simp
 -- the invariant
 let Sof:Array Bool->Nat->Bool:=fun listed i=>listed.getD i false
 have main:∀ (fuel:Nat) (listed:Array Bool) (g:Γ) (w:World),listed.size=l.length->listed.toList.countP (! ·)<=fuel->Down l (Sof listed)->M (mem.countP (Sof listed)) g w ->
  wpAnyIn (FW r) 0 P .any l.toArray Q fuel listed (Fr n (ia (Sof listed) 0 l (V.map (· g)) s0) ds) w:=by
  intro fuel
  have fin:∀ (listed:Array Bool) (g:Γ) (w:World),listed.size=l.length->(∀ i,i<l.length->Sof listed i=true)->M (mem.countP (Sof listed)) g w->Q .normal (Fr n (ia (Sof listed) 0 l (V.map (· g)) s0) ds) w:=by
   intro listed g w hs hall hM
   have e1:mem.countP (Sof listed)=mem.length:=List.countP_eq_length.2 fun m hm' => hall m (by simpa using of_decide_eq_true (zz.1 hmlt m hm'))
   rw[e1]at hM
   have e2:Fr n (ia (Sof listed) 0 l (V.map (· g)) s0) ds=Fr n (sE g) ds:=by
    rw[<-hE g]
    refine sj ds fun t=>?_
    rw[kF,kF]
    congr 1
    refine qP l 0 _ _ rfl fun j o hj _=>⟨?_,fun _=>rfl⟩
    rw[jN]
    exact hall j (zd.1 hj).1
   rw[e2]
   exact hend g w hM
  have allOf:∀ (listed:Array Bool),listed.size=l.length->Region.ready .any l.toArray listed=[]->∀ i,i<l.length->Sof listed i=true:=by
   intro listed hs hr i
   induction i using Nat.strongRecOn with
   | _ i ih =>
    intro hi
    cases hc:Sof listed i with
    | true=>rfl
    | false =>
     exfalso
     have:i∈Region.ready .any l.toArray listed:=by
      rw[mem_ready]
      refine⟨?_,l[i],by simp[hi],fun e he hb=>?_⟩
      . have:i<listed.size:=by omega
        simp only[Sof]at hc
        simp[this]at hc ⊢
        exact hc
      . have h1:=zz.1 hacy i (mC.2 hi)
        rw[zk hi]at h1
        simp only[Option.all_some,zz]at h1
        have h2:=h1 e (by simpa using he)
        rw[hb,Bool.not_true,Bool.false_or,decide_eq_true_eq]at h2
        exact ih e.on h2 o_
     rw[hr]at this
     cases this
  induction fuel with
  | zero =>
   intro listed g w hs hc hd hM
   have hz:∀ x∈listed.toList,x=true:=by
    intro x hx
    have:=zJ.1 (Nat.le_zero.1 hc) x hx
    simpa using this
   have hall:∀ i,i<l.length->Sof listed i=true:=by
    intro i hi
    have hi' : i<listed.size:=by omega
    simp only[Sof]
    simp[hi']
    exact hz _ s_
   refine⟨?_,fin listed g w hs hall hM⟩
   cases hr:Region.ready .any l.toArray listed with
   | nil=>rfl
   | cons i rs =>
    have:i∈Region.ready .any l.toArray listed:=by rw[hr];simp
    rw[mem_ready]at this
    obtain⟨h1,o,ho,_⟩:=this
    have hi:i<l.length:=by simpa using(z8.1 ho).1
    have:=hall i hi
    simp only[Sof]at this
    have hi' : i<listed.size:=by omega
    simp[hi']at h1 this
    rw[h1]at this
    cases this
  | succ fuel ih =>
   intro listed g w hs hc hd hM
   refine⟨fun hr=>fin listed g w hs (allOf listed hs hr) hM,fun i hi=>?_⟩
   obtain⟨hun,o,ho,hed⟩:=mem_ready.1 hi
   have ho' : l[i]? = some o:=by simpa using ho
   have hil:i<l.length:=(zd.1 ho').1
   have hil' : i<listed.size:=by omega
   have hSi:Sof listed i=false:=by
    simp only[Sof];simp[hil']at hun ⊢;exact hun
   -- the set behind it
   let S:=Sof listed
   let S' := Sof (listed.setIfInBounds i true)
   have hSi:S i=false:=hSi
   have hd:Down l S:=hd
   have hS' : ∀ j,S' j=(S j||j==i):=fun j=>GL listed i j hil'
   have hd' : Down l S' := ⟨fun j oj hj hSj e he hb=>by
    rw[hS']at hSj ⊢
    rcases qI.1 hSj with h|h
    . rw[show S e.on=true from hd.closed j oj hj h e he hb];rfl
    . have:j=i:=by simpa using h
      subst this
      have:oj=o:=Option.some.inj (hj.symm.trans ho')
      subst this
      rw[show S e.on=true from hed e he hb];rfl⟩
   have hps:=fun j=>CO (S:=S) hpre hd j
   have hps' := fun j=>CO (S:=S') hpre hd' j
   -- what waits for i has not come up
   have notYet:∀ k,k<l.length->(pre.getD k []).contains i=true->S k=false:=by
    intro k hk hki
    cases hSk:S k with
    | false=>rfl
    | true=>have:=hps k hSk hk i hki;rw[hSi]at this;cases this
   -- what i waits for has
   have nC:∀ k,(pre.getD i []).contains k=true->S k=true:=by
    intro k hk
    have h1:=hps' i (by rw[hS'];simp) hil k hk
    rw[hS']at h1
    rcases qI.1 h1 with h|h
    . exact h
    . exfalso
      have e:k=i:=by simpa using h
      subst e
      have:=notYet k hil hk
      -- k is in fO own list: then it has come up before itself
      have h2:=zz.1 (zz.1 hpre k (mC.2 hil)) k (by simpa using hk)
      rw[zk hil]at h2
      simp only[Option.any_some,EE,zo,decide_eq_true_eq,sR,beq_iff_eq]at h2
      obtain⟨e,he,⟨hb,hlt⟩,h3⟩:=h2
      have hSe:S e.on=true:=by
       have:l[k]=o:=by rw[zk hil]at ho'; exact Option.some.inj ho'
       rw[this]at he
       exact hed e (by simpa using he) hb
      rcases h3 with h3|h3
      . omega
      . have:=hps e.on hSe o_ k (by simpa using h3)
        rw[hSi]at this;cases this
   -- the slots that it looks at hold what they hold in the order of the text
   have agree:∀ t,t∈o.looksAt l.toArray->look (ia S 0 l (V.map (· g)) s0) t=look (ia (fun j=>decide (j<i)) 0 l (V.map (· g)) s0) t:=by
    intro t ht
    rw[kF,kF]
    congr 1
    refine qP l 0 _ _ rfl fun j oj hj hdj=>⟨?_,fun _=>rfl⟩
    rw[jN]
    have htou:j9 l.toArray oj o=true:=by simp[j9,hdj,ht]
    rcases tV j i with h|h|h
    . simp[h,nC j (nF j i oj o hj ho' h (.inl htou))]
    . subst h;simp[hSi,S]
    . have:=notYet j (zd.1 hj).1 (nF i j o oj ho' hj h (.inr (.inl htou)))
      simp[this];omega
   have hev:execOp (ev n (ia S 0 l (V.map (· g)) s0)) o=execOp (ev n (ia (fun j=>decide (j<i)) 0 l (V.map (· g)) s0)) o:=by
    refine execOp_congr o (fun cs b e=>?_) fun x hx=>?_
    . have:=zz.1 hsel o (zh ho')
      rw[e]at this
      simp[rZ]at this
    . cases x with
      | tmp t =>
       simp only[ev]
       rw[agree t (ve _ (Cq.2 ⟨.tmp t,by simpa using hx,rfl⟩))]
      | _=>rfl
   have htk:gB l.toArray n (ia S 0 l (V.map (· g)) s0) o.guard=gB l.toArray n (ia (fun j=>decide (j<i)) 0 l (V.map (· g)) s0) o.guard:=by
    cases hg:o.guard with
    | none=>rfl
    | some gd =>
     obtain⟨jg,want⟩:=gd
     simp only[gB]
     have e:qZ l.toArray.toList jg=(l.toArray[jg]?).bind (·.dst):=by rw[C8];simp
     rw[e]
     cases hdg:(l.toArray[jg]?).bind (·.dst)with
     | none=>rfl
     | some d =>
      simp only[ev]
      rw[agree d (vE _ (by rw[hg];simp only;rw[hdg];simp))]
   -- the frame behind it
   have hcnt:(listed.setIfInBounds i true).toList.countP (! ·)<=fuel:=by
    have:(listed.setIfInBounds i true).toList.countP (! ·)+1<=listed.toList.countP (! ·):=by
     rw[Ff]
     have hil2:i<listed.toList.length:=by simpa using hil'
     have hfalse:listed.toList[i]=false:=by simp[hil']at hun;simpa using hun
     have e:=vk i listed.toList
     have e2:listed.toList=listed.toList.take i++false :: listed.toList.drop (i+1):=by
      conv=>lhs;rw[<-e,wY hil2,hfalse]
     have e3:listed.toList.set i true=listed.toList.take i++true :: listed.toList.drop (i+1):=by
      rw[EV,if_pos hil2]
     rw[e3]
     conv=>rhs;rw[e2]
     simp[List.countP_append,tO]
     omega
    omega
   have frame:∀ (g' : Γ) (v:Γ->Value),V[i]? = some v->(∀ k u,V[k]? = some u->S k=true->u g' = u g) ->
    (Fr n (ia S 0 l (V.map (· g)) s0) ds).put o.dst (v g')=Fr n (ia S' 0 l (V.map (· g')) s0) ds:=by
    intro g' v hv hst
    rw[uz]
    refine sj ds fun t=>?_
    rw[CX,kF,kF]
    by_cases hdt:o.dst=some t
    . rw[if_pos hdt]
      have:l8 S' t 0 l (V.map (· g'))=some (v g'):=by
       refine C3 l 0 i _ o (v g') ho' hdt (by simp[hv]) (by rw[jN,hS'];simp) fun j oj hij hj hdj=>?_
       rw[jN,hS']
       have hto:j9 l.toArray o oj=true:=by simp[j9,hdt,hdj]
       have:=notYet j (zd.1 hj).1 (nF i j o oj ho' hj hij (.inl hto))
       simp[this];omega
      rw[this];rfl
    . rw[if_neg hdt]
      congr 1
      refine qP l 0 _ _ s_ fun j oj hj hdj=>?_
      rw[jN,hS']
      have hji:¬ j=i:=by
       rintro rfl
       have:oj=o:=Option.some.inj (hj.symm.trans ho')
       subst this
       exact hdt hdj
      refine⟨by simp[hji],fun hSj=>?_⟩
      have hjl:j<V.length:=by have:=(zd.1 hj).1;omega
      simp only[kJ,zk hjl,nu]
      rw[hst j _ (zk hjl) hSj]
   obtain⟨v,hv,hob⟩:=hget i o ho'
   unfold wpOpIn
   rw[ho]
   simp only
   by_cases himem:i∈mem
   . -- an operation on memory
     have hcon:mem.contains i=true:=by simpa using himem
     rw[hcon]at hob
     have hord:∀ m∈mem,(m<i->S m=true)/\(i<m->S m=false):=by
      intro m hm'
      have hml:m<l.length:=of_decide_eq_true (zz.1 hmlt m hm')
      exact⟨fun h=>nC m (nF m i _ o (zk hml) ho' h (.inr (.inr ⟨hm', himem⟩))),
       fun h=>notYet m hml (nF i m o _ ho' (zk hml) h (.inr (.inr ⟨himem,hm'⟩)))⟩
     obtain⟨c1,c2⟩:=RM (S:=S) mem hpw himem (fun m hm' h=>(hord m hm').1 h) hSi (fun m hm' h=>(hord m hm').2 h)
     have c2' : mem.countP S' = mem.idxOf i+1:=by rw[<-c2];exact List.countP_congr fun j _=>by rw[hS']
     have hM' : M (mem.idxOf i) g w:=by rw[<-c1];exact hM
     have next:∀ v' w', (∃ g', M (mem.idxOf i+1) g' w' /\ v' = v g' /\ jR pre i g g' 0 V) ->
      wpAnyIn (FW r) 0 P .any l.toArray Q fuel (listed.setIfInBounds i true) ((Fr n (ia S 0 l (V.map (· g)) s0) ds).put o.dst v') w' := by
      rintro v' w' ⟨g', hM2,rfl,hstab⟩
      have:=ih (listed.setIfInBounds i true) g' w' (by simpa using hs) hcnt hd' (by rw[show mem.countP (Sof (listed.setIfInBounds i true))=mem.idxOf i+1 from c2'];exact hM2)
      rw[frame g' v hv ?_]
      . exact this
      . intro k u hk hSk
        refine jR.get V 0 hstab k u hk ?_
        rw[jN]
        have hkl:k<l.length:=by have:=(zd.1 hk).1;omega
        have h1:(pre.getD k []).contains i=false:=by
         cases h:(pre.getD k []).contains i with
         | false=>rfl
         | true=>have:=notYet k hkl h;rw[hSk]at this;cases this
        have h2:¬ k=i:=by rintro rfl;rw[hSi]at hSk;cases hSk
        rw[h1];simp[h2]
     rcases hob g w hM' with ⟨ht,hnd,hcase⟩|⟨ht,hN⟩
     . rw[mX,htk,ht,if_pos rfl]
       refine⟨fun _ _=>trivial,?_⟩
       rw[semAt_eq (sX hnd),pe, hev]
       rcases hcase with ⟨v', w', hr,hN⟩|⟨w', hr,hN⟩|⟨f,args,hr,hC⟩
       . rw[hr];exact next v' w' hN
       . rw[hr];exact next undef w' hN
       . rw[hr]
         refine⟨fun h=>by simp[FW]at h,qQ.2 (Calls.mono hC ?_)⟩
         intro e w' he
         cases e with
         | returned v' => exact next v' w' he
         | panicked ch =>
          refine he _ fun t ht' => ?_
          rw[kF,vL l 0 _ (fun j oj hj hdj=>absurd hdj (ht' oj (zh hj)))]
          rfl
         | outgrown=>exact he
     . rw[mX,htk,ht]
       exact⟨fun _ _=>trivial,next undef w hN⟩
   . have hcon:mem.contains i=false:=by simpa using himem
     rw[hcon]at hob
     have hc' : mem.countP S' = mem.countP S:=by
      refine List.countP_congr fun j hj=>?_
      rw[hS']
      have:¬ j=i:=by rintro rfl;exact himem hj
      simp[this]
     have hlo:tL pre mem i<=mem.countP S:=List.countP_mono_left fun m _ h=>nC m h
     have hhi:mem.countP S<=ua pre mem i:=List.countP_mono_left fun m hm' h=>by
      have hml:m<l.length:=of_decide_eq_true (zz.1 hmlt m hm')
      cases h2:(pre.getD m []).contains i with
      | false=>rfl
      | true=>have:=notYet m hml h2;rw[h]at this;cases this
     have next:∀ w', M (mem.countP S) g w' -> wpAnyIn (FW r) 0 P .any l.toArray Q fuel (listed.setIfInBounds i true) ((Fr n (ia S 0 l (V.map (· g)) s0) ds).put o.dst (v g)) w' := by
      intro w' hM2
      have:=ih (listed.setIfInBounds i true) g w' (by simpa using hs) hcnt hd' (by rw[show mem.countP (Sof (listed.setIfInBounds i true))=mem.countP S from hc'];exact hM2)
      rw[frame g v hv (fun _ _ _ _=>rfl)]
      exact this
     rcases hob (mem.countP S) g w hlo hhi hM with ⟨ht,hnd,hcase⟩|⟨ht,hN⟩
     . rw[mX,htk,ht,if_pos rfl]
       refine⟨fun _ _=>trivial,?_⟩
       rw[semAt_eq (sX hnd),pe, hev]
       rcases hcase with hr|⟨f,args,hr,hC⟩
       . rw[hr];exact next w hM
       . rw[hr]
         refine⟨fun h=>by simp[FW]at h,qQ.2 (Calls.mono hC ?_)⟩
         rintro e w' ⟨v', rfl,rfl,hC'⟩
         exact next w' hC'
     . rw[mX,htk,ht]
       exact⟨fun _ _=>trivial,by rw[<-hN];exact next w hM⟩
 have e0:Fr n s0 ds=Fr n (ia (Sof (Array.replicate l.toArray.size false)) 0 l (V.map (· g0)) s0) ds:=by
  refine sj ds fun t=>?_
  rw[kF,vL l 0 _ (fun j o _ _=>?_)]
  . rfl
  . simp only[Sof];exact uu _ _
 have hz:mem.countP (Sof (Array.replicate l.toArray.size false))=0:=zJ.2 fun j _=>by
  simp only[Sof];rw[uu];simp
 rw[e0]
 refine main _ _ g0 _ s_ (z7 JU s_) ⟨fun j o _ h=>?_⟩ (by rw[hz];exact h0)
 exfalso
 simp only[Sof]at h
 rw[uu]at h
 cases h
end
end Go.Sx
namespace Go.Sx
open Go
section
variable {r:Option Nat} {P:Program} {ops:Array Oper} {Q:Exit->Act->World->Prop} {rest:List Oper} {n:Nat} {s:List (Nat×Value)} {ds:List Deferred} {w w' : World}
variable {d:Nat} {dd:Option Nat} {ty:TypeId} {pos:String} {af:Array Edge} {g:Option (Nat×Bool)} {v u:Value} {x y:Operand} {bs:List (World×List Nat)} {L L' : List gi} {t e:TypeId} {sz by_ m cnt:Nat} {z:Value} {xs news:List Value}
theorem I4{b o:Nat}{T:TypeId}{cs cs' vs:List Value}(i:Nat)(hx:ev n s x = .pointer (some ⟨b,o,none⟩))(hy:ev n s y=v)(hvs:v.cells.toList=vs)
 (ht:TI P t sz by_ z) (hsz:vs.length=sz) (h1:vs.all (·.oneCell')=true) (hst:St bs L w) (hi:L[i]? = some (blk b T cs)) (hfit:o+vs.length<=cs.length)
 (hcs:setAt cs o vs=cs') (hL:L.set i (blk b T cs')=L') :
 ∃ w', (execOp (ev n s) ⟨dd,.store t x y,ty,pos,af,g⟩).run P w = .ok .skip w' /\ St bs L' w' /\ gD [b] w w' := by
 have hh:=hst.DE hi
 have hrun:=run_storeCells_at P b o T vs 0 cs.toArray w hh (by simpa using hfit) (by simpa using h1)
 have hlen:v.cells.size=sz:=by rw[<-hsz,<-hvs];simp
 refine⟨w.setRow b (cs'.toArray),?_,?_,gD.setRow w b _⟩
 . simp only[execOp,hx,hy,Instr.storeAt,Instr.sureAddr,storeVar,zj,zm,ze,ht.size,hlen,ne_eq,not_true,if_false,hvs]
   subst hcs
   simp only[mL]at hrun
   simp[hrun,setAt]
 . subst hL
   refine hst.iE hi (gD.setRow w b _) (fun c hc=>.inl hc) (by simp[blk]) (fun c hc=>?_) (setRow_heap w b cs.toArray cs'.toArray T (0,0) hh)
   simp only[blk,lY]at hc
   subst hc
   simpa using(z8.1 hh).1
theorem lM{b o:Nat}{T:TypeId}{cs cs' vs:List Value}(i:Nat)(hg:gB ops n s g=true)(hx:ev n s x = .pointer (some ⟨b,o,none⟩))(hy:ev n s y=v)(hvs:v.cells.toList=vs)
 (ht:TI P t sz by_ z) (hsz:vs.length=sz) (h1:vs.all (·.oneCell')=true) (hst:St bs L w) (hi:L[i]? = some (blk b T cs)) (hfit:o+vs.length<=cs.length)
 (hcs:setAt cs o vs=cs') (hL:L.set i (blk b T cs')=L')
 (K:∀ w', St bs L' w' -> gD [b] w w' -> WL r P ops Q rest (Fr n s ds) w'):WL r P ops Q (⟨none,.store t x y,ty,pos,af,g⟩ :: rest) (Fr n s ds) w:=by
 obtain⟨w', h2,h3,h4⟩:=I4 (dd:=none) (ty:=ty) (pos:=pos) (af:=af) (g:=g) i hx hy hvs ht hsz h1 hst hi hfit hcs hL
 exact xJ hg rfl h2 (K w' h3 h4)
theorem uw{T e:TypeId}{k:IntKind}{b o o' m:Nat}{i:Int}(hx:ev n s x = .pointer (some ⟨b,o,none⟩))(hy:ev n s y = .int k i)(hT:P.underlying T=some (.array m e))
 (ht:TI P e sz by_ z) (h0:0<=i/\i<m) (ho:o+i.toNat*sz=o') :
 (execOp (ev n s) ⟨dd,.indexAddr T x y,ty,pos,af,g⟩).run P w = .ok (.value (.pointer (some ⟨b,o', none⟩))) w:=by
 subst ho
 simp only[execOp,hx,hy,Instr.indexAt,run_underlying hT,asIntOf,zj,zm,ze,Instr.sureAddr]
 simp[h0,ht.size,Addr.add_lit]
theorem lV{T e:TypeId}{k:IntKind}{b o o' m:Nat}{i:Int}(hg:gB ops n s g=true)(hx:ev n s x = .pointer (some ⟨b,o,none⟩))(hy:ev n s y = .int k i)(hT:P.underlying T=some (.array m e))
 (ht:TI P e sz by_ z) (h0:0<=i/\i<m) (ho:o+i.toNat*sz=o') (K:WL r P ops Q rest (Fr n ((d,.pointer (some ⟨b,o', none⟩)) :: s) ds) w) :
 WL r P ops Q (⟨some d,.indexAddr T x y,ty,pos,af,g⟩ :: rest) (Fr n s ds) w:=pv hg rfl (uw hx hy hT ht h0 ho) K
theorem uI{ps:List (Nat×Operand)}{pvs:List (Nat×Value)}(hp:ps.map (fun q=>(q.1,ev n s q.2))=pvs)(hb:∀ w,(Instr.build t pvs.toArray).run P w = .ok v w) :
 (execOp (ev n s) ⟨dd,.build t ps.toArray,ty,pos,af,g⟩).run P w = .ok (.value v) w:=by
 have:(ps.toArray.map fun(i,x)=>(i,ev n s x))=pvs.toArray:=by rw[<-hp];simp
 simp only[execOp,this,zj,hb,ze,zm]
theorem lX{ps:List (Nat×Operand)}{pvs:List (Nat×Value)}(hg:gB ops n s g=true)(hp:ps.map (fun q=>(q.1,ev n s q.2))=pvs)(hb:∀ w,(Instr.build t pvs.toArray).run P w = .ok v w)
 (K:WL r P ops Q rest (Fr n ((d,v) :: s) ds) w):WL r P ops Q (⟨some d,.build t ps.toArray,ty,pos,af,g⟩ :: rest) (Fr n s ds) w:=pv hg rfl (uI hp hb) K
theorem U7{a:Option Addr}{m c:Nat}{t' : TypeId}(hx:ev n s x = .slice a m c)(hy:ev n s y = .slice none 0 0)(ht:P.underlying t=some (.slice e)) :
 (execOp (ev n s) ⟨dd,.binOp .eql t x y t', ty,pos,af,g⟩).run P w = .ok (.value (.bool a.isNone)) w:=by
 have h:=Lib.run_eql_slice_nil (P:=P) w t e a m c 0 0 ht
 simp[execOp,hx,hy,eqGuard,h]
theorem XH{a:Option Addr}{m c:Nat}{t' : TypeId}(hg:gB ops n s g=true)(hx:ev n s x = .slice a m c)(hy:ev n s y = .slice none 0 0)(ht:P.underlying t=some (.slice e))
 (K:WL r P ops Q rest (Fr n ((d,.bool a.isNone) :: s) ds) w):WL r P ops Q (⟨some d,.binOp .eql t x y t', ty,pos,af,g⟩ :: rest) (Fr n s ds) w:=pv hg rfl (U7 hx hy ht) K
theorem M3 (hst:St bs L w)(e:TypeId)(sz len:Nat)(cs:List Value)(hl:cs.length=len*sz)(h63:len<=maxLen) :
 St bs (row (.slice (some ⟨w.heap.size,0,none⟩) len len) e sz len cs :: L) (w.alloc (.cells cs.toArray e)) :=
 hst.qX (gD.alloc [] w _) (fun b hb=>by simp[row,Value.ownBlock]at hb;omega) (by simp[row,Value.ownBlock]) (fun b hb=>by simp[row,Value.ownBlock]at hb;simp;omega)
  ⟨hl,.inr ⟨w.heap.size,len,cs.toArray,rfl,mS _,heap_alloc_new w _,zn _,h63,by simp[hl],by simp[<-hl]⟩⟩
theorem ID{len:Nat}{ps:List (Nat×Operand)}{pvs:List (Nat×Value)}{cs:List Value}(hp:ps.map (fun q=>(q.1,ev n s q.2))=pvs)(ht:P.underlying t=some (.slice e))(hi:TI P e sz by_ z)
 (hc:Instr.fill (fun i=>some (i*sz,sz)) ((Array.range (len*sz)).map (z.cells[· % z.cells.size]!)) pvs=some cs.toArray) (hsmall:len*sz<=16777216) :
 (execOp (ev n s) ⟨dd,.buildSlice t len ps.toArray,ty,pos,af,g⟩).run P w = .ok (.value (.slice (some ⟨w.heap.size,0,none⟩) len len)) (w.alloc (.cells cs.toArray e)):=by
 have h1:(ps.toArray.map fun(i,x)=>(i,ev n s x))=pvs.toArray:=by rw[<-hp];simp
 have h2:¬ len*sz>2 ^ 24:=by simp;omega
 simp only[execOp,h1,Instr.buildSlice,zj,run_underlying ht,ze,hi.size,zm]
 rw[if_neg h2]
 by_cases h0:len*sz=0
 . simp only[h0,if_true,zj,zm,ze]
   rw[h0]at hc
   have hc' : Instr.fill (fun i=>some (i*sz,sz)) ((Array.range 0).map ((#[]:Array Value)[· % (#[]:Array Value).size]!)) pvs=some cs.toArray:=by
    rw[<-hc];simp[Array.range_zero']
   simp only[hc', zj,zm,ze]
   rfl
 . simp only[h0,if_false,zj,hi.ux,zm,ze,hc]
   rfl
theorem bsl{len:Nat}{ps:List (Nat×Operand)}{pvs:List (Nat×Value)}{cs:List Value}(hg:gB ops n s g=true)(hp:ps.map (fun q=>(q.1,ev n s q.2))=pvs)(ht:P.underlying t=some (.slice e))(hi:TI P e sz by_ z)
 (hc:Instr.fill (fun i=>some (i*sz,sz)) ((Array.range (len*sz)).map (z.cells[· % z.cells.size]!)) pvs=some cs.toArray) (hl:cs.length=len*sz) (hsmall:Nat.ble (len*sz) 16777216=true) (h63:Nat.ble len 16777216=true) (hst:St bs L w)
 (K:∀ b w', w.heap.size<=b->gD [] w w' -> St bs (row (.slice (some ⟨b,0,none⟩) len len) e sz len cs :: L) w' -> WL r P ops Q rest (Fr n ((d,.slice (some ⟨b,0,none⟩) len len) :: s) ds) w') :
 WL r P ops Q (⟨some d,.buildSlice t len ps.toArray,ty,pos,af,g⟩ :: rest) (Fr n s ds) w :=
 pv hg rfl (ID hp ht hi hc (za hsmall)) (K _ _ (zn _) (gD.alloc [] w _) (M3 hst e sz len cs hl (by have:=za h63;simp only[maxLen];omega)))
def idx:Nat->List Value->List (Nat×Value)
 | _,[]=>[]
 | i,v :: vs=>(i,v) :: idx (i+1) vs
theorem Lr(off:Nat):∀ (l:List Value) (j0:Nat) (arr:Array Value),off+j0+l.length<=arr.size ->
 (l.zipIdx j0).foldl (fun cs (q:Value×Nat)=>cs.setIfInBounds (off+q.2) q.1) arr=(arr.toList.take (off+j0)++l++arr.toList.drop (off+j0+l.length)).toArray:=by
 intro l
 induction l with
 | nil=>intro j0 arr _;simp
 | cons c l ih =>
  intro j0 arr h
  simp only[List.zipIdx_cons,List.foldl_cons]
  rw[ih (j0+1) _ (by simp at h ⊢;omega)]
  simp only[zp]at h
  have hlt:off+j0<arr.toList.length:=by simp;omega
  congr 1
  rw[Ff,EV,if_pos hlt]
  have e1:(arr.toList.take (off+j0)++c :: arr.toList.drop (off+j0+1)).take (off+(j0+1))=arr.toList.take (off+j0)++[c]:=by
   rw[Ao,kD,zW o_,show off+(j0+1)-(off+j0)=1 by omega,rE (by simp;omega)]
   simp
  have e2:(arr.toList.take (off+j0)++c :: arr.toList.drop (off+j0+1)).drop (off+(j0+1)+l.length)=arr.toList.drop (off+j0+(l.length+1)):=by
   rw[B5,kD,zW o_,Fi (by simp;omega),show off+(j0+1)+l.length-(off+j0)=l.length+1 by omega]
   simp only[rK,List.drop_succ_cons,List.drop_drop]
   congr 1;omega
  rw[e1,e2]
  simp
theorem Mz(sz:Nat):∀ (vs:List Value) (k:Nat) (arr:Array Value),(∀ v∈vs,v.cells.size=sz)->k*sz+vs.length*sz<=arr.size ->
 Instr.fill (fun i=>some (i*sz,sz)) arr (idx k vs)=some (arr.toList.take (k*sz)++vs.flatMap (·.cells.toList)++arr.toList.drop (k*sz+vs.length*sz)).toArray:=by
 intro vs
 induction vs with
 | nil=>intro k arr _ _;simp[idx,Instr.fill]
 | cons v vs ih =>
  intro k arr hs hl
  have hv:=hs v s_
  simp only[zp,nw,Nat.one_mul]at hl
  simp only[idx,Instr.fill,hv]
  rw[if_neg (by simp;omega)]
  have hf:=Lr (k*sz) v.cells.toList 0 arr (by simp[hv];omega)
  have hz:Array.foldl (fun cs (q:Value×Nat)=>cs.setIfInBounds (k*sz+q.2) q.1) arr v.cells.zipIdx=(arr.toList.take (k*sz)++v.cells.toList++arr.toList.drop (k*sz+sz)).toArray:=by
   rw[<-Array.foldl_toList,Array.toList_zipIdx]
   simp only[mL,sL,hv]at hf
   exact hf
  rw[show (Array.foldl (fun cs (x:Value×Nat)=>match x with|(c,j)=>cs.setIfInBounds (k*sz+j) c) arr v.cells.zipIdx)=_ from hz]
  have hvl:v.cells.toList.length=sz:=by simp[hv]
  rw[ih (k+1) _ (fun u hu=>hs u (by simp[hu])) (by simp[hvl,nw];omega)]
  congr 2
  simp only[List.toList_toArray,nw,Nat.one_mul,kO,zp]
  have e1:(arr.toList.take (k*sz)++v.cells.toList++arr.toList.drop (k*sz+sz)).take (k*sz+sz)=arr.toList.take (k*sz)++v.cells.toList:=by
   rw[Ao,rE (by simp[hvl];omega)]
   simp[hvl];omega
  have e2:(arr.toList.take (k*sz)++v.cells.toList++arr.toList.drop (k*sz+sz)).drop (k*sz+sz+vs.length*sz)=arr.toList.drop (k*sz+(vs.length*sz+sz)):=by
   rw[B5,Fi (by simp[hvl];omega)]
   simp only[zw,kD,sL,hvl,rK,List.drop_drop]
   congr 1;omega
  rw[e1,e2]
  simp
theorem nk{len:Nat}{ps:List (Nat×Operand)}{vs cs:List Value}(hg:gB ops n s g=true)(hp:ps.map (fun q=>(q.1,ev n s q.2))=idx 0 vs)(ht:P.underlying t=some (.slice e))(hi:TI P e sz by_ z)
 (hlen:vs.length=len) (hv:∀ v∈vs,v.cells.size=sz) (hcs:vs.flatMap (·.cells.toList)=cs) (hsmall:Nat.ble (len*sz) 16777216=true) (h63:Nat.ble len 16777216=true) (hst:St bs L w)
 (K:∀ b w', w.heap.size<=b->gD [] w w' -> St bs (row (.slice (some ⟨b,0,none⟩) len len) e sz len cs :: L) w' -> WL r P ops Q rest (Fr n ((d,.slice (some ⟨b,0,none⟩) len len) :: s) ds) w') :
 WL r P ops Q (⟨some d,.buildSlice t len ps.toArray,ty,pos,af,g⟩ :: rest) (Fr n s ds) w:=by
 subst hlen hcs
 have hfl:(vs.flatMap (·.cells.toList)).length=vs.length*sz:=by
  clear hp hsmall h63 K
  induction vs with
  | nil=>simp
  | cons v vs ih=>simp only[kO,zw,zp,sL,hv v s_,ih (fun u hu=>hv u (by simp[hu])),nw];omega
 refine bsl hg hp ht hi ?_ hfl hsmall h63 hst K
 rw[Mz sz vs 0 _ hv s_]
 simp
theorem Rz(z0:Value)(k:Nat):madeCells #[z0] k=(List.replicate k z0).toArray:=by
 unfold madeCells
 apply Array.ext
 . simp
 . intro i h1 h2
   simp[Nat.mod_one]
theorem Y0{k k' : IntKind}{c m:Nat}(hx:ev n s x = .int k (m:Int))(hy:ev n s y = .int k' (c:Int))(ht:P.underlying t=some (.slice e))(hi:TI P e 1 by_ z)(hz:z.cells = #[z])(hm:m<=c)(hb:by_*c<=281474976710656)(h63:c<=9223372036854775807) :
 (execOp (ev n s) ⟨dd,.makeSlice t x y,ty,pos,af,g⟩).run P w = .ok (.value (.slice (some ⟨w.heap.size,0,none⟩) m c)) (w.alloc (.cells (List.replicate c z).toArray e)):=by
 obtain⟨i,hii,h1,h2,h3⟩:=hi.get
 subst h2
 have hr:=run_make (P:=P) w t e i z ht hii h3 k k' m c o_ o_ (by rw[<-Int.natCast_mul];omega) o_
 rw[hz,h1,zX]at hr
 simp only[rD]at hr
 rw[Rz]at hr
 simp only[execOp,hx,hy,zj,hr,ze,zm]
theorem mks{k k' : IntKind}{c m:Nat}(hg:gB ops n s g=true)(hx:ev n s x = .int k (m:Int))(hy:ev n s y = .int k' (c:Int))(ht:P.underlying t=some (.slice e))(hi:TI P e 1 by_ z)(hz:z.cells = #[z])(hm:m<=c)(hb:by_*c<=281474976710656)(h63:c<=9223372036854775807)(hst:St bs L w)
 (K:∀ b w', w.heap.size<=b->gD [] w w' -> St bs (blk b e (List.replicate c z) :: L) w' -> WL r P ops Q rest (Fr n ((d,.slice (some ⟨b,0,none⟩) m c) :: s) ds) w') :
 WL r P ops Q (⟨some d,.makeSlice t x y,ty,pos,af,g⟩ :: rest) (Fr n s ds) w :=
 pv hg rfl (Y0 hx hy ht hi hz hm hb h63) (K _ _ (zn _) (gD.alloc [] w _) (v7 hst e _))
theorem St.Pj{i b:Nat}{cs:List Value}{m c sz:Nat}(h:St bs L w)(hi:L[i]? = some (blk b e cs))(hl:cs.length=c*sz)(hm:m<=c)(hc:c<=maxLen) :
 St bs (L.set i (row (.slice (some ⟨b,0,none⟩) m c) e sz m (cs.take (m*sz)))) w:=by
 have hh:=h.DE hi
 refine h.iE hi (gD.refl _ _) (fun x hx=>.inl (by simpa[row,Value.ownBlock,blk]using hx)) (by simp[row,Value.ownBlock]) (fun x hx=>?_) ?_
 . simp[row,Value.ownBlock]at hx
   subst hx
   exact(z8.1 hh).1
 . refine⟨by simp[hl];rw[<-Nat.mul_min_mul_right,zW (uZ _ hm)],.inr ⟨b,c,cs.toArray,rfl,mS _,hh,hm,hc,by simp[hl],s_⟩⟩
theorem St.XK{i:Nat}(h:St bs L w)(hi:L[i]? = some (row v e sz m xs)):Src w v sz m xs:=by
 have hown:w.ownsRow 0 e sz v m xs:=h.own _ (zh hi)
 rcases hown.2 with ⟨rfl,rfl⟩|⟨g', cap,cur,rfl,_⟩
 . exact⟨none,0,rfl,hown.1,fun j x hj=>by have:=hown.1;simp at this;subst this;simp at hj⟩
 . exact⟨some ⟨g', 0,none⟩,cap,rfl,hown.1,fun j x hj=>⟨_,rfl,hown.cells rfl j x hj⟩⟩
theorem St.Xb{i:Nat}{k:IntKind}{ys:List Int}(h:St bs L w)(hi:L[i]? = some (row v e 1 ys.length (ys.map (.int k))))(hk:∀ y∈ys,iC k y):Ints k (fun b=>b∈iR L) w v ys:=by
 have hown:w.ownsRow 0 e 1 v ys.length (ys.map (.int k)):=h.own _ (zh hi)
 rcases hown.2 with ⟨rfl,h0⟩|⟨g', cap,cur,rfl,_,hg,h1,h2,_⟩
 . have:ys=[]:=vg h0
   subst this
   exact Sl.nil _ _ _ _
 . refine⟨_,cap,rfl,h1,h2,fun j y hj=>⟨g', 0,[.int k y],rfl,qd hi (by simp[row,Value.ownBlock]),rfl,⟨rfl,hk y (zh hj)⟩,fun q u hq=>?_⟩⟩
   cases q with
   | zero =>
    simp at hq
    subst hq
    have:=hown.cells (g:=g') rfl j (.int k y) (by simp[hj])
    rw[Addr.add_lit]at this
    simpa using this
   | succ q=>simp at hq
end
section
variable {P:Program} {ops:Array Oper} {Q:Exit->Act->World->Prop} {n:Nat} {s s0:List (Nat×Value)} {ds:List Deferred} {w w' : World} {o:Oper} {v:Value} {C:World->Prop} {l:List Oper} {Nx:Value->World->Prop}
theorem qv(hg:gB ops n s o.guard=true)(hd:mE o.op=true)(h:(execOp (ev n s) o).run P w = .ok (.value v) w):mj P ops n o s v C w:=.inl ⟨hg,hd,.inl h⟩
theorem Aw(hg:gB ops n s o.guard=true)(hd:mE o.op=true)(h:(execOp (ev n s) o).run P w = .ok (.value v) w')(hN:Nx v w'):lG P ops Q n ds s0 l o s Nx w:=.inl ⟨hg,hd,.inl ⟨v,w', h,hN⟩⟩
theorem JY(hg:gB ops n s o.guard=true)(hd:mE o.op=true)(h:(execOp (ev n s) o).run P w = .ok .skip w')(hN:Nx undef w'):lG P ops Q n ds s0 l o s Nx w:=.inl ⟨hg,hd,.inr (.inl ⟨w', h,hN⟩)⟩
theorem kC{f:FuncId}{args:Array Value}{R:Value->World->Prop}(hg:gB ops n s o.guard=true)(hd:mE o.op=true)(h:(execOp (ev n s) o).run P w = .ok (.enter f args) w)(hc:CR P f args w R)(hN:∀ v w', R v w' -> Nx v w'):lG P ops Q n ds s0 l o s Nx w :=
 .inl ⟨hg,hd,.inr (.inr ⟨f,args,h,Calls.mono hc (fun e w' ⟨v,he,hR⟩=>by subst he;exact hN v w' hR)⟩)⟩
variable {dd:Option Nat} {ty:TypeId} {pos:String} {af:Array Edge} {g:Option (Nat×Bool)}
theorem iX{f:FuncId}{az:List Operand}{T:Array TypeId}{vl:List Value}(hvs:az.map (ev n s)=vl)(he:gz P f) :
 (execOp (ev n s) ⟨dd,.call ⟨.value (.func f),az.toArray,T⟩,ty,pos,af,g⟩).run P w = .ok (.enter f vl.toArray) w:=by
 simp only[execOp,resolve,invoke,Deferred.ofValue,AA, hvs]
 simp[ev,he _ _]
end
end Go.Sx
namespace Go.Sx
open Go
abbrev iA(k:IntKind)(v:Value)(e:TypeId)(ys:List Int):gi:=row v e 1 ys.length (ys.map (.int k))
section
variable {r:Option Nat} {P:Program} {ops:Array Oper} {Q:Exit->Act->World->Prop} {rest:List Oper} {n:Nat} {s:List (Nat×Value)} {ds:List Deferred} {w w' w0:World}
variable {d:Nat} {dd:Option Nat} {ty:TypeId} {pos:String} {af:Array Edge} {g:Option (Nat×Bool)} {v u:Value} {x y:Operand} {bs:List (World×List Nat)} {L L' : List gi} {t e:TypeId} {sz by_ m cnt:Nat} {z:Value} {k:IntKind} {ys zs:List Int}
theorem MI(k:IntKind)(zs:List Int):∀ x∈zs.map (Value.int k),x.oneCell' = true:=by
 intro x hx
 obtain⟨y,_,rfl⟩:=jW.1 hx
 rfl
theorem Jm{LL:Value->List gi}(i:Nat)(hg:gB ops n s g=true)(hx:ev n s x=v)(hy:ev n s y=u)(ht:P.underlying t=some (.slice e))(hi:TI P e 1 by_ z)(hzs:z.cells.size=1)
 (hst:St bs L w) (hL:L[i]? = some (iA k v e ys)) (hs:Src w u 1 zs.length (zs.map (.int k))) (hb:(ys.length+zs.length)*by_<=140737488355328) (h63:ys.length+zs.length<=9223372036854775807)
 (hLL:∀ v', L.set i (iA k v' e (ys++zs))=LL v')
 (K:∀ v' w', St bs (LL v') w' -> gD v.ownBlock.toList w w' -> WL r P ops Q rest (Fr n ((d,v') :: s) ds) w') :
 WL r P ops Q (⟨some d,.call ⟨.builtin .append,#[x,y],#[t,t]⟩,ty,pos,af,g⟩ :: rest) (Fr n s ds) w:=by
 refine Ra i hg hx hy ht hi hzs d_ hst hL hs (MI k zs) hb (by simp only[maxLen];omega) fun v' w' h1 h2=>K v' w' ?_ h2
 rw[<-hLL]
 simpa[iA]using h1
theorem St.Ot(h:St bs L w)(e:TypeId)(sz:Nat):St bs (row (.slice none 0 0) e sz 0 [] :: L) w :=
 h.add (lo:=w.heap.size) (fun p hp=>(h.base p hp).gI.size) h.lt (fun b hb=>by simp[row,Value.ownBlock]at hb) (by simp[row,Value.ownBlock]) (fun b hb=>by simp[row,Value.ownBlock]at hb) (World.ownsRow_nil w 0 e sz)
end
end Go.Sx
namespace Go.Sx
open Go
section
variable {Γ:Type} {r:Option Nat} {P:Program} {ops:Array Oper} {Q:Exit->Act->World->Prop} {n:Nat} {ds:List Deferred} {s0:List (Nat×Value)} {l0 l:List Oper} {pre:List (List Nat)} {mem:List Nat} {V vs:List (Γ->Value)} {v:Γ->Value}
variable {bs:List (World×List Nat)} {Ls:List ((Γ->List gi)×(Γ->World->Prop))} {i lo:Nat} {s:Γ->List (Nat×Value)} {o:Oper} {L L' L1 L2:Γ->List gi} {F F' F1 F2:Γ->World->Prop}
def jS(bs:List (World×List Nat))(Ls:List ((Γ->List gi)×(Γ->World->Prop)))(p:Nat)(g:Γ)(w:World):Prop :=
 match Ls[p]? with
 | some (L,F)=>St bs (L g) w/\F g w
 | none=>False
theorem jS.at{p:Nat}(h:Ls[p]? = some (L,F)){g:Γ}{w:World}:jS bs Ls p g w↔(St bs (L g) w/\F g w):=by simp only[jS,h]
theorem jR.refl(g:Γ):∀ (V:List (Γ->Value)) (k:Nat),jR pre i g g k V:=by
 intro V
 induction V with
 | nil=>intro k;trivial
 | cons v V ih=>intro k;exact⟨by cases ((pre.getD k []).contains i||k==i)<;>simp,ih (k+1)⟩
theorem og:lQ P ops Q n ds s0 l0 pre mem V (jS bs Ls) i s [] []:=trivial
theorem aaS(hm:mem.contains i=false)(h:∀ g w C,mj P ops n o (s g) (v g) C w)(K:lQ P ops Q n ds s0 l0 pre mem V (jS bs Ls) (i+1) (fun g=>jy o.dst (v g) (s g)) l vs) :
 lQ P ops Q n ds s0 l0 pre mem V (jS bs Ls) i s (o :: l) (v :: vs):=by
 refine⟨?_,K⟩
 rw[hm]
 exact fun p g w _ _ _=>h g w _
theorem mj.congr{C C' : World->Prop}{s:List (Nat×Value)}{v:Value}{w:World}(hC:∀ w,C w->C' w)(h:mj P ops n o s v C w):mj P ops n o s v C' w:=by
 rcases h with ⟨h1,h2,h3|⟨f,args,h3,h4⟩⟩|h
 . exact .inl ⟨h1,h2,.inl h3⟩
 . exact .inl ⟨h1,h2,.inr ⟨f,args,h3,h4.mono fun v' w' h=>⟨h.1,hC w' h.2⟩⟩⟩
 . exact .inr h
theorem lU(hm:mem.contains i=false)(hlo:tL pre mem i=lo)(hhi:ua pre mem i=lo)(hL:Ls[lo]? = some (L,F))
 (h:∀ g w,St bs (L g) w->F g w->mj P ops n o (s g) (v g) (fun w' => St bs (L g) w' /\ F g w') w) (K:lQ P ops Q n ds s0 l0 pre mem V (jS bs Ls) (i+1) (fun g=>jy o.dst (v g) (s g)) l vs) :
 lQ P ops Q n ds s0 l0 pre mem V (jS bs Ls) i s (o :: l) (v :: vs):=by
 refine⟨?_,K⟩
 rw[hm]
 intro p g w h1 h2 hM
 obtain rfl:p=lo:=by omega
 have hM' := (jS.at hL).1 hM
 exact(h g w hM'.1 hM'.2).congr fun w' h=>(jS.at hL).2 h
theorem nZ(hm:mem.contains i=false)(hlo:tL pre mem i=lo)(hhi:ua pre mem i=lo+1)(hL:Ls[lo]? = some (L,F))(hL1:Ls[lo+1]? = some (L1,F1))
 (h:∀ g w,St bs (L g) w->F g w->mj P ops n o (s g) (v g) (fun w' => St bs (L g) w' /\ F g w') w) (h' : ∀ g w,St bs (L1 g) w->F1 g w->mj P ops n o (s g) (v g) (fun w' => St bs (L1 g) w' /\ F1 g w') w)
 (K:lQ P ops Q n ds s0 l0 pre mem V (jS bs Ls) (i+1) (fun g=>jy o.dst (v g) (s g)) l vs) :
 lQ P ops Q n ds s0 l0 pre mem V (jS bs Ls) i s (o :: l) (v :: vs):=by
 refine⟨?_,K⟩
 rw[hm]
 intro p g w h1 h2 hM
 rcases(show p=lo\/p=lo+1 by omega)with rfl|rfl
 . have hM' := (jS.at hL).1 hM
   exact(h g w hM'.1 hM'.2).congr fun w' h=>(jS.at hL).2 h
 . have hM' := (jS.at hL1).1 hM
   exact(h' g w hM'.1 hM'.2).congr fun w' h=>(jS.at hL1).2 h
theorem Bl(hm:mem.contains i=false)(hlo:tL pre mem i=lo)(hhi:ua pre mem i=lo+2)(hL:Ls[lo]? = some (L,F))(hL1:Ls[lo+1]? = some (L1,F1))(hL2:Ls[lo+2]? = some (L2,F2))
 (h:∀ g w,St bs (L g) w->F g w->mj P ops n o (s g) (v g) (fun w' => St bs (L g) w' /\ F g w') w) (h' : ∀ g w,St bs (L1 g) w->F1 g w->mj P ops n o (s g) (v g) (fun w' => St bs (L1 g) w' /\ F1 g w') w)
 (h'' : ∀ g w,St bs (L2 g) w->F2 g w->mj P ops n o (s g) (v g) (fun w' => St bs (L2 g) w' /\ F2 g w') w)
 (K:lQ P ops Q n ds s0 l0 pre mem V (jS bs Ls) (i+1) (fun g=>jy o.dst (v g) (s g)) l vs) :
 lQ P ops Q n ds s0 l0 pre mem V (jS bs Ls) i s (o :: l) (v :: vs):=by
 refine⟨?_,K⟩
 rw[hm]
 intro p g w h1 h2 hM
 rcases(show p=lo\/p=lo+1\/p=lo+2 by omega)with rfl|rfl|rfl
 . have hM' := (jS.at hL).1 hM
   exact(h g w hM'.1 hM'.2).congr fun w' h=>(jS.at hL).2 h
 . have hM' := (jS.at hL1).1 hM
   exact(h' g w hM'.1 hM'.2).congr fun w' h=>(jS.at hL1).2 h
 . have hM' := (jS.at hL2).1 hM
   exact(h'' g w hM'.1 hM'.2).congr fun w' h=>(jS.at hL2).2 h
theorem lG.mono{s:List (Nat×Value)}{w:World}{N N' : Value->World->Prop}(hN:∀ v w,N v w->N' v w)(h:lG P ops Q n ds s0 l0 o s N w):lG P ops Q n ds s0 l0 o s N' w:=by
 rcases h with ⟨h1,h2,⟨v,w', h3,h4⟩|⟨w', h3,h4⟩|⟨f,args,h3,h4⟩⟩|⟨h1,h2⟩
 . exact .inl ⟨h1,h2,.inl ⟨v,w', h3,hN _ _ h4⟩⟩
 . exact .inl ⟨h1,h2,.inr (.inl ⟨w', h3,hN _ _ h4⟩)⟩
 . refine .inl ⟨h1,h2,.inr (.inr ⟨f,args,h3,Calls.mono h4 fun e w' he=>?_⟩)⟩
   cases e with
   | returned v=>exact hN _ _ he
   | panicked ch=>exact he
   | outgrown=>exact he
 . exact .inr ⟨h1,hN _ _ h2⟩
theorem kg{k:Nat}(hm:mem.contains i=true)(hk:mem.idxOf i=k)(hL:Ls[k]? = some (L,F))(hL' : Ls[k+1]? = some (L', F'))
 (h:∀ g w,St bs (L g) w->F g w->lG P ops Q n ds s0 l0 o (s g) (fun v' w' => ∃ g', (St bs (L' g') w' /\ F' g' w')/\v' = v g' /\ jR pre i g g' 0 V) w)
 (K:lQ P ops Q n ds s0 l0 pre mem V (jS bs Ls) (i+1) (fun g=>jy o.dst (v g) (s g)) l vs) :
 lQ P ops Q n ds s0 l0 pre mem V (jS bs Ls) i s (o :: l) (v :: vs):=by
 refine⟨?_,K⟩
 rw[hm,hk]
 intro g w hM
 have hM' := (jS.at hL).1 hM
 exact(h g w hM'.1 hM'.2).mono fun v' w' ⟨g', h1,h2,h3⟩=>⟨g', (jS.at hL').2 h1,h2,h3⟩
theorem oE{id:Nat}{w:World}(hm:P.follows .mixedOrders=true)(pre:List (List Nat))(mem:List Nat)(hok:yD l pre mem=true)(V:List (Γ->Value))(Ls:List ((Γ->List gi)×(Γ->World->Prop)))(g0:Γ)
 (sE:Γ->List (Nat×Value)) (hL:Ls[0]? = some (L,F)) (hst:St bs (L g0) w) (hF:∀ w', gD [] w w' -> F g0 w') (hO:lQ P l.toArray Q n ds s0 l pre mem V (jS bs Ls) 0 (fun _=>s0) l V)
 (hE:∀ g,ia (fun _=>true) 0 l (V.map (· g)) s0=sE g) (hLe:Ls[mem.length]? = some (L', F'))
 (hend:∀ g w', St bs (L' g) w' -> F' g w' -> Q .normal (Fr n (sE g) ds) w'):WP r P (.region id l.toArray true) Q (Fr n s0 ds) w :=
 JR hm pre mem hok V (jS bs Ls) g0 sE ((jS.at hL).2 ⟨hst.grow (gD.drew [] w),hF _ (gD.drew [] w)⟩) hO hE fun g w' h=>hend g w' ((jS.at hLe).1 h).1 ((jS.at hLe).1 h).2
theorem St.drew{L:List gi}{w:World}(h:St bs L w):St bs L w.drew:=h.grow (gD.drew [] w)
end
def QE(sz:Nat)(v:Value)(i:Nat):Value:=match v with
 | .slice (some ⟨b,o,_⟩) _ _=>.pointer (some ⟨b,o+i*sz,none⟩)
 | _=>.pointer none
def mR(sz:Nat)(v:Value)(l h:Nat):Value:=match v with
 | .slice a _ c=>.slice (if c=l then a else a.map (·.add (l*sz))) (h-l) (c-l)
 | _=>v
section
variable {P:Program} {n:Nat} {s:List (Nat×Value)} {w:World} {dd:Option Nat} {ty:TypeId} {pos:String} {af:Array Edge} {g:Option (Nat×Bool)} {v:Value} {x y:Operand} {t e:TypeId} {sz by_:Nat} {z:Value} {u:TypeDesc}
theorem nU{α:Type}{enc:World->α->List Value->Prop}{ok:Nat->Prop}{w0:World}{ys:List α}(hx:ev n s x=v)(ht:P.underlying t=some (.slice e))(hI:Sl sz enc ok w0 v ys) :
 (execOp (ev n s) ⟨dd,.call ⟨.builtin .len,#[x],#[t]⟩,ty,pos,af,g⟩).run P w = .ok (.value (.int .i64 ys.length)) w:=by
 obtain⟨a,c,rfl,_⟩:=hI
 exact Ir hx ht
theorem aaj{α:Type}{k' : IntKind}{enc:World->α->List Value->Prop}{ok:Nat->Prop}{w0:World}{ys:List α}{i:Int}{el:α}(hx:ev n s x=v)(hy:ev n s y = .int k' i)(ht:P.underlying t=some (.slice e))(hi:TI P e sz by_ z)
 (hI:Sl sz enc ok w0 v ys) (h0:0<=i) (hel:ys[i.toNat]? = some el) :
 (execOp (ev n s) ⟨dd,.indexAddr t x y,ty,pos,af,g⟩).run P w = .ok (.value (QE sz v i.toNat)) w:=by
 have hlt:=(zd.1 hel).1
 obtain⟨a,c,rfl,_,_,h3⟩:=hI
 obtain⟨b,o,vs,rfl,_,hl,_,hc⟩:=h3 i.toNat el hel
 exact oN hx hy ht hi ⟨h0,o_⟩ rfl
theorem aaf{α:Type}{enc:World->α->List Value->Prop}{ok:Nat->Prop}{w0:World}{ys:List α}{low high:Option Operand}{l h:Nat}(hx:ev n s x=v)(ht:P.underlying t=some (.slice e))(hi:TI P e sz by_ z)
 (hI:Sl sz enc ok w0 v ys) (hlo:match low with|none=>l=0|some p=>∃ k,ev n s p = .int k (l:Int)) (hhi:match high with|none=>h=ys.length|some p=>∃ k,ev n s p = .int k (h:Int)) (hlh:l<=h) (hh:h<=ys.length) :
 (execOp (ev n s) ⟨dd,.slice t x low high none,ty,pos,af,g⟩).run P w = .ok (.value (Go.Sx.mR sz v l h)) w:=by
 obtain⟨a,c,rfl,h1,h2,h3⟩:=hI
 have b1:∀ (m:Nat) (code:BoundsCode) (k:IntKind) (q:Nat),q<=m->(Instr.sliceBound (.int k (q:Int)) m code).run P w = .ok q w:=by
  intro m code k q hq
  have:(0:Int)<=(q:Int)/\(q:Int)<=(m:Int):=by omega
  simp[Instr.sliceBound,asIntOf,this]
 have hc:h<=c:=by omega
 have hlc:l<=ys.length:=by omega
 cases low with
 | none =>
  simp only at hlo
  subst hlo
  cases high with
  | none =>
   simp only at hhi
   subst hhi
   simp[execOp,hx,Instr.sliceAt,Instr.slice,run_underlying ht,Instr.sliceBounds,hi.size,Go.Sx.mR]
  | some p =>
   obtain⟨k,hp⟩:=hhi
   simp[execOp,hx,hp,Instr.sliceAt,Instr.slice,run_underlying ht,Instr.sliceBounds,hi.size,b1 _ _ _ _ hc,Go.Sx.mR]
 | some q =>
  obtain⟨k,hq⟩:=hlo
  cases high with
  | none =>
   simp only at hhi
   subst hhi
   simp[execOp,hx,hq,Instr.sliceAt,Instr.slice,run_underlying ht,Instr.sliceBounds,hi.size,b1 _ _ _ _ hlc,Go.Sx.mR]
  | some p =>
   obtain⟨k', hp⟩:=hhi
   simp[execOp,hx,hq,hp,Instr.sliceAt,Instr.slice,run_underlying ht,Instr.sliceBounds,hi.size,b1 _ _ _ _ hc,b1 _ _ _ _ hlh,Go.Sx.mR]
end
section
variable {Γ:Type} {P:Program} {ops:Array Oper} {Q:Exit->Act->World->Prop} {n:Nat} {s s0:List (Nat×Value)} {ds:List Deferred} {w:World} {o:Oper} {v u:Value} {l:List Oper} {Nx:Value->World->Prop}
variable {dd:Option Nat} {d:Nat} {ty:TypeId} {pos:String} {af:Array Edge} {g:Option (Nat×Bool)} {x y:Operand} {t e:TypeId} {sz by_ cnt:Nat} {z:Value} {bs:List (World×List Nat)} {L L' : List gi} {news:List Value}
variable {pre:List (List Nat)} {i:Nat} {V:List (Γ->Value)} {a b:Γ} {k:Nat} {f:Γ->Value}
theorem fS(h:bif (pre.getD k []).contains i||k==i then True else f b=f a)(K:jR pre i a b (k+1) V):jR pre i a b k (f :: V):=⟨h,K⟩
theorem kM:jR pre i a b k []:=trivial
theorem ni{b o:Nat}{T:TypeId}{cs cs' vs:List Value}(i:Nat)(hg:gB ops n s g=true)(hx:ev n s x = .pointer (some ⟨b,o,none⟩))(hy:ev n s y=v)(hvs:v.cells.toList=vs)
 (ht:TI P t sz by_ z) (hsz:vs.length=sz) (h1:vs.all (·.oneCell')=true) (hst:St bs L w) (hi:L[i]? = some (blk b T cs)) (hfit:Nat.ble (o+vs.length) cs.length=true)
 (hcs:setAt cs o vs=cs') (hL:L.set i (blk b T cs')=L') (K:∀ w', St bs L' w' -> Nx undef w') :
 lG P ops Q n ds s0 l ⟨none,.store t x y,ty,pos,af,g⟩ s Nx w:=by
 obtain⟨w', h2,h3,h4⟩:=I4 (dd:=none) (ty:=ty) (pos:=pos) (af:=af) (g:=g) i hx hy hvs ht hsz h1 hst hi (za hfit) hcs hL
 exact JY hg rfl h2 (K w' h3)
theorem Jg{cs:List Value}(hg:gB ops n s g=true)(ht:TI P t sz by_ z)(hcs:z.cells.toList=cs)(hst:St bs L w)
 (K:∀ b w', St bs (blk b t cs :: L) w' -> Nx (.pointer (some ⟨b,0,none⟩)) w'):lG P ops Q n ds s0 l ⟨dd,.alloc t,ty,pos,af,g⟩ s Nx w:=by
 subst hcs
 refine Aw (v:=.pointer (some ⟨w.heap.size,0,none⟩)) (w' := w.alloc (.cells z.cells t)) hg rfl ?_ (K _ _ ?_)
 . simp only[execOp,Instr.alloc,zj,ht.ux,ze]
   rfl
 . have:=v7 hst t z.cells.toList
   simpa using this
theorem Er{cs:List Value}(hg:gB ops n s g=true)(hx:ev n s x=v)(hcs:v.cells.toList=cs)(hst:St bs L w)
 (K:∀ b w', St bs (blk b t cs :: L) w' -> Nx (.pointer (some ⟨b,0,none⟩)) w'):lG P ops Q n ds s0 l ⟨dd,.box t x,ty,pos,af,g⟩ s Nx w:=by
 subst hcs
 refine Aw (v:=.pointer (some ⟨w.heap.size,0,none⟩)) (w' := w.alloc (.cells v.cells t)) hg rfl ?_ (K _ _ ?_)
 . simp only[execOp,hx,Instr.box]
   rfl
 . have:=v7 hst t v.cells.toList
   simpa using this
end
end Go.Sx
namespace Go.Sx
open Go
section
variable {w w' w0:World} {bs:List (World×List Nat)} {L:List gi} {b:Nat} {T:TypeId} {cs cs' : List Value}
theorem St.V6(w:World)(h:(blk b T cs).holds w):St [(w,[b])] [blk b T cs] w:=by
 have:=St.OC w [blk b T cs] (fun R hR=>by simp only[lY]at hR;subst hR;exact h) (by simp[iR,blk])
  (fun c hc=>by
   simp only[iR,kO,List.flatMap_nil,qC,blk,lY]at hc
   subst hc
   exact(z8.1 (show w.heap[c]? = _ from h)).1)
 simpa[iR,blk]using this
theorem Sl.old{α:Type}{sz:Nat}{enc:World->α->List Value->Prop}{ok:Nat->Prop}{v:Value}{xs:List α}(h:Sl sz enc ok w v xs)(hp:0<sz):Sl sz enc (fun b=>ok b/\b<w.heap.size) w v xs:=by
 obtain⟨a,c,e,h1,h2,h3⟩:=h
 refine⟨a,c,e,h1,h2,fun i x hi=>?_⟩
 obtain⟨b,o,vs,ha,hb,hl,hx,hc⟩:=h3 i x hi
 refine⟨b,o,vs,ha,⟨hb,?_⟩,hl,hx,hc⟩
 cases vs with
 | nil=>simp at hl;omega
 | cons u vs=>exact World.block_lt_of_cell? w _ (hc 0 u rfl)
theorem St.size{X:List Nat}(h:St bs L w)(hb:(w0,X)∈bs):w0.heap.size<=w.heap.size:=(h.gI hb).size
end
end Go.Sx
namespace Go.Sx
open Go
section
variable {P:Program} {n:Nat} {s:List (Nat×Value)} {w:World} {fn:Func} {bs:List (World×List Nat)} {L:List gi} {x y z:ResultVar} {v v' v'' : Value} {t:TypeId} {u:TypeDesc}
def RV(P:Program)(n:Nat)(s:List (Nat×Value))(w:World)(v:Value):ResultVar->Prop
 | .tmp t=>ev n s (.tmp t)=v
 | .cell a T=>∃ ad,ev n s (.tmp a) = .pointer (some ad)/\(loadVar T ad).run P w = .ok v w
def zH(tmps:Array Value):ResultVar->Sem Value
 | .tmp t=>pure (tmps.getD t undef)
 | .cell a t=>do loadVar t (<- asAddr (tmps.getD a undef))
theorem Be(h:RV P n s w v x):(zH (Fr n s []).tmps x).run P w = .ok v w:=by
 cases x with
 | tmp t=>simp only[zH,zm];rw[s5];rw[show ev n s (.tmp t)=v from h]
 | cell a T =>
  obtain⟨ad,h1,h2⟩:=h
  simp only[zH,zj]
  rw[s5,h1]
  simp[asAddr,h2]
theorem F4(tmps:Array Value):results fn tmps=(do let vs <- fn.results.mapM (zH tmps);pure (if h:vs.size=1 then vs[0]else .tuple vs)):=by
 unfold results
 congr 2
theorem IQ(hr:fn.results = #[x,y])(h1:RV P n s w v x)(h2:RV P n s w v' y):(results fn (Fr n s []).tmps).run P w = .ok (.tuple #[v,v']) w:=by
 rw[F4,hr]
 simp[zj,Result.andThen,Be h1,Be h2]
theorem qw{R:Value->World->Prop}(hr:fn.results = #[x,y])(h1:RV P n s w v x)(h2:RV P n s w v' y)(h:R (.tuple #[v,v']) w) :
 bodyPost P fn (fun e w' => ∃ v,e = .returned v/\R v w') .ret (Fr n s []) w:=⟨rfl,_,IQ hr h1 h2,_,rfl,h⟩
theorem qO{t:Nat}(h:ev n s (.tmp t)=v):RV P n s w v (.tmp t):=h
theorem Fv{a b o:Nat}{T:TypeId}(hx:ev n s (.tmp a) = .pointer (some ⟨b,o,none⟩))(hu:P.underlying T=some u)(hn:kQ u=false)(hv:w.cell? ⟨b,o,none⟩=some v):RV P n s w v (.cell a T) :=
 ⟨_,hx,by simp only[loadVar,zj,qf hu,hn,ze];simp[load,Sem.run,hv]⟩
theorem p5{a b o sz by_:Nat}{T:TypeId}{cs:List Value}{z:Value}(hx:ev n s (.tmp a) = .pointer (some ⟨b,o,none⟩))(hu:P.underlying T=some u)(hn:kQ u=true)(ht:TI P T sz by_ z)
 (hl:cs.length=sz) (hv:∀ j u,cs[j]? = some u->w.cell? ⟨b,o+j,none⟩=some u):RV P n s w (.agg cs.toArray) (.cell a T):=by
 subst hl
 have:=run_loadCells_list (P:=P) w ⟨b,o,none⟩ cs (fun j u hj=>by rw[Addr.add_lit];exact hv j u hj)
 exact⟨_,hx,by simp only[loadVar,zj,qf hu,hn,ze,ht.size,this,if_true,zm]⟩
end
end Go.Sx
namespace Go.Sx
open Go
section
variable {P:Program} {n:Nat} {s:List (Nat×Value)} {w:World} {v:Value} {T:TypeId} {sz by_:Nat} {z:Value} {bs:List (World×List Nat)} {L:List gi}
theorem cells_one(h:v.oneCell' = true):v.cells.toList=[v]:=by cases v<;>first|rfl|(simp[Value.oneCell']at h)
theorem UC{e:TypeId}{m:Nat}{xs:List Value}(h:w.ownsRow 0 e sz v m xs):v.oneCell' = true:=by
 rcases h.2 with ⟨rfl,_⟩|⟨g,cap,cur,rfl,_⟩<;>rfl
theorem St.aaZ{i:Nat}{e:TypeId}{m:Nat}{xs:List Value}(h:St bs L w)(hi:L[i]? = some (row v e sz m xs)):v.oneCell' = true:=UC (h.own _ (zh hi))
theorem tC:([]:List Value).all (·.oneCell')=true:=rfl
theorem oe{l:List Value}(h:v.oneCell' = true)(k:l.all (·.oneCell')=true):(v :: l).all (·.oneCell')=true:=by simp only[List.all_cons,h,k,Bool.and_self]
theorem St.at{R:gi}{i:Nat}(h:St bs L w)(hi:L[i]? = some R):R.holds w:=h.own _ (zh hi)
def nj(pl:List (Nat×Nat)):List Value->List (Nat×List Value)->Option (List Value)
 | cs,[]=>some cs
 | cs,(i,vs) :: rest=>match pl[i]? with
  | none=>none
  | some (off,sz)=>bif Nat.beq vs.length sz&&Nat.ble (off+vs.length) cs.length then nj pl (setAt cs off vs) rest else none
def r8:List (Nat×Value)->List (Nat×List Value)->Prop
 | [],[]=>True
 | (i,v) :: l,(j,vs) :: m=>i=j/\v.cells.toList=vs/\r8 l m
 | _,_=>False
theorem CK(pl:List (Nat×Nat)):∀ (ps:List (Nat×Value)) (qs:List (Nat×List Value)) (cs out:List Value),r8 ps qs->nj pl cs qs=some out->Instr.fill (pl.toArray[·]?) cs.toArray ps=some out.toArray:=by
 intro ps
 induction ps with
 | nil =>
  intro qs cs out h hf
  cases qs with
  | nil=>simp only[nj,Option.some.injEq]at hf;subst hf;rfl
  | cons q qs=>cases h
 | cons p ps ih =>
  intro qs cs out h hf
  cases qs with
  | nil=>cases h
  | cons q qs =>
   obtain⟨i,v⟩:=p
   obtain⟨j,vs⟩:=q
   obtain⟨rfl,hv,h⟩:=h
   simp only[nj]at hf
   simp only[Instr.fill,qH]
   cases hp:pl[i]? with
   | none=>rw[hp]at hf;cases hf
   | some p =>
    obtain⟨off,sz⟩:=p
    rw[hp]at hf
    simp only at hf
    cases hb:(Nat.beq vs.length sz&&Nat.ble (off+vs.length) cs.length)with
    | false=>rw[hb]at hf;cases hf
    | true =>
     rw[hb]at hf
     simp only[cond_true]at hf
     rw[zo]at hb
     have h1:vs.length=sz:=zt hb.1
     have h2:=za hb.2
     have hs:v.cells.size=vs.length:=by rw[<-hv];simp
     simp only[hs]
     rw[if_neg (by simp;omega)]
     have hfo:=Lr off v.cells.toList 0 cs.toArray (by simp[hs];omega)
     have hz:Array.foldl (fun cs (q:Value×Nat)=>cs.setIfInBounds (off+q.2) q.1) cs.toArray v.cells.zipIdx=(setAt cs off vs).toArray:=by
      rw[<-Array.foldl_toList,Array.toList_zipIdx]
      simp only[mL,sL,hs,hv]at hfo ⊢
      rw[hfo]
      simp[setAt]
     rw[show (Array.foldl (fun cs (x:Value×Nat)=>match x with|(c,j)=>cs.setIfInBounds (off+j) c) cs.toArray v.cells.zipIdx)=_ from hz]
     simpa only[qH]using ih qs _ out h hf
def mJ(P:Program)(T:TypeId)(pl:List (Nat×Nat)):Prop :=
 ∃ fields,P.underlying T=some (.struct fields)/\∀ w,(fields.mapM (fun f=>do pure (f.offset,<-sizeOf f.type):Field->Sem (Nat×Nat))).run P w = .ok pl.toArray w
theorem kV{pl:List (Nat×Nat)}{ps:List (Nat×Value)}(qs:List (Nat×List Value)){cs out:List Value}(ht:TI P T sz by_ z)(hp:mJ P T pl)(hz:z.cells.toList=cs)(hc:r8 ps qs)(hf:nj pl cs qs=some out)(w:World) :
 (Instr.build T ps.toArray).run P w = .ok (.agg out.toArray) w:=by
 obtain⟨fields,hu,hm⟩:=hp
 have:=CK pl ps qs cs out hc hf
 subst hz
 simp only[Ck]at this
 simp only[Instr.build,zj,ht.ux,ze,run_underlying hu,hm,this,zm]
theorem Bc{e:TypeId}{len szE byE:Nat}{zE:Value}{ps:List (Nat×Value)}(qs:List (Nat×List Value)){cs out:List Value}(ht:TI P T sz by_ z)(hu:P.underlying T=some (.array len e))(hE:TI P e szE byE zE)(hz:z.cells.toList=cs)
 (hc:r8 ps qs) (hf:nj ((List.range len).map fun i=>(i*szE,szE)) cs qs=some out) (hlt:∀ p∈ps,p.1<len) (w:World) :
 (Instr.build T ps.toArray).run P w = .ok (.agg out.toArray) w:=by
 have h1:=CK _ ps qs cs out hc hf
 have h2:∀ (l:List (Nat×Value)) (arr:Array Value),(∀ p∈l,p.1<len)->Instr.fill (fun i=>some (i*szE,szE)) arr l=Instr.fill ((((List.range len).map fun i=>(i*szE,szE)).toArray)[·]?) arr l:=by
  intro l
  induction l with
  | nil=>intro arr _;rfl
  | cons p l ih =>
   intro arr h
   obtain⟨i,v⟩:=p
   have hi:=h (i,v) s_
   simp only at hi
   simp only[Instr.fill,qH,kJ,Ad hi,nu]
   split
   . rfl
   . simpa only[qH,kJ]using ih _ (fun p hp=>h p (by simp[hp]))
 subst hz
 simp only[Ck]at h1
 simp only[Instr.build,zj,ht.ux,ze,run_underlying hu,hE.size,h2 _ _ hlt,h1,zm]
end
end Go.Sx
namespace Go.Sx
open Go
section
variable {P:Program} {n:Nat} {s:List (Nat×Value)} {w:World} {dd:Option Nat} {ty:TypeId} {pos:String} {af:Array Edge} {g:Option (Nat×Bool)} {x:Operand} {name:String} {az:List Operand} {T:Array TypeId} {t:TypeId} {v:Value} {f:FuncId} {vl al:List Value}
theorem ZE(hx:ev n s x = .iface t v)(hvs:az.map (ev n s)=al)(hm:∀ w,(callMethod (.iface t v) name al.toArray).run P w = .ok (.enter f vl.toArray) w) :
 (execOp (ev n s) ⟨dd,.call ⟨.invoke x name,az.toArray,T⟩,ty,pos,af,g⟩).run P w = .ok (.enter f vl.toArray) w:=by
 have h1:(#[Value.iface t v]++al.toArray)[0]? = some (.iface t v):=by simp
 have h2:(#[Value.iface t v]++al.toArray).extract 1 (#[Value.iface t v]++al.toArray).size=al.toArray:=by
  apply Array.ext' ;simp
 simp only[execOp,resolve,invoke,AA, hvs,hx,zj,zm,ze,h1,h2,hm]
end
end Go.Sx
namespace Go.Sx
open Go
section
variable {w w' w0:World} {bs:List (World×List Nat)} {L:List gi} {R R' : gi}
structure Own (R:gi) (w:World):Prop where
 holds:R.holds w
 nodup:R.gU.Nodup
 lt:∀ b∈R.gU,b<w.heap.size
structure gp (R:gi) (w w' : World) (R' : gi):Prop where
 holds:R'.holds w'
 gI:gD R.gU w w'
 place:∀ b∈R'.gU,b∈R.gU\/w.heap.size<=b
 nodup:R'.gU.Nodup
 lt:∀ b∈R'.gU,b<w'.heap.size
theorem FF{α β:Type}{f:α->List β}:∀ {l:List α} {x:α},(l.flatMap f).Nodup->x∈l->(f x).Nodup:=by
 intro l
 induction l with
 | nil=>intro x _ h;simp at h
 | cons y l ih =>
  intro x h hx
  rw[kO]at h
  rcases zb.1 hx with rfl|hx
  . exact(zu.1 h).1
  . exact ih (zu.1 h).2.1 hx
theorem St.aa4{i:Nat}(h:St bs L w)(hi:L[i]? = some R):Own R w :=
 ⟨h.own R (zh hi),FF h.sep (zh hi),fun b hb=>h.lt b (qd hi hb)⟩
theorem St.sD{LL:List gi}(i:Nat)(h:St bs L w)(hi:L[i]? = some R)(ht:gp R w w' R')(hL:L.set i R' = LL):St bs LL w' := by
 subst hL
 exact h.iE hi ht.gI ht.place ht.nodup ht.lt ht.holds
theorem St.IB(h:Own R w):St [(w,R.gU)] [R] w:=by
 have:=St.OC w [R] (fun Q hQ=>by simp only[lY]at hQ;subst hQ;exact h.holds) (by simpa[iR]using h.nodup) (fun b hb=>h.lt b (by simpa[iR]using hb))
 simpa[iR]using this
theorem St.Dt(h:St bs (R' :: L) w')(hb:(w,R.gU)∈bs):gp R w w' R' := by
 have hB:=h.base _ hb
 refine⟨h.own R' s_,hB.gI,fun b hb' => hB.mine b (by rw[nN];simp[hb']),FF (x:=R') h.sep s_,fun b hb' => h.lt b (by rw[nN];simp[hb'])⟩
theorem gp.refl(h:Own R w):gp R w w R:=⟨h.holds,gD.refl _ _,fun b hb=>.inl hb,h.nodup,h.lt⟩
theorem Hf{b o:Nat}{T:TypeId}{cs:List Value}{v:Value}(h:(blk b T cs).holds w)(hv:cs[o]? = some v):w.cell? ⟨b,o,none⟩=some v:=by
 have h0:(blk b T cs).holds w:=h
 have:=(St.V6 w h0).xI (i:=0) (o:=o) rfl hv
 exact this
end
end Go.Sx
namespace Go.Sx
open Go
section
variable {P:Program} {n:Nat} {s:List (Nat×Value)} {w:World} {fn:Func} {RR:Ending->World->Prop} {v v' v'' : Value} {x y z:ResultVar}
theorem aat(hr:fn.results = #[x])(h1:RV P n s w v x):(results fn (Fr n s []).tmps).run P w = .ok v w:=by
 rw[F4,hr]
 simp[zj,Result.andThen,Be h1]
theorem YU{R:Value->World->Prop}(hr:fn.results = #[x])(h1:RV P n s w v x)(h:R v w) :
 bodyPost P fn (fun e w' => ∃ v,e = .returned v/\R v w') .ret (Fr n s []) w:=⟨rfl,_,aat hr h1,_,rfl,h⟩
end
theorem St.perm{bs:List (World×List Nat)}{L L' : List gi}{w:World}(h:St bs L w)(hp:L.Perm L'):St bs L' w:=by
 have hf:(iR L).Perm (iR L'):=hp.flatMap_right _
 exact⟨fun p hp' => ⟨(h.base p hp').gI,fun b hb=>(h.base p hp').mine b (hf.mem_iff.2 hb)⟩,fun X hX=>h.own X (hp.mem_iff.2 hX),hf.nodup_iff.1 h.sep,fun b hb=>h.lt b (hf.mem_iff.2 hb)⟩
theorem St.swap{bs:List (World×List Nat)}{L:List gi}{R R' : gi}{w:World}(h:St bs (R :: R' :: L) w):St bs (R' :: R :: L) w:=h.perm (List.Perm.swap _ _ _)
theorem nV{a b:Nat}(h:a<=b):Nat.ble a b=true:=BT h
end Go.Sx
namespace Go.Sx
open Go
def jd(l:Nat)(r:Loop):gi where
 gU:=[l]
 holds w:=w.heap[l]? = some (.loop r)
 loc w w' h hh:=(h l s_).trans hh
def kA(d:Nat)(o:Option (List Deferred)):gi where
 gU:=[d]
 holds w:=w.heap[d]? = some (.deferred o)
 loc w w' h hh:=(h d s_).trans hh
theorem gD.putObj(w:World)(r:Nat)(o:Obj):gD [r] w (w.putObj r o) :=
 ⟨rfl,rfl,rfl,s_,fun b _ hb=>World.putObj_heap_other (by simpa using hb)⟩
section
variable {w w' : World} {bs:List (World×List Nat)} {L LL:List gi} {i l d:Nat} {rc:Loop}
theorem St.vR(h:St bs L w)(hi:L[i]? = some (jd l rc)):w.heap[l]? = some (.loop rc):=h.own _ (zh hi)
theorem St.A8(h:St bs L w)(hi:L[i]? = some (jd l rc))(rc' : Loop):St bs (L.set i (jd l rc')) (w.putObj l (.loop rc')):=by
 have hlt:l<w.heap.size:=h.lt l (qd hi (by simp[jd]))
 exact h.iE hi (gD.putObj w l _) (fun b hb=>.inl hb) (by simp[jd]) (fun b hb=>by simp[jd]at hb;subst hb;simpa using hlt) (World.putObj_heap_same hlt)
theorem St.Yx{o:Option (List Deferred)}(h:St bs L w)(hi:L[i]? = some (kA d o))(o' : Option (List Deferred)):St bs (L.set i (kA d o')) (w.putObj d (.deferred o')):=by
 have hlt:d<w.heap.size:=h.lt d (qd hi (by simp[kA]))
 exact h.iE hi (gD.putObj w d _) (fun b hb=>.inl hb) (by simp[kA]) (fun b hb=>by simp[kA]at hb;subst hb;simpa using hlt) (World.putObj_heap_same hlt)
end
def gG(L:List gi):gi where
 gU:=iR L
 holds w:=∀ R∈L,R.holds w
 loc w w' h hh R hR:=R.loc w w' (fun b hb=>h b (o7.2 ⟨R,hR,hb⟩)) (hh R hR)
section
variable {w w0:World} {bs:List (World×List Nat)} {A B:List gi} {R:gi}
theorem R6(A B:List gi):iR (A++B)=iR A++iR B:=by simp[iR]
theorem xE(A B:List gi):iR (gG A :: B)=iR (A++B):=by rw[nN,R6];rfl
theorem St.pack(A B:List gi)(h:St bs (A++B) w):St bs (gG A :: B) w :=
 ⟨fun p hp=>⟨(h.base p hp).gI,fun b hb=>(h.base p hp).mine b (by rw[<-xE];exact hb)⟩,fun Q hQ=>by
  rcases zb.1 hQ with rfl|hQ
  . exact fun R hR=>h.own R (ve _ hR)
  . exact h.own Q (vE _ hQ),by rw[xE];exact h.sep,fun b hb=>h.lt b (by rw[<-xE];exact hb)⟩
theorem St.unpack(h:St bs (gG A :: B) w):St bs (A++B) w :=
 ⟨fun p hp=>⟨(h.base p hp).gI,fun b hb=>(h.base p hp).mine b (by rw[xE];exact hb)⟩,fun Q hQ=>by
  rcases zq.1 hQ with hQ|hQ
  . exact h.own (gG A) s_ Q hQ
  . exact h.own Q (by simp[hQ]),by rw[<-xE];exact h.sep,fun b hb=>h.lt b (by rw[xE];exact hb)⟩
theorem St.ZX{b:Nat}(h:St bs (R :: B) w)(hb:b∈iR B):b∉R.gU:=fun hr=>by
 have:=h.sep
 rw[nN]at this
 exact(zu.1 this).2.2 b hr b hb rfl
end
def YR(P:Program)(l:Nat)(vl:List Value)(w:World)(R:Value->World->Prop):Prop :=
 ∃ f tmps assign body,(Instr.yield l vl.toArray).run P w = .ok (.round l f tmps assign body) w/\RoundIn (FW none) 0 P l f tmps assign body w (fun e w' => ∃ v,e = .returned v/\R v w')
section
variable {P:Program} {ops:Array Oper} {Q:Exit->Act->World->Prop} {rest:List Oper} {n:Nat} {s:List (Nat×Value)} {ds:List Deferred} {w:World}
variable {d:Option Nat} {ty:TypeId} {pos:String} {af:Array Edge} {g:Option (Nat×Bool)} {x:Operand} {l:Nat}
theorem yl{az:List Operand}{T:Array TypeId}{vl:List Value}{R:Value->World->Prop}(hg:gB ops n s g=true)(hx:ev n s x = .func (.yield l) #[] #[])(hvs:az.map (ev n s)=vl)(hy:YR P l vl w R)
 (K:∀ v w', R v w' -> WL none P ops Q rest (Fr n (jy d v s) ds) w'):WL none P ops Q (⟨d,.call ⟨.value x,az.toArray,T⟩,ty,pos,af,g⟩ :: rest) (Fr n s ds) w:=by
 obtain⟨f,tmps,assign,body,h1,h2⟩:=hy
 refine⟨?_⟩
 unfold wpListIn
 rw[mX,hg,if_pos rfl]
 refine⟨fun _ _=>trivial,?_⟩
 have hr:(Oper.semAt (FW none).round (Fr n s ds).eval (⟨d,.call ⟨.value x,az.toArray,T⟩,ty,pos,af,g⟩:Oper)).run P w = .ok (.round l f tmps assign body) w:=by
  rw[show (FW none).round=none from rfl,Oper.semAt_none,pe]
  simp only[execOp,resolve,Deferred.ofValue,hx,AA, hvs,zj,zm,ze,invoke]
  simpa using h1
 rw[hr]
 refine⟨fun h=>by simp[FW]at h,RoundIn.mono h2 ?_⟩
 rintro e w' ⟨v,rfl,hR⟩
 have:=(K v w' hR).out
 rw[<-uz]at this
 exact this
def pR:List Nat->List Value->List (Nat×Value)->List (Nat×Value)
 | p :: ps,v :: vs,s=>pR ps vs ((p,v) :: s)
 | _,_,s=>s
theorem RT(p:Nat)(v:Value):(Fr n s ds).tmps.setIfInBounds p v=(Fr n ((p,v) :: s) ds).tmps:=congrArg Act.tmps (DO n s ds p v)
theorem Sr:∀ (ps:List Nat) (vs:List Value) (s:List (Nat×Value)),((ps.zip vs).foldl (fun(t:Array Value) (q:Nat×Value)=>t.setIfInBounds q.1 q.2) (Fr n s ds).tmps)=(Fr n (pR ps vs s) ds).tmps:=by
 intro ps
 induction ps with
 | nil=>intro vs s;simp[pR]
 | cons p ps ih =>
  intro vs s
  cases vs with
  | nil=>simp[pR]
  | cons v vs =>
   simp only[List.zip_cons_cons,List.foldl_cons,pR]
   rw[RT]
   exact ih vs _
theorem LF(ps:List Nat)(vs:List Value)(s:List (Nat×Value)):((ps.toArray.zip vs.toArray).foldl (fun(t:Array Value) (q:Nat×Value)=>t.setIfInBounds q.1 q.2) (Fr n s ds).tmps)=(Fr n (pR ps vs s) ds).tmps:=by
 rw[<-Sr,List.zip_toArray,List.foldl_toArray]
variable {bs:List (World×List Nat)} {L LL:List gi} {i:Nat} {rc:Loop}
theorem J7{ps:List Nat}{vl:List Value}{s' : List (Nat×Value)}{fn dd:Nat}{assign body:Code}{R:Value->World->Prop}(i:Nat)(hrc:rc=⟨.ready,none,fn,(Fr n s ds).tmps,ps.toArray,assign,body,dd⟩)(hst:St bs L w)(hi:L[i]? = some (jd l rc))
 (hlen:vl.length=ps.length) (hs:pR ps vl s=s')
 (h:WP (some l) P assign (Exit.then (fun a w₁=>∃ w₂,(Instr.beginRound l).run P w₁ = .ok () w₂/\WP (some l) P body (roundPost P l (fun e w' => ∃ v,e = .returned v/\R v w')) a w₂) (fun _ _ _=>False)) (Fr n s' []) w):YR P l vl w R:=by
 subst hs hrc
 refine⟨_,_,_,_,run_yield (hst.vR hi) (by simpa using hlen),roundIn_of_wpIn trivial ?_⟩
 have e:=LF (n:=n) (ds:=ds) ps vl s
 show assign.wpIn (FW (some l)) 0 P _ { tmps:=((ps.toArray.zip vl.toArray).foldl (fun(t:Array Value) (q:Nat×Value)=>t.setIfInBounds q.1 q.2) (Fr n s ds).tmps),defers:=[] } w
 rw[e]
 exact h
theorem Jj{B:World->Prop}(i:Nat)(hst:St bs L w)(hi:L[i]? = some (jd l rc))(hr:rc.state = .ready)(hL:L.set i (jd l { rc with state:=.busy })=LL)(K:∀ w₂,St bs LL w₂->B w₂):∃ w₂,(Instr.beginRound l).run P w = .ok () w₂/\B w₂ :=
 ⟨_,run_beginRound (hst.vR hi) hr,K _ (by subst hL;exact hst.A8 hi _)⟩
theorem Jc{R:Ending->World->Prop}{a:Act}(i:Nat)(hst:St bs L w)(hi:L[i]? = some (jd l { rc with state:=.busy }))(hr:rc.state = .ready)(hp:rc.pending=none)(hL:L.set i (jd l rc)=LL)(K:∀ w', St bs LL w' -> R (.returned (.bool true)) w'):roundPost P l R .normal a w:=by
 refine⟨_,_,run_endRound none (hst.vR hi),K _ ?_⟩
 subst hL
 have:=hst.A8 hi rc
 obtain⟨a,b,c,d,e,f,g,h⟩:=rc
 simp only at hr hp
 subst hr hp
 exact this
theorem rf{f:FuncId}{fi ca:List Value}{ps:List Nat}{assign body:Code}{α:Type}(LZ:α->List gi)(C:α->Prop)(hst:St bs L w)(hx:ev n s x = .func (.func f) fi.toArray ca.toArray)(he:gz P f)
 (h1:∀ fn dd l w₁ rc,rc=(⟨.ready,none,fn,(Fr n s ds).tmps,ps.toArray,assign,body,dd⟩:Loop)->St bs (jd l rc :: kA dd (some []) :: L) w₁ ->
  CR P f (fi++[Value.func (.yield l) #[] #[]]++ca).toArray w₁ (fun _ w₃=>∃ z,C z/\St bs (jd l rc :: kA dd (some []) :: LZ z) w₃))
 (h2:∀ z dd w₄,C z->St bs (kA dd (some []) :: LZ z) w₄->Q .normal (Fr n s (⟨.collected dd,#[]⟩ :: ds)) w₄):WP none P (.rangeFunc x ps.toArray assign body) Q (Fr n s ds) w:=by
 refine wpIn_rangeFunc fun fn _=>?_
 have hs1:St bs (kA w.heap.size (some []) :: L) (w.alloc (.deferred (some []))) :=
  hst.qX (gD.alloc [] w _) (fun b hb=>by simp[kA]at hb;omega) (by simp[kA]) (fun b hb=>by simp[kA]at hb;simp;omega) (World.alloc_heap_new w _)
 have hs2:St bs (jd (w.heap.size+1) ⟨.ready,none,fn,(Fr n s ds).tmps,ps.toArray,assign,body,w.heap.size⟩ :: kA w.heap.size (some []) :: L) ((w.alloc (.deferred (some []))).alloc (.loop ⟨.ready,none,fn,(Fr n s ds).tmps,ps.toArray,assign,body,w.heap.size⟩)) :=
  hs1.qX (gD.alloc [] _ _) (fun b hb=>by simp[jd]at hb;simp;omega) (by simp[jd]) (fun b hb=>by simp[jd]at hb;simp;omega) (by have:=World.alloc_heap_new (w.alloc (.deferred (some []))) (.loop ⟨.ready,none,fn,(Fr n s ds).tmps,ps.toArray,assign,body,w.heap.size⟩);simpa[jd]using this)
 refine⟨w.heap.size+1,_,_,⟨.fn (.func f) ca.toArray,(fi++[Value.func (.yield (w.heap.size+1)) #[] #[]]).toArray⟩,((w.alloc (.deferred (some []))).alloc (.loop ⟨.ready,none,fn,(Fr n s ds).tmps,ps.toArray,assign,body,w.heap.size⟩)),f,(fi++[Value.func (.yield (w.heap.size+1)) #[] #[]]++ca).toArray,((w.alloc (.deferred (some []))).alloc (.loop ⟨.ready,none,fn,(Fr n s ds).tmps,ps.toArray,assign,body,w.heap.size⟩)),run_enterLoop_outer fn _ _ _ _,?_,fun _ _=>trivial,?_,fun h=>by simp[FW]at h,?_⟩
 . rw[pe]
   simp only[resolve,rangeCall,Deferred.ofValue,hx]
   simp[ev]
 . have:=he ((fi++[Value.func (.yield (w.heap.size+1)) #[] #[]]++ca).toArray) ((w.alloc (.deferred (some []))).alloc (.loop ⟨.ready,none,fn,(Fr n s ds).tmps,ps.toArray,assign,body,w.heap.size⟩))
   simp only[invoke]
   simpa using this
 . refine qQ.2 (Calls.mono (h1 fn w.heap.size (w.heap.size+1) _ _ rfl hs2) ?_)
   rintro e w₃ ⟨v,rfl,z,hC,hs3⟩
   refine⟨none,_,run_endLoop (hs3.vR (i:=0) rfl) s_,?_⟩
   refine h2 z w.heap.size _ hC ?_
   exact(hs3.A8 (i:=0) rfl _).sub (JC _ _)
end
section
variable {P:Program} {n:Nat} {s:List (Nat×Value)} {w:World} {fn:Func} {f:FuncId} {c:Code} {vs:List Value} {RR:Ending->World->Prop} {bs:List (World×List Nat)} {L LL:List gi} {d:Nat} {tmps:Array Value}
theorem DL(hf:P.funcs[f]? = some fn)(hb:fn.body=some c)(hn:fn.ntmps=n)(hs:Nat.ble vs.length n=true)
 (h:WP none P c (bodyPostM (FW none) 0 P fn RR) (Fr n (tG vs 0) []) w):Calls P f vs.toArray w RR:=by
 refine qQ.1 (callsIn_of_wp_marks (F:=FW none) (n:=0) hf hb trivial ?_)
 rw[hn,ND vs n (za hs)]
 exact h
theorem DM(i:Nat)(hst:St bs L w)(hi:L[i]? = some (kA d (some [])))(hL:L.set i (kA d none)=LL)(K:∀ w', St bs LL w' -> ∃ v,(results fn tmps).run P w' = .ok v w' /\ RR (.returned v) w') :
 LeavesInM (FW none) 0 P fn tmps RR [⟨.collected d,#[]⟩] .returning w :=
 ⟨s_,.inl ⟨d,_,rfl,run_takeDeferred (hst.own _ (zh hi)),K _ (by subst hL;exact hst.Yx hi none)⟩⟩
end
end Go.Sx
namespace Go.Sx
open Go
section
variable {P:Program} {w:World} {t e:TypeId} {k:IntKind} {by_:Nat} {z:Value}
theorem Ui(d:Nat)(he:P.underlying e=some (.int k))(a b:Int):(Op.equalIn (d+1) e (.int k a) (.int k b)).run P w = .ok (a==b) w:=by
 simp[Op.equalIn,run_underlying he]
theorem KY(d:Nat)(he:P.underlying t=some .bool)(a b:Bool):(Op.equalIn (d+1) t (.bool a) (.bool b)).run P w = .ok (a==b) w:=by
 simp[Op.equalIn,run_underlying he]
theorem Dc(he:P.underlying e=some (.int k))(xs:Array Value)(i:Nat)(v:Value)(h:xs[i]? = some v):(part e xs i).run P w = .ok v w:=by
 simp[part,qf he,kQ,h]
theorem SE(ht:P.underlying t=some (.array 4 e))(he:P.underlying e=some (.int k))(hi:TI P e 1 by_ z)(a0 a1 a2 a3 b0 b1 b2 b3:Int) :
 (Op.equal t (.agg #[.int k a0,.int k a1,.int k a2,.int k a3]) (.agg #[.int k b0,.int k b1,.int k b2,.int k b3])).run P w = .ok (decide ([a0,a1,a2,a3]=[b0,b1,b2,b3])) w:=by
 have p:∀ (x0 x1 x2 x3:Value),(part e #[x0,x1,x2,x3] 0).run P w = .ok x0 w/\(part e #[x0,x1,x2,x3] 1).run P w = .ok x1 w/\(part e #[x0,x1,x2,x3] 2).run P w = .ok x2 w/\(part e #[x0,x1,x2,x3] 3).run P w = .ok x3 w:=fun x0 x1 x2 x3 =>
  ⟨Dc he _ _ _ rfl,Dc he _ _ _ rfl,Dc he _ _ _ rfl,Dc he _ _ _ rfl⟩
 have q:=fun a b=>Ui (P:=P) (w:=w) 9998 he a b
 simp only[Nat.reduceAdd]at q
 show (Op.equalIn 10000 t _ _).run P w=_
 unfold Op.equalIn
 simp only[zj,run_underlying ht,ze,hi.size,Std.Legacy.Range.forIn_eq_forIn_range', Std.Legacy.Range.size]
 simp only[show List.range' 0 ((4-0+1-1) / 1) 1=[0,1,2,3] from rfl,List.forIn_cons,List.forIn_nil,zj,zX,(p _ _ _ _).1,(p _ _ _ _).2.1,(p _ _ _ _).2.2.1,(p _ _ _ _).2.2.2,ze,q]
 by_cases h0:a0=b0
 . by_cases h1:a1=b1
   . by_cases h2:a2=b2
     . by_cases h3:a3=b3
       . simp[h0,h1,h2,h3,p,q,Result.andThen]
       . simp[h0,h1,h2,h3,p,q,Result.andThen]
     . simp[h0,h1,h2,p,q,Result.andThen]
   . simp[h0,h1,p,q,Result.andThen]
 . simp[h0,p,q,Result.andThen]
end
section
variable {r:Option Nat} {P:Program} {ops:Array Oper} {Q:Exit->Act->World->Prop} {rest:List Oper} {n:Nat} {s:List (Nat×Value)} {ds:List Deferred} {w:World}
variable {d:Nat} {dd:Option Nat} {ty t t' e:TypeId} {pos:String} {af:Array Edge} {g:Option (Nat×Bool)} {x y:Operand} {k:IntKind} {by_:Nat} {z:Value} {a0 a1 a2 a3 b0 b1 b2 b3:Int} {c:Bool}
theorem run_eqGuard_agg(op:BinOp)(hgd:P.eqGuardType P.depth t=false)(xs ys:Array Value):(eqGuard op t x y (.agg xs) (.agg ys)).run P w = .ok () w:=by
 unfold eqGuard
 cases op<;>simp[hgd,program,Sem.run]
theorem Wj(hx:ev n s x = .agg #[.int k a0,.int k a1,.int k a2,.int k a3])(hy:ev n s y = .agg #[.int k b0,.int k b1,.int k b2,.int k b3])(ht:P.underlying t=some (.array 4 e))(he:P.underlying e=some (.int k))(hi:TI P e 1 by_ z)
 (hgd:P.eqGuardType P.depth t=false) (hc:(!decide ([a0,a1,a2,a3]=[b0,b1,b2,b3]))=c) :
 (execOp (ev n s) ⟨dd,.binOp .neq t x y t', ty,pos,af,g⟩).run P w = .ok (.value (.bool c)) w:=by
 subst hc
 have h:=SE (P:=P) (w:=w) ht he hi a0 a1 a2 a3 b0 b1 b2 b3
 simp only[execOp,hx,hy,zj,run_eqGuard_agg .neq hgd,ze]
 simp only[binOp,zj,h,ze,zm]
theorem U3{a b:Bool}(hx:ev n s x = .bool a)(hy:ev n s y = .bool b)(ht:P.underlying t=some .bool)(hc:(!(a==b))=c) :
 (execOp (ev n s) ⟨dd,.binOp .neq t x y t', ty,pos,af,g⟩).run P w = .ok (.value (.bool c)) w:=by
 subst hc
 have h1:(Op.equal t (.bool a) (.bool b)).run P w = .ok (a==b) w:=KY 9999 ht a b
 have h2:(eqGuard .neq t x y (.bool a) (.bool b)).run P w = .ok () w:=rfl
 simp only[execOp,hx,hy,zj,h2,ze]
 simp only[binOp,zj,h1,ze,zm]
theorem DS{a b:Bool}(hg:gB ops n s g=true)(hx:ev n s x = .bool a)(hy:ev n s y = .bool b)(ht:P.underlying t=some .bool)(hc:(!(a==b))=c)(K:WL r P ops Q rest (Fr n ((d,.bool c) :: s) ds) w) :
 WL r P ops Q (⟨some d,.binOp .neq t x y t', ty,pos,af,g⟩ :: rest) (Fr n s ds) w:=pv hg rfl (U3 hx hy ht hc) K
theorem Vu{a b:Bool}(hx:ev n s x = .bool a)(hy:ev n s y = .bool b)(ht:P.underlying t=some .bool)(hc:(a==b)=c) :
 (execOp (ev n s) ⟨dd,.binOp .eql t x y t', ty,pos,af,g⟩).run P w = .ok (.value (.bool c)) w:=by
 subst hc
 have h1:(Op.equal t (.bool a) (.bool b)).run P w = .ok (a==b) w:=KY 9999 ht a b
 have h2:(eqGuard .eql t x y (.bool a) (.bool b)).run P w = .ok () w:=rfl
 simp only[execOp,hx,hy,zj,h2,ze]
 simp only[binOp,zj,h1,ze,zm]
theorem DK{a b:Bool}(hg:gB ops n s g=true)(hx:ev n s x = .bool a)(hy:ev n s y = .bool b)(ht:P.underlying t=some .bool)(hc:(a==b)=c)(K:WL r P ops Q rest (Fr n ((d,.bool c) :: s) ds) w) :
 WL r P ops Q (⟨some d,.binOp .eql t x y t', ty,pos,af,g⟩ :: rest) (Fr n s ds) w:=pv hg rfl (Vu hx hy ht hc) K
theorem ZK(hg:gB ops n s g=true)(hx:ev n s x = .agg #[.int k a0,.int k a1,.int k a2,.int k a3])(hy:ev n s y = .agg #[.int k b0,.int k b1,.int k b2,.int k b3])(ht:P.underlying t=some (.array 4 e))(he:P.underlying e=some (.int k))(hi:TI P e 1 by_ z)
 (hgd:P.eqGuardType P.depth t=false) (hc:(!decide ([a0,a1,a2,a3]=[b0,b1,b2,b3]))=c) (K:WL r P ops Q rest (Fr n ((d,.bool c) :: s) ds) w) :
 WL r P ops Q (⟨some d,.binOp .neq t x y t', ty,pos,af,g⟩ :: rest) (Fr n s ds) w:=pv hg rfl (Wj hx hy ht he hi hgd hc) K
end
section
variable {w w' : World} {bs:List (World×List Nat)} {L:List gi} {b:Nat} {T:TypeId} {cs:List Value}
theorem St.HZ{w0:World}(h:St bs L w)(hb:(w0,[])∈bs)(h0:(blk b T cs).holds w0){o:Nat}{u:Value}(hv:cs[o]? = some u):w.cell? ⟨b,o,none⟩=some u:=h.Ph hb (Hf h0 hv) rF
theorem St.YI(h:St bs L w)(hc:gD [] w w')(hn:w.heap.size<=b)(hb:(blk b T cs).holds w'):St bs (blk b T cs :: L) w' :=
 h.qX hc (fun x hx=>by simp[blk]at hx;omega) (by simp[blk]) (fun x hx=>by
  simp only[blk,lY]at hx
  subst hx
  exact(z8.1 (show w'.heap[x]? = _ from hb)).1) hb
end
end Go.Sx
namespace Go.Sx
open Go
abbrev jx{α:Type}(sz:Nat)(cf:α->List Value)(ok:Nat->Prop)(w:World)(v:Value)(xs:List α):Prop:=Sl sz (fun _ x vs=>vs=cf x) ok w v xs
def j7(sz:Nat)(v:Value)(i off:Nat):Value:=match v with
 | .slice (some ⟨b,o,_⟩) _ _=>.pointer (some ⟨b,o+i*sz+off,none⟩)
 | _=>.pointer none
theorem TB(sz:Nat)(v:Value)(i:Nat):j7 sz v i 0=QE sz v i:=by
 cases v with
 | slice a m c=>cases a<;>rfl
 | _=>rfl
abbrev fV{α:Type}(cf:α->List Value)(v:Value)(e:TypeId)(sz:Nat)(ys:List α):gi:=row v e sz ys.length (ys.flatMap cf)
theorem qg {α:Type}{l:List α}{k:Nat}(h:k<l.length):∃ y,l[k]? = some y:=⟨l[k],zk h⟩
section
variable {α:Type} {sz:Nat} {cf:α->List Value} {ok ok' : Nat->Prop} {w w' w0:World} {v:Value} {xs:List α} {bs:List (World×List Nat)} {L:List gi}
theorem jx.to(h:jx sz cf ok w v xs)(hp:0<sz)(hk:∀ b,ok b->b<w.heap.size->w'.heap[b]? = w.heap[b]?):jx sz cf ok w' v xs:=Sl.to h hk (fun _ _ _ h=>h) hp
theorem St.aaM{X:List Nat}(h:St bs L w)(hb:(w0,X)∈bs)(hp:0<sz)(hI:jx sz cf ok w0 v xs)(hok:∀ b,ok b->b∉X):jx sz cf ok w v xs:=jx.to hI hp fun b hb' hlt=>h.keep hb hlt (hok b hb')
theorem St.Oz(h:St bs L w)(hb:(w0,[])∈bs)(hp:0<sz)(hI:jx sz cf ok w0 v xs):jx sz cf ok w v xs:=h.aaM hb hp hI fun _ _=>rF
theorem jx.place{k:Nat}{c:α}(h:jx sz cf ok w v xs)(hk:xs[k]? = some c):∃ b o m cp,v = .slice (some ⟨b,o,none⟩) m cp/\k<m/\ok b/\(cf c).length=sz/\∀ j u,(cf c)[j]? = some u->w.cell? ⟨b,o+k*sz+j,none⟩=some u:=by
 have hlt:=(zd.1 hk).1
 obtain⟨a,cp,rfl,h1,h2,h3⟩:=h
 obtain⟨b,o,vs,rfl,hb,hl,rfl,hc⟩:=h3 k c hk
 exact⟨b,o,_,cp,rfl,hlt,hb,hl,hc⟩
theorem vT(hl:∀ x:α,(cf x).length=sz):∀ (xs:List α) (k j:Nat) (x:α) (u:Value),xs[k]? = some x->(cf x)[j]? = some u->(xs.flatMap cf)[k*sz+j]? = some u:=by
 intro xs
 induction xs with
 | nil=>intro k j x u h;simp at h
 | cons x0 xs ih =>
  intro k j x u hk hj
  rw[kO]
  cases k with
  | zero =>
   simp at hk
   subst hk
   have hlt:j<(cf x0).length:=(zd.1 hj).1
   rw[sS o_]
   simpa using hj
  | succ k =>
   have:=ih k j x u (by simpa using hk) hj
   rw[u9 (by rw[hl,nw];omega),hl,show (k+1)*sz+j-sz=k*sz+j by rw[nw];omega]
   exact this
theorem St.MZ{i:Nat}{e:TypeId}(h:St bs L w)(hi:L[i]? = some (fV cf v e sz xs))(hl:∀ x:α,(cf x).length=sz):jx sz cf (fun b=>v.ownBlock=some b) w v xs:=by
 have hown:w.ownsRow 0 e sz v xs.length (xs.flatMap cf):=h.own _ (zh hi)
 rcases hown.2 with ⟨rfl,h0⟩|⟨g', cap,cur,rfl,_,hg,h1,h2,_⟩
 . have:xs=[]:=vg h0
   subst this
   exact Sl.nil _ _ _ _
 . refine⟨_,cap,rfl,h1,h2,fun j y hj=>⟨g', 0,cf y,rfl,rfl,hl y,rfl,fun q u hq=>?_⟩⟩
   have:=hown.cells (g:=g') rfl (j*sz+q) u (vT hl xs j q y u hj hq)
   rw[Addr.add_lit]at this
   simpa[j4]using this
theorem jx.src(h:jx sz cf ok w v xs)(hl:∀ x:α,(cf x).length=sz):Src w v sz xs.length (xs.flatMap cf):=by
 obtain⟨a,cp,rfl,h1,h2,h3⟩:=h
 have hlen:(xs.flatMap cf).length=xs.length*sz:=by
  clear h1 h2 h3
  induction xs with
  | nil=>simp
  | cons x xs ih=>rw[kO,zw,hl,ih,zp,nw];omega
 refine⟨a,cp,rfl,hlen,fun j u hj=>?_⟩
 have hj' := (zd.1 hj).1
 rw[hlen]at hj'
 have hsz:0<sz:=by
  rcases vt sz with h0|h0
  . subst h0;omega
  . exact h0
 have hk:j / sz<xs.length:=(Jy hsz).2 hj'
 obtain⟨x,hx⟩:=qg hk
 obtain⟨b,o,vs,rfl,_,_,rfl,hc⟩:=h3 _ x hx
 refine⟨_,rfl,?_⟩
 have hm:j%sz<(cf x).length:=by rw[hl];exact tZ _ hsz
 obtain⟨u', hu'⟩:=qg hm
 have h4:=vT hl xs _ _ x u' hx hu'
 rw[Aq]at h4
 rw[hj]at h4
 cases h4
 have h5:=hc _ u hu'
 rw[Addr.add_lit,<-Aq j sz]
 rw[Aq,show o+j=o+j / sz*sz+j%sz by have:=Aq j sz;omega]
 exact h5
end
section
variable {α:Type} {cf:α->List Value} {ok:Nat->Prop} {ys zs:List α} {k:Nat} {c:α} {off off' : Nat}
variable {r:Option Nat} {P:Program} {ops:Array Oper} {Q:Exit->Act->World->Prop} {rest:List Oper} {n:Nat} {s:List (Nat×Value)} {ds:List Deferred} {w w0:World}
variable {d:Nat} {dd:Option Nat} {ty:TypeId} {pos:String} {af:Array Edge} {g:Option (Nat×Bool)} {v u:Value} {x y:Operand} {bs:List (World×List Nat)} {L L' : List gi} {t e T:TypeId} {sz by_ m cnt szf byf:Nat} {z zf:Value} {i:Int} {k' : IntKind} {ud:TypeDesc} {fields:Array Field} {f:Field} {j:Nat}
theorem jU(hx:ev n s x=v)(hy:ev n s y = .int k' i)(ht:P.underlying t=some (.slice e))(hi:TI P e sz by_ z)(hI:jx sz cf ok w0 v ys)(h0:0<=i)(hk:i.toNat=k)(hel:ys[k]? = some c) :
 (execOp (ev n s) ⟨dd,.indexAddr t x y,ty,pos,af,g⟩).run P w = .ok (.value (j7 sz v k 0)) w:=by
 subst hk
 rw[TB]
 exact aaj hx hy ht hi hI h0 hel
theorem jj(hg:gB ops n s g=true)(hx:ev n s x=v)(hy:ev n s y = .int k' i)(ht:P.underlying t=some (.slice e))(hi:TI P e sz by_ z)(hI:jx sz cf ok w0 v ys)(h0:0<=i)(hk:i.toNat=k)(hel:ys[k]? = some c)
 (K:WL r P ops Q rest (Fr n ((d,j7 sz v k 0) :: s) ds) w):WL r P ops Q (⟨some d,.indexAddr t x y,ty,pos,af,g⟩ :: rest) (Fr n s ds) w:=pv hg rfl (jU hx hy ht hi hI h0 hk hel) K
theorem qu(hx:ev n s x=j7 sz v k off)(hT:P.underlying T=some (.struct fields))(hf:fields[j]? = some f)(ht:TI P f.type (szf+1) byf zf)(ho:off+f.offset=off')(hI:jx sz cf ok w0 v ys)(hel:ys[k]? = some c) :
 (execOp (ev n s) ⟨dd,.fieldAddr T x j,ty,pos,af,g⟩).run P w = .ok (.value (j7 sz v k off')) w:=by
 obtain⟨b,o,m,cp,rfl,_⟩:=hI.place hel
 subst ho
 exact jL hx hT hf ht (by simp only[j4])
theorem vH(hg:gB ops n s g=true)(hx:ev n s x=j7 sz v k off)(hT:P.underlying T=some (.struct fields))(hf:fields[j]? = some f)(ht:TI P f.type (szf+1) byf zf)(ho:off+f.offset=off')(hI:jx sz cf ok w0 v ys)(hel:ys[k]? = some c)
 (K:WL r P ops Q rest (Fr n ((d,j7 sz v k off') :: s) ds) w):WL r P ops Q (⟨some d,.fieldAddr T x j,ty,pos,af,g⟩ :: rest) (Fr n s ds) w:=pv hg rfl (qu hx hT hf ht ho hI hel) K
theorem mA(hx:ev n s x=j7 sz v k off)(hu:P.underlying t=some ud)(hn:kQ ud=false)(hI:jx sz cf ok w v ys)(hel:ys[k]? = some c)(hc:(cf c)[off]? = some u) :
 (execOp (ev n s) ⟨dd,.load t x,ty,pos,af,g⟩).run P w = .ok (.value u) w:=by
 obtain⟨b,o,m,cp,rfl,_,_,_,h3⟩:=hI.place hel
 exact gZ hx hu hn (h3 off u hc)
theorem kE(hg:gB ops n s g=true)(hx:ev n s x=j7 sz v k off)(hu:P.underlying t=some ud)(hn:kQ ud=false)(hI:jx sz cf ok w v ys)(hel:ys[k]? = some c)(hc:(cf c)[off]? = some u)
 (K:WL r P ops Q rest (Fr n ((d,u) :: s) ds) w):WL r P ops Q (⟨some d,.load t x,ty,pos,af,g⟩ :: rest) (Fr n s ds) w:=pv hg rfl (mA hx hu hn hI hel hc) K
theorem lK{cs:List Value}{sz' : Nat}(hx:ev n s x=j7 sz v k off)(hu:P.underlying t=some ud)(hn:kQ ud=true)(ht:TI P t sz' by_ z)(hI:jx sz cf ok w v ys)(hel:ys[k]? = some c)(hl:cs.length=sz')(hc:((cf c).drop off).take cs.length=cs) :
 (execOp (ev n s) ⟨dd,.load t x,ty,pos,af,g⟩).run P w = .ok (.value (.agg cs.toArray)) w:=by
 obtain⟨b,o,m,cp,rfl,_,_,_,h3⟩:=hI.place hel
 refine uF (b:=b) (o:=o+k*sz+off) hx hu hn ht hl fun j u hj=>?_
 rw[<-hc,pZ]at hj
 split at hj
 . rw[zV]at hj
   have:=h3 (off+j) u hj
   rw[j4]
   simpa[j4]using this
 . cases hj
theorem By{cs:List Value}{sz' : Nat}(hg:gB ops n s g=true)(hx:ev n s x=j7 sz v k off)(hu:P.underlying t=some ud)(hn:kQ ud=true)(ht:TI P t sz' by_ z)(hI:jx sz cf ok w v ys)(hel:ys[k]? = some c)(hl:cs.length=sz')(hc:((cf c).drop off).take cs.length=cs)
 (K:WL r P ops Q rest (Fr n ((d,.agg cs.toArray) :: s) ds) w):WL r P ops Q (⟨some d,.load t x,ty,pos,af,g⟩ :: rest) (Fr n s ds) w:=pv hg rfl (lK hx hu hn ht hI hel hl hc) K
theorem slV{enc:World->α->List Value->Prop}{low high:Option Operand}{l h:Nat}(hg:gB ops n s g=true)(hx:ev n s x=v)(ht:P.underlying t=some (.slice e))(hi:TI P e sz by_ z)
 (hI:Sl sz enc ok w0 v ys) (hlo:match low with|none=>l=0|some p=>∃ k,ev n s p = .int k (l:Int)) (hhi:match high with|none=>h=ys.length|some p=>∃ k,ev n s p = .int k (h:Int)) (hlh:l<=h) (hh:h<=ys.length)
 (K:WL r P ops Q rest (Fr n ((d,Go.Sx.mR sz v l h) :: s) ds) w):WL r P ops Q (⟨some d,.slice t x low high none,ty,pos,af,g⟩ :: rest) (Fr n s ds) w:=pv hg rfl (aaf hx ht hi hI hlo hhi hlh hh) K
theorem ri{LL:Value->List gi}(i:Nat)(hg:gB ops n s g=true)(hx:ev n s x=v)(hy:ev n s y=u)(ht:P.underlying t=some (.slice e))(hi:TI P e sz by_ z)(hzs:z.cells.size=sz)(hsz:0<sz)
 (hst:St bs L w) (hL:L[i]? = some (fV cf v e sz ys)) (hs:Src w u sz zs.length (zs.flatMap cf)) (h1:∀ x∈zs.flatMap cf,x.oneCell' = true) (hb:(ys.length+zs.length)*by_<=140737488355328) (h63:ys.length+zs.length<=9223372036854775807)
 (hLL:∀ v', L.set i (fV cf v' e sz (ys++zs))=LL v')
 (K:∀ v' w', St bs (LL v') w' -> gD v.ownBlock.toList w w' -> WL r P ops Q rest (Fr n ((d,v') :: s) ds) w') :
 WL r P ops Q (⟨some d,.call ⟨.builtin .append,#[x,y],#[t,t]⟩,ty,pos,af,g⟩ :: rest) (Fr n s ds) w:=by
 refine Ra i hg hx hy ht hi hzs hsz hst hL hs h1 hb (by simp only[maxLen];omega) fun v' w' h1 h2=>K v' w' ?_ h2
 rw[<-hLL]
 simpa[fV]using h1
end
structure qt {α:Type} (sz:Nat) (cf:α->List Value) (w:World) (w' : World) (r:Value) (e:TypeId) (zs:List α):Prop where
 own:w'.ownsRow 0 e sz r zs.length (zs.flatMap cf)
 place:∀ b,r.ownBlock=some b->w.heap.size<=b
section
variable {α:Type} {sz:Nat} {cf:α->List Value} {w w' w0:World} {r:Value} {zs:List α} {bs:List (World×List Nat)} {L:List gi} {e:TypeId}
theorem St.C2(h:St bs (fV cf r e sz zs :: L) w)(hb:(w0,[])∈bs):qt sz cf w0 w r e zs:=by
 have hB:=h.base _ hb
 refine⟨h.own (fV cf r e sz zs) s_,fun b hb' => ?_⟩
 rcases hB.mine b (by rw[nN];simp[row,hb'])with h1|h1
 . simp at h1
 . exact h1
theorem St.TC(h:St bs L w)(hc:gD [] w w')(hf:qt sz cf w w' r e zs):St bs (fV cf r e sz zs :: L) w' :=
 h.qX hc (fun b hb=>hf.place b (by simpa[row]using hb)) (by show r.ownBlock.toList.Nodup;cases r.ownBlock<;>simp) (fun b hb=>FH hf.own (by simpa[row]using hb)) hf.own
end
end Go.Sx
namespace Go.Sx
open Go
section
variable {α:Type} [Inhabited α] {xs:List α} {k j:Nat} {f:α->α} {x:α}
def fM(xs:List α)(k:Nat):α:=(xs[k]?).getD default
def fR(xs:List α)(k:Nat)(f:α->α):List α:=xs.set k (f (fM xs k))
theorem gy(h:k<xs.length):xs[k]? = some (fM xs k):=by
 obtain⟨y,hy⟩:=qg h
 simp[fM,hy]
theorem od(h:xs[k]? = some x):fM xs k=x:=by simp[fM,h]
theorem gM:(fR xs k f).length=xs.length:=by simp[fR]
theorem kr(h:k<xs.length):fM (fR xs k f) k=f (fM xs k):=by simp[fM,fR,rN,h]
theorem kn(h:k≠j):fM (fR xs k f) j=fM xs j:=by simp[fM,fR,rN,h]
theorem j5(h:k<xs.length):fM (fR xs k f) j=if k=j then f (fM xs k)else fM xs j:=by
 split
 . rename_i e;subst e;exact kr h
 . rename_i e;exact kn e
end
section
variable {α:Type} {cf:α->List Value} {sz:Nat}
theorem qU(hl:∀ x:α,(cf x).length=sz)(xs:List α):(xs.flatMap cf).length=xs.length*sz:=by
 induction xs with
 | nil=>simp
 | cons x xs ih=>rw[kO,zw,hl,ih,zp,nw];omega
theorem Rk{a b vs:List Value}{o:Nat}:setAt (a++b) (a.length+o) vs=a++setAt b o vs:=by
 unfold setAt
 rw[Ao,B5]
 simp only[JQ,mT]
 rw[rE o_,show a.length+o+vs.length-a.length=o+vs.length by omega,Fi o_,rK]
theorem Kk{a b vs:List Value}{o:Nat}(h:o+vs.length<=a.length):setAt (a++b) o vs=setAt a o vs++b:=by
 unfold setAt
 rw[Js o_,List.drop_append_of_le_length o_]
 simp only[mT]
theorem UO(hl:∀ x:α,(cf x).length=sz):∀ (xs:List α) (k off:Nat) (x x' : α) (vs:List Value),xs[k]? = some x->cf x' = setAt (cf x) off vs->off+vs.length<=sz->setAt (xs.flatMap cf) (k*sz+off) vs=(xs.set k x').flatMap cf:=by
 intro xs
 induction xs with
 | nil=>intro k off x x' vs h;simp at h
 | cons x0 xs ih =>
  intro k off x x' vs hk hx hv
  cases k with
  | zero =>
   simp at hk
   subst hk
   rw[List.set_cons_zero,kO,kO,Nat.zero_mul,jN,Kk (by rw[hl];exact hv),hx]
  | succ k =>
   rw[List.set_cons_succ,kO,kO,show (k+1)*sz+off=(cf x0).length+(k*sz+off) by rw[hl,nw];omega,Rk]
   rw[ih k off x x' vs (by simpa using hk) hx hv]
end
section
variable {α:Type} [Inhabited α] {cf:α->List Value} {sz:Nat} {w:World} {bs:List (World×List Nat)} {L:List gi} {xs:List α} {b i k off:Nat} {T:TypeId} {v:Value} {vs:List Value} {f:α->α}
theorem St.HA(h:St bs L w)(hi:L[i]? = some (blk b T (xs.flatMap cf)))(hl:∀ x:α,(cf x).length=sz)(hk:k<xs.length)(hc:(cf (fM xs k))[off]? = some v):w.cell? ⟨b,k*sz+off,none⟩=some v :=
 h.xI hi (vT hl xs k off _ v (gy hk) hc)
theorem St.Mb(h:St bs L w)(hi:L[i]? = some (blk b T (xs.flatMap cf)))(hl:∀ x:α,(cf x).length=sz)(hk:k<xs.length)(hc:((cf (fM xs k)).drop off).take vs.length=vs):∀ j u,vs[j]? = some u->w.cell? ⟨b,k*sz+off+j,none⟩=some u:=by
 intro j u hj
 rw[<-hc,pZ]at hj
 split at hj
 . rw[zV]at hj
   rw[j4]
   exact h.HA hi hl hk hj
 . cases hj
theorem jG(hl:∀ x:α,(cf x).length=sz)(hk:k<xs.length)(hx:cf (f (fM xs k))=setAt (cf (fM xs k)) off vs)(hv:off+vs.length<=sz):setAt (xs.flatMap cf) (k*sz+off) vs=(fR xs k f).flatMap cf :=
 UO hl xs k off _ _ vs (gy hk) hx hv
theorem jF(hl:∀ x:α,(cf x).length=sz)(hk:k<xs.length){n:Nat}(hv:off+n<=sz):k*sz+off+n<=(xs.flatMap cf).length:=by
 rw[qU hl]
 have:(k+1)*sz<=xs.length*sz:=uZ _ hk
 rw[nw]at this
 omega
end
end Go.Sx
namespace Go.Sx
open Go
section
variable {α:Type} [Inhabited α] {cf:α->List Value} {sz:Nat} {w w0:World} {bs:List (World×List Nat)} {L:List gi} {xs:List α} {b k off:Nat} {T:TypeId} {v:Value} {vs:List Value}
theorem St.D5(h:St bs L w)(hb:(w0,[])∈bs)(h0:(blk b T (xs.flatMap cf)).holds w0)(hl:∀ x:α,(cf x).length=sz)(hk:k<xs.length)(hc:(cf (fM xs k))[off]? = some v):w.cell? ⟨b,k*sz+off,none⟩=some v :=
 h.HZ hb h0 (vT hl xs k off _ v (gy hk) hc)
theorem St.Yj(h:St bs L w)(hb:(w0,[])∈bs)(h0:(blk b T (xs.flatMap cf)).holds w0)(hl:∀ x:α,(cf x).length=sz)(hk:k<xs.length)(hc:((cf (fM xs k)).drop off).take vs.length=vs):∀ j u,vs[j]? = some u->w.cell? ⟨b,k*sz+off+j,none⟩=some u:=by
 intro j u hj
 rw[<-hc,pZ]at hj
 split at hj
 . rw[zV]at hj
   rw[j4]
   exact h.D5 hb h0 hl hk hj
 . cases hj
end
end Go.Sx
namespace Go.Sx
open Go
section
variable {r:Option Nat} {P:Program} {ops:Array Oper} {Q:Exit->Act->World->Prop} {rest:List Oper} {n:Nat} {s:List (Nat×Value)} {ds:List Deferred} {w:World}
variable {d:Nat} {dd:Option Nat} {ty t e:TypeId} {pos:String} {af:Array Edge} {g:Option (Nat×Bool)} {x y:Operand} {cs:Array Value} {k:IntKind} {i:Int} {len by_:Nat} {u:TypeDesc} {v z:Value}
theorem UI(hx:ev n s x = .agg cs)(hy:ev n s y = .int k i)(ht:P.underlying t=some (.array len e))(he:P.underlying e=some u)(hn:kQ u=false)(hi:TI P e 1 by_ z)(h0:0<=i/\i<(len:Int))(hv:cs[i.toNat]? = some v) :
 (execOp (ev n s) ⟨dd,.index t x y,ty,pos,af,g⟩).run P w = .ok (.value v) w:=by
 simp[execOp,hx,hy,Instr.index,asIntOf,run_underlying ht,h0,hi.size,part,qf he,hn,hv]
theorem mF(hg:gB ops n s g=true)(hx:ev n s x = .agg cs)(hy:ev n s y = .int k i)(ht:P.underlying t=some (.array len e))(he:P.underlying e=some u)(hn:kQ u=false)(hi:TI P e 1 by_ z)(h0:0<=i/\i<(len:Int))(hv:cs[i.toNat]? = some v)
 (K:WL r P ops Q rest (Fr n ((d,v) :: s) ds) w):WL r P ops Q (⟨some d,.index t x y,ty,pos,af,g⟩ :: rest) (Fr n s ds) w:=pv hg rfl (UI hx hy ht he hn hi h0 hv) K
end
end Go.Sx
namespace Go.Sx
open Go
section
variable {α:Type} {cf:α->List Value} {sz:Nat} {w:World} {bs:List (World×List Nat)} {L:List gi} {ys:List α} {b i:Nat} {v:Value} {e:TypeId}
theorem St.Tj(h:St bs L w)(hi:L[i]? = some (fV cf v e sz ys))(hn:0<ys.length) :
 ∃ b cap ex,v = .slice (some ⟨b,0,none⟩) ys.length cap/\ys.length<=cap/\cap<=maxLen/\(ys.flatMap cf++ex).length=cap*sz/\St bs (L.set i (blk b e (ys.flatMap cf++ex))) w:=by
 have hown:w.ownsRow 0 e sz v ys.length (ys.flatMap cf):=h.own _ (zh hi)
 rcases hown.2 with ⟨_,h0⟩|⟨g', cap,cur,rfl,_,hg,h1,h2,h3,h4⟩
 . omega
 . have e1:cur.toList=ys.flatMap cf++cur.toList.drop (ys.length*sz):=by
    rw[<-h4,vk]
   refine⟨g', cap,cur.toList.drop (ys.length*sz),rfl,h1,h2,by rw[<-e1];simpa using h3,?_⟩
   refine h.iE hi (gD.refl _ _) (fun x hx=>.inl (by simpa[row,Value.ownBlock,blk]using hx)) (by simp[blk]) (fun x hx=>?_) ?_
   . simp[blk]at hx
     subst hx
     exact(z8.1 hg).1
   . show w.heap[g']? = some (.cells (ys.flatMap cf++cur.toList.drop (ys.length*sz)).toArray e (0,0))
     rw[<-e1]
     simpa using hg
theorem St.LC{ex:List Value}{cap:Nat}(h:St bs L w)(hi:L[i]? = some (blk b e (ys.flatMap cf++ex)))(hl:∀ x:α,(cf x).length=sz)(hc:ys.length<=cap)(hm:cap<=maxLen)(hlen:(ys.flatMap cf++ex).length=cap*sz) :
 St bs (L.set i (fV cf (.slice (some ⟨b,0,none⟩) ys.length cap) e sz ys)) w:=by
 have:=h.Pj hi hlen hc hm
 have e2:(ys.flatMap cf).length=ys.length*sz:=qU hl ys
 rw[<-e2,List.take_left]at this
 exact this
theorem St.Xd{m:Nat}(h:St bs L w)(hi:L[i]? = some (fV cf v e sz ys))(hl:∀ x:α,(cf x).length=sz)(hm:m<=ys.length):St bs (L.set i (fV cf (mR sz v 0 m) e sz (ys.take m))) w:=by
 have hown:w.ownsRow 0 e sz v ys.length (ys.flatMap cf):=h.own _ (zh hi)
 have hlt:(ys.take m).length=m:=by rw[kD];omega
 have hfl:(ys.take m).flatMap cf=(ys.flatMap cf).take (m*sz):=by
  have e1:ys.flatMap cf=(ys.take m).flatMap cf++(ys.drop m).flatMap cf:=by rw[<-List.flatMap_append,vk]
  have e2:((ys.take m).flatMap cf).length=m*sz:=by rw[qU hl,hlt]
  rw[e1,<-e2,List.take_left]
 rcases hown.2 with ⟨rfl,h0⟩|⟨g', cap,cur,rfl,_,hg,h1,h2,h3,h4⟩
 . have h9:m=0:=by omega
   subst h9
   refine h.iE hi (gD.refl _ _) (fun x hx=>.inl (by simp[row,Value.ownBlock,mR]at hx)) (by simp[row,Value.ownBlock,mR]) (fun x hx=>by simp[row,Value.ownBlock,mR]at hx) ?_
   exact⟨s_,.inl ⟨by simp[mR],s_⟩⟩
 . have hv:mR sz (.slice (some ⟨g', 0,none⟩) ys.length cap) 0 m = .slice (some ⟨g', 0,none⟩) m cap:=by
    simp only[mR,wS,Nat.zero_mul,nu,Addr.add_lit,mL]
    split<;>rfl
   rw[hv]
   refine h.iE hi (gD.refl _ _) (fun x hx=>.inl (by simpa[row,Value.ownBlock]using hx)) (by simp[row,Value.ownBlock]) (fun x hx=>?_) ?_
   . simp[row,Value.ownBlock]at hx
     subst hx
     exact(z8.1 hg).1
   . refine⟨by rw[qU hl],.inr ⟨g', cap,cur,by rw[hlt],mS _,hg,by rw[hlt];omega,h2,h3,?_⟩⟩
     rw[hlt,hfl,<-h4,List.take_take,zW (uZ _ hm)]
end
section
variable {α:Type} [Inhabited α] {cf:α->List Value} {sz:Nat} {w:World} {bs:List (World×List Nat)} {L L' : List gi} {ys:List α} {b i k off:Nat} {v u:Value} {e:TypeId} {vs:List Value} {f:α->α}
variable {r:Option Nat} {P:Program} {ops:Array Oper} {Q:Exit->Act->World->Prop} {rest l:List Oper} {n:Nat} {s s0:List (Nat×Value)} {ds:List Deferred} {Nx:Value->World->Prop}
variable {d:Nat} {dd:Option Nat} {ty t:TypeId} {pos:String} {af:Array Edge} {g:Option (Nat×Bool)} {x y:Operand} {szt by_:Nat} {z:Value}
theorem NZ(i:Nat)(hx:ev n s x=j7 sz v k off)(hy:ev n s y=u)(hvs:u.cells.toList=vs)(ht:TI P t szt by_ z)(hsz:vs.length=szt)(h1:vs.all (·.oneCell')=true)(hst:St bs L w)(hi:L[i]? = some (fV cf v e sz ys))(hl:∀ x:α,(cf x).length=sz)(hk:k<ys.length)(hoff:Nat.ble (off+vs.length) sz=true)
 (hf:cf (f (fM ys k))=setAt (cf (fM ys k)) off vs) (hL:L.set i (fV cf v e sz (fR ys k f))=L') :
 ∃ w', (execOp (ev n s) ⟨dd,.store t x y,ty,pos,af,g⟩).run P w = .ok .skip w' /\ St bs L' w' := by
 have hoff:=za hoff
 have hil:=(zd.1 hi).1
 obtain⟨b,cap,ex,rfl,hc,hm,hlen,hs⟩:=hst.Tj hi o_
 have hx' : ev n s x = .pointer (some ⟨b,k*sz+off,none⟩):=by rw[hx];simp[j7]
 have hfit:=jF hl hk (n:=vs.length) hoff
 have hb:(L.set i (blk b e (ys.flatMap cf++ex)))[i]? = some (blk b e (ys.flatMap cf++ex)):=by simp[hil]
 obtain⟨w', hr,hs', _⟩:=I4 (dd:=dd) (ty:=ty) (pos:=pos) (af:=af) (g:=g) (cs' := (fR ys k f).flatMap cf++ex) i hx' hy hvs ht hsz h1 hs hb (by rw[zw];omega) (by rw[Kk hfit,jG hl hk hf hoff]) rfl
 refine⟨w', hr,?_⟩
 have hlen' : ((fR ys k f).flatMap cf++ex).length=cap*sz:=by rw[<-hlen,zw,zw,qU hl,qU hl,gM]
 have:=hs'.LC (ys:=fR ys k f) (ex:=ex) (cap:=cap) (i:=i) (b:=b) (e:=e) (by simp[hil]) hl (by rw[gM];exact hc) hm hlen'
 subst hL
 simpa[gM]using this
theorem sy(i:Nat)(hg:gB ops n s g=true)(hx:ev n s x=j7 sz v k off)(hy:ev n s y=u)(hvs:u.cells.toList=vs)(ht:TI P t szt by_ z)(hsz:vs.length=szt)(h1:vs.all (·.oneCell')=true)(hst:St bs L w)(hi:L[i]? = some (fV cf v e sz ys))(hl:∀ x:α,(cf x).length=sz)(hk:k<ys.length)(hoff:Nat.ble (off+vs.length) sz=true)
 (hf:cf (f (fM ys k))=setAt (cf (fM ys k)) off vs) (hL:L.set i (fV cf v e sz (fR ys k f))=L')
 (K:∀ w', St bs L' w' -> WL r P ops Q rest (Fr n s ds) w'):WL r P ops Q (⟨none,.store t x y,ty,pos,af,g⟩ :: rest) (Fr n s ds) w:=by
 obtain⟨w', h2,h3⟩:=NZ (dd:=none) (ty:=ty) (pos:=pos) (af:=af) (g:=g) i hx hy hvs ht hsz h1 hst hi hl hk hoff hf hL
 exact xJ hg rfl h2 (K w' h3)
theorem v8(i:Nat)(hg:gB ops n s g=true)(hx:ev n s x=j7 sz v k off)(hy:ev n s y=u)(hvs:u.cells.toList=vs)(ht:TI P t szt by_ z)(hsz:vs.length=szt)(h1:vs.all (·.oneCell')=true)(hst:St bs L w)(hi:L[i]? = some (fV cf v e sz ys))(hl:∀ x:α,(cf x).length=sz)(hk:k<ys.length)(hoff:Nat.ble (off+vs.length) sz=true)
 (hf:cf (f (fM ys k))=setAt (cf (fM ys k)) off vs) (hL:L.set i (fV cf v e sz (fR ys k f))=L')
 (K:∀ w', St bs L' w' -> Nx undef w'):lG P ops Q n ds s0 l ⟨none,.store t x y,ty,pos,af,g⟩ s Nx w:=by
 obtain⟨w', h2,h3⟩:=NZ (dd:=none) (ty:=ty) (pos:=pos) (af:=af) (g:=g) i hx hy hvs ht hsz h1 hst hi hl hk hoff hf hL
 exact JY hg rfl h2 (K w' h3)
end
section
variable {α:Type}
def gH(cf:α->List Value)(T:TypeId)(B:Nat)(ps:List (Option Nat))(xs:List α):gi where
 gU:=ps.filterMap id
 holds w:=∀ (j b:Nat),ps[j]? = some (some b)->w.heap[b]? = some (.cells (((xs.drop (B*j)).take B).flatMap cf).toArray T (0,0))
 loc w w' h hh j b hb:=by
  rw[h b (Cq.2 ⟨some b,zh hb,rfl⟩)]
  exact hh j b hb
def gP(p:Option Nat):List Value:=[.pointer (p.map fun b=>⟨b,0,none⟩)]
variable [Inhabited α] {cf:α->List Value} {sz B:Nat} {w:World} {bs:List (World×List Nat)} {L:List gi} {xs C:List α} {b i k off j:Nat} {v:Value} {T:TypeId} {vs:List Value} {f:α->α} {ps:List (Option Nat)}
theorem mem_some{ps:List (Option Nat)}{j b:Nat}(h:ps[j]? = some (some b)):b∈ps.filterMap id:=Cq.2 ⟨some b,zh h,rfl⟩
theorem GM(hB:0<B)(hk:k<xs.length):fM ((xs.drop (B*(k / B))).take B) (k%B)=fM xs k/\k%B<((xs.drop (B*(k / B))).take B).length:=by
 have h1:=tZ k hB
 have h2:=Nat.div_add_mod k B
 constructor
 . unfold fM
   rw[pZ,if_pos h1,zV,h2]
 . rw[kD,tU];omega
theorem St.Wm(h:St bs L w)(hi:L[i]? = some (gH cf T B ps xs))(hl:∀ x:α,(cf x).length=sz)(hB:0<B)(hk:k<xs.length)(hp:ps[k / B]? = some (some b))(hc:(cf (fM xs k))[off]? = some v):w.cell? ⟨b,k%B*sz+off,none⟩=some v:=by
 have hh:=h.own _ (zh hi) _ _ hp
 rw[cell_of_row w b _ _ T (0,0) hh]
 obtain⟨h1,h2⟩:=GM hB hk
 have:=vT hl _ (k%B) off _ v (gy h2) (by rw[h1];exact hc)
 simpa using this
theorem Rn(hB:0<B)(hk:k<xs.length):((fR xs k f).drop (B*(k / B))).take B=fR ((xs.drop (B*(k / B))).take B) (k%B) f:=by
 obtain⟨h1,h2⟩:=GM hB hk
 have h3:=tZ k hB
 have h4:=Nat.div_add_mod k B
 unfold fR
 rw[h1,List.drop_set,if_neg o_,List.take_set]
 congr 1
 omega
theorem RL(hB:0<B){j:Nat}(hj:j≠k / B):((fR xs k f).drop (B*j)).take B=(xs.drop (B*j)).take B:=by
 have h3:=tZ k hB
 have h4:=Nat.div_add_mod k B
 unfold fR
 rw[List.drop_set]
 split
 . rfl
 . rename_i hlt
   rw[List.take_set_of_le]
   rcases qa j (k / B)with h|h
   . have:B*(j+1)<=B*(k / B):=Cc _ h
     rw[zY]at this
     omega
   . have:B*(k / B+1)<=B*j:=Cc _ o_
     rw[zY]at this
     omega
end
section
variable {α:Type} [Inhabited α] {cf:α->List Value} {sz B:Nat} {w:World} {bs:List (World×List Nat)} {L L' : List gi} {xs C:List α} {b i k off j:Nat} {v u:Value} {T:TypeId} {vs:List Value} {f:α->α} {ps:List (Option Nat)}
variable {r:Option Nat} {P:Program} {ops:Array Oper} {Q:Exit->Act->World->Prop} {rest l:List Oper} {n:Nat} {s s0:List (Nat×Value)} {ds:List Deferred} {Nx:Value->World->Prop}
variable {d:Nat} {dd:Option Nat} {ty t:TypeId} {pos:String} {af:Array Edge} {g:Option (Nat×Bool)} {x y:Operand} {szt by_:Nat} {z:Value}
theorem XO(i:Nat)(hx:ev n s x = .pointer (some ⟨b,k%B*sz+off,none⟩))(hy:ev n s y=u)(hvs:u.cells.toList=vs)(ht:TI P t szt by_ z)(hsz:vs.length=szt)(h1:vs.all (·.oneCell')=true)(hst:St bs L w)(hi:L[i]? = some (gH cf T B ps xs))(hl:∀ x:α,(cf x).length=sz)(hB:0<B)(hk:k<xs.length)(hp:ps[k / B]? = some (some b))(hoff:Nat.ble (off+vs.length) sz=true)
 (hf:cf (f (fM xs k))=setAt (cf (fM xs k)) off vs) (hL:L.set i (gH cf T B ps (fR xs k f))=L') :
 ∃ w', (execOp (ev n s) ⟨dd,.store t x y,ty,pos,af,g⟩).run P w = .ok .skip w' /\ St bs L' w' := by
 have hoff:=za hoff
 obtain⟨c1,c2⟩:=GM (xs:=xs) hB hk
 have hown:=hst.own _ (zh hi)
 have hh:=hown _ _ hp
 obtain⟨ch,hch⟩:∃ ch,ch=(xs.drop (B*(k / B))).take B:=⟨_,rfl⟩
 rw[<-hch]at c1 c2 hh
 have hfit:=jF hl c2 (n:=vs.length) hoff
 have hrun:=run_storeCells_at P b (k%B*sz+off) T vs 0 (ch.flatMap cf).toArray w hh (by simpa using hfit) (by simpa using h1)
 have hlen:u.cells.size=szt:=by rw[<-hsz,<-hvs];simp
 have hset:setAt (ch.flatMap cf) (k%B*sz+off) vs=(fR ch (k%B) f).flatMap cf:=jG hl c2 (by rw[c1];exact hf) hoff
 have hfoot:∀ x∈(gH cf T B ps xs).gU,x<w.heap.size:=fun x hx=>hst.lt x (qd hi hx)
 have hnd:(ps.filterMap id).Nodup:=sublist_nodup' hst.sep (zh hi)
 refine⟨w.setRow b ((setAt (ch.flatMap cf) (k%B*sz+off) vs).toArray),?_,?_⟩
 . simp only[execOp,hx,hy,Instr.storeAt,Instr.sureAddr,storeVar,zj,zm,ze,ht.size,hlen,ne_eq,not_true,if_false,hvs]
   simp only[mL]at hrun
   simp[hrun,setAt]
 . subst hL
   refine hst.iE hi ((gD.setRow w b _).mono (fun x hx=>?_)) (fun c hc=>.inl hc) hnd (fun c hc=>?_) ?_
   . simp only[lY]at hx
     subst hx
     exact mem_some hp
   . have:=hfoot c hc
     simpa using this
   . intro q c hq
     by_cases hqk:q=k / B
     . subst hqk
       rw[hp]at hq
       cases hq
       rw[Rn hB hk,<-hch,<-hset]
       exact setRow_heap w b (ch.flatMap cf).toArray _ T (0,0) hh
     . rw[RL hB hqk]
       have hne:c≠b:=by
        intro e'
        subst e'
        exact hqk (some_inj hnd hq hp)
       have h8:(w.setRow b ((setAt (ch.flatMap cf) (k%B*sz+off) vs).toArray)).heap[c]? = w.heap[c]? := setRow_other w b c _ hne
       rw[h8]
       exact hown q c hq
where
 sublist_nodup' {L:List gi} {R:gi} (h:(iR L).Nodup) (hR:R∈L):R.gU.Nodup:=FF h hR
 some_inj {ps:List (Option Nat)} {b:Nat}:∀ {i j:Nat},(ps.filterMap id).Nodup->ps[i]? = some (some b)->ps[j]? = some (some b)->i=j:=by
  induction ps with
  | nil=>intro i j _ h;simp at h
  | cons p ps ih =>
   intro i j hn hi hj
   have hn' : (ps.filterMap id).Nodup:=by
    cases p with
    | none=>simpa using hn
    | some q=>rw[vj]at hn;exact(zy.1 hn).2
   have hnot:p=some b->b∉ps.filterMap id:=fun e' => by
    subst e'
    rw[vj]at hn
    exact(zy.1 hn).1
   cases i with
   | zero =>
    simp at hi
    cases j with
    | zero=>rfl
    | succ j=>exact absurd (mem_some (by simpa using hj)) (hnot hi)
   | succ i =>
    cases j with
    | zero =>
     simp at hj
     exact absurd (mem_some (by simpa using hi)) (hnot hj)
    | succ j=>exact congrArg (· + 1) (ih hn' (by simpa using hi) (by simpa using hj))
theorem pV(i:Nat)(hg:gB ops n s g=true)(hx:ev n s x = .pointer (some ⟨b,k%B*sz+off,none⟩))(hy:ev n s y=u)(hvs:u.cells.toList=vs)(ht:TI P t szt by_ z)(hsz:vs.length=szt)(h1:vs.all (·.oneCell')=true)(hst:St bs L w)(hi:L[i]? = some (gH cf T B ps xs))(hl:∀ x:α,(cf x).length=sz)(hB:0<B)(hk:k<xs.length)(hp:ps[k / B]? = some (some b))(hoff:Nat.ble (off+vs.length) sz=true)
 (hf:cf (f (fM xs k))=setAt (cf (fM xs k)) off vs) (hL:L.set i (gH cf T B ps (fR xs k f))=L')
 (K:∀ w', St bs L' w' -> WL r P ops Q rest (Fr n s ds) w'):WL r P ops Q (⟨none,.store t x y,ty,pos,af,g⟩ :: rest) (Fr n s ds) w:=by
 obtain⟨w', h2,h3⟩:=XO (dd:=none) (ty:=ty) (pos:=pos) (af:=af) (g:=g) i hx hy hvs ht hsz h1 hst hi hl hB hk hp hoff hf hL
 exact xJ hg rfl h2 (K w' h3)
end
section
variable {α:Type} {cf:α->List Value} {sz B:Nat} {w:World} {bs:List (World×List Nat)} {L:List gi} {xs C:List α} {b j:Nat} {T:TypeId} {ps:List (Option Nat)}
theorem St.OR{R R' R'' : gi}(h:St bs (R :: R' :: L) w)(hf:R''.gU.Perm (R.gU++R'.gU))(hh:R.holds w->R'.holds w->R''.holds w):St bs (R'' :: L) w:=by
 have hp:(iR (R'' :: L)).Perm (iR (R :: R' :: L)):=by
  rw[nN,nN,nN,<-mT]
  exact hf.append_right _
 refine⟨fun p hp' => ⟨(h.base p hp').gI,fun b hb=>(h.base p hp').mine b (hp.mem_iff.1 hb)⟩,fun Q hQ=>?_,hp.nodup_iff.2 h.sep,fun b hb=>h.lt b (hp.mem_iff.1 hb)⟩
 rcases zb.1 hQ with rfl|hQ
 . exact hh (h.own R s_) (h.own R' s_)
 . exact h.own Q (by simp[hQ])
theorem Ru{ps:List (Option Nat)}{b:Nat}:∀ {j:Nat},ps[j]? = some none->((ps.set j (some b)).filterMap id).Perm (b :: ps.filterMap id):=by
 induction ps with
 | nil=>intro j h;simp at h
 | cons p ps ih =>
  intro j h
  cases j with
  | zero =>
   simp at h
   subst h
   simp
  | succ j =>
   have:=ih (by simpa using h)
   cases p with
   | none=>simpa using this
   | some q =>
    simp only[List.set_cons_succ,vj,id]
    exact(List.Perm.cons q this).trans (List.Perm.swap _ _ _)
theorem St.Og{cs:List Value}(h:St bs (blk b T cs :: gH cf T B ps xs :: L) w)(hj:ps[j]? = some none)(hC:cs=((xs.drop (B*j)).take B).flatMap cf):St bs (gH cf T B (ps.set j (some b)) xs :: L) w:=by
 have hjl:=(zd.1 hj).1
 refine h.OR (by simpa[gH,blk]using Ru hj) fun h1 h2 q c hq=>?_
 rw[rN]at hq
 split at hq
 . rename_i e'
   subst e'
   cases hq
   rw[<-hC]
   exact h1
 . exact h2 q c hq
theorem St.MX{cs:List Value}(h:St bs (blk b T cs :: gH cf T B ps xs :: L) w)(hx:xs.length=B*ps.length)(hn:C.length=B)(hC:cs=C.flatMap cf):St bs (gH cf T B (ps++[some b]) (xs++C) :: L) w:=by
 refine h.OR (by simp only[gH,blk,Jt];exact rz) fun h1 h2 q c hq=>?_
 rw[zS]at hq
 split at hq
 . rename_i hlt
   have:B*(q+1)<=B*ps.length:=Cc _ hlt
   rw[zY]at this
   rw[List.drop_append_of_le_length o_,Js (by rw[tU];omega)]
   exact h2 q c hq
 . rename_i hge
   have hq' : q=ps.length:=by
    have:=(zd.1 hq).1
    simp at this
    omega
   subst hq'
   simp at hq
   subst hq
   rw[<-hx,List.drop_left,rE o_,<-hC]
   exact h1
theorem St.D1(h:St bs L w)(m:Nat):St bs (gH cf T B (List.replicate m none) xs :: L) w:=by
 refine h.add (lo:=w.heap.size) (fun p hp=>(h.base p hp).gI.size) h.lt (fun b hb=>?_) ?_ (fun b hb=>?_) ?_
 . simp[gH]at hb
 . simp[gH]
 . simp[gH]at hb
 . intro j b hb
   have:=zh hb
   simp at this
end
section
variable {α:Type} {cf:α->List Value} {z0:α}
theorem Rv{z:Value}{sz:Nat}(hz:z.cells.toList=cf z0)(hl:∀ x:α,(cf x).length=sz)(hsz:0<sz)(c:Nat):madeCells z.cells (c*sz)=((List.replicate c z0).flatMap cf).toArray:=by
 have hzs:z.cells.size=sz:=by rw[<-sL,hz,hl]
 apply Array.ext'
 apply nq
 intro i
 by_cases hi:i<c*sz
 . have h1:i / sz<c:=(Jy hsz).2 hi
   have h2:i%sz<(cf z0).length:=by rw[hl];exact tZ _ hsz
   obtain⟨u,hu⟩:=qg h2
   have h3:=vT hl (List.replicate c z0) (i / sz) (i%sz) z0 u (by rw[Cg,if_pos h1]) hu
   rw[Aq]at h3
   have h4:z.cells[i%z.cells.size]! = u:=by
    have h6:z.cells.toList[i%sz]? = some u:=by rw[hz];exact hu
    have h5:z.cells[i%sz]? = some u:=by rw[<-rM];exact h6
    rw[hzs,getElem!_def,h5]
   have h7:(madeCells z.cells (c*sz)).toList[i]? = some (z.cells[i%z.cells.size]!):=by simp[madeCells,hi]
   rw[h7,h4]
   simpa using h3.symm
 . have h1:(madeCells z.cells (c*sz)).toList[i]? = none:=by rw[mB];simp[madeCells];omega
   have h2:((List.replicate c z0).flatMap cf).length=c*sz:=by rw[qU hl,Fy]
   rw[h1]
   symm
   apply mB
   simp only[h2]
   omega
end
section
variable {α:Type} {cf:α->List Value} {z0:α}
variable {r:Option Nat} {P:Program} {ops:Array Oper} {Q:Exit->Act->World->Prop} {rest l:List Oper} {n:Nat} {s s0:List (Nat×Value)} {ds:List Deferred} {w:World} {Nx:Value->World->Prop}
variable {d:Nat} {dd:Option Nat} {ty t e:TypeId} {pos:String} {af:Array Edge} {g:Option (Nat×Bool)} {x y:Operand} {sz by_:Nat} {z:Value} {bs:List (World×List Nat)} {L:List gi}
theorem N9{k k' : IntKind}{c m:Nat}(hx:ev n s x = .int k (m:Int))(hy:ev n s y = .int k' (c:Int))(ht:P.underlying t=some (.slice e))(hi:TI P e sz by_ z)(hz:z.cells.toList=cf z0)(hl:∀ x:α,(cf x).length=sz)(hsz:0<sz)(hm:m<=c)(hb:by_*c<=281474976710656)(h63:c<=9223372036854775807) :
 (execOp (ev n s) ⟨dd,.makeSlice t x y,ty,pos,af,g⟩).run P w = .ok (.value (.slice (some ⟨w.heap.size,0,none⟩) m c)) (w.alloc (.cells ((List.replicate c z0).flatMap cf).toArray e)):=by
 obtain⟨i,hii,h1,h2,h3⟩:=hi.get
 subst h2
 have hr:=run_make (P:=P) w t e i z ht hii h3 k k' m c o_ o_ (by rw[<-Int.natCast_mul];omega) o_
 simp only[rD,h1]at hr
 rw[Rv hz hl hsz]at hr
 simp only[execOp,hx,hy,zj,hr,ze,zm]
theorem BA{k k' : IntKind}{c m:Nat}(hg:gB ops n s g=true)(hx:ev n s x = .int k (m:Int))(hy:ev n s y = .int k' (c:Int))(ht:P.underlying t=some (.slice e))(hi:TI P e sz by_ z)(hz:z.cells.toList=cf z0)(hl:∀ x:α,(cf x).length=sz)(hsz:0<sz)(hm:m<=c)(hb:by_*c<=281474976710656)(h63:c<=9223372036854775807)(hst:St bs L w)
 (K:∀ b w', w.heap.size<=b->gD [] w w' -> St bs (blk b e ((List.replicate c z0).flatMap cf) :: L) w' -> WL r P ops Q rest (Fr n ((d,.slice (some ⟨b,0,none⟩) m c) :: s) ds) w') :
 WL r P ops Q (⟨some d,.makeSlice t x y,ty,pos,af,g⟩ :: rest) (Fr n s ds) w :=
 pv hg rfl (N9 hx hy ht hi hz hl hsz hm hb h63) (K _ _ (zn _) (gD.alloc [] w _) (v7 hst e _))
theorem N7{k k' : IntKind}{c m:Nat}(hg:gB ops n s g=true)(hx:ev n s x = .int k (m:Int))(hy:ev n s y = .int k' (c:Int))(ht:P.underlying t=some (.slice e))(hi:TI P e sz by_ z)(hz:z.cells.toList=cf z0)(hl:∀ x:α,(cf x).length=sz)(hsz:0<sz)(hm:m<=c)(hb:by_*c<=281474976710656)(h63:c<=9223372036854775807)(hst:St bs L w)
 (K:∀ b w', St bs (blk b e ((List.replicate c z0).flatMap cf) :: L) w' -> Nx (.slice (some ⟨b,0,none⟩) m c) w') :
 lG P ops Q n ds s0 l ⟨dd,.makeSlice t x y,ty,pos,af,g⟩ s Nx w :=
 Aw hg rfl (N9 hx hy ht hi hz hl hsz hm hb h63) (K _ _ (v7 hst e _))
theorem St.Bi{b c m i:Nat}(h:St bs L w)(hi:L[i]? = some (blk b e ((List.replicate c z0).flatMap cf)))(hl:∀ x:α,(cf x).length=sz)(hm:m<=c)(hc:c<=maxLen):St bs (L.set i (fV cf (.slice (some ⟨b,0,none⟩) m c) e sz (List.replicate m z0))) w:=by
 have e1:(List.replicate c z0).flatMap cf=(List.replicate m z0).flatMap cf++(List.replicate (c-m) z0).flatMap cf:=by
  rw[<-List.flatMap_append,List.replicate_append_replicate]
  congr 2
  omega
 rw[e1]at hi
 have:=h.LC (cf:=cf) (ys:=List.replicate m z0) (cap:=c) hi hl (by simpa using hm) hc (by rw[<-e1,qU hl,Fy])
 simpa using this
end
theorem St.made{w w' : World}{bs:List (World×List Nat)}{L:List gi}{R:gi}(h:St bs L w)(ht:gp (gG []) w w' R):St bs (R :: L) w' :=
 h.qX (by simpa[gG,iR]using ht.gI) (fun b hb=>(ht.place b hb).elim (fun h=>by simp[gG,iR]at h) id) ht.nodup ht.lt ht.holds
theorem St.AX{w w' : World}{bs:List (World×List Nat)}{L:List gi}{R:gi}(h:St bs (R :: L) w')(hb:(w,[])∈bs):gp (gG []) w w' R:=h.Dt (R:=gG []) hb
section
variable {P:Program} {ops:Array Oper} {Q:Exit->Act->World->Prop} {l:List Oper} {n:Nat} {s s0:List (Nat×Value)} {ds:List Deferred} {w:World} {Nx:Value->World->Prop}
variable {dd:Option Nat} {ty t e:TypeId} {pos:String} {af:Array Edge} {g:Option (Nat×Bool)} {sz by_:Nat} {z:Value} {bs:List (World×List Nat)} {L:List gi}
theorem Bq{len:Nat}{ps:List (Nat×Operand)}{vs cs:List Value}(hg:gB ops n s g=true)(hp:ps.map (fun q=>(q.1,ev n s q.2))=idx 0 vs)(ht:P.underlying t=some (.slice e))(hi:TI P e sz by_ z)
 (hlen:vs.length=len) (hv:∀ v∈vs,v.cells.size=sz) (hcs:vs.flatMap (·.cells.toList)=cs) (hsmall:Nat.ble (len*sz) 16777216=true) (h63:Nat.ble len 16777216=true) (hst:St bs L w)
 (K:∀ b w', St bs (row (.slice (some ⟨b,0,none⟩) len len) e sz len cs :: L) w' -> Nx (.slice (some ⟨b,0,none⟩) len len) w') :
 lG P ops Q n ds s0 l ⟨dd,.buildSlice t len ps.toArray,ty,pos,af,g⟩ s Nx w:=by
 subst hlen hcs
 have hfl:(vs.flatMap (·.cells.toList)).length=vs.length*sz:=by
  clear hp hsmall h63 K
  induction vs with
  | nil=>simp
  | cons v vs ih=>simp only[kO,zw,zp,sL,hv v s_,ih (fun u hu=>hv u (by simp[hu])),nw];omega
 refine Aw hg rfl (ID hp ht hi ?_ (za hsmall)) (K _ _ (M3 hst e sz _ _ hfl (by have:=za h63;simp only[maxLen];omega)))
 rw[Mz sz vs 0 _ hv s_]
 simp
end
theorem xC{e:Option Nat}{b:Nat}(h:e=some b):Value.pointer (e.map fun b=>(⟨b,0,none⟩:Addr)) = .pointer (some ⟨b,0,none⟩):=by rw[h];rfl
def wo:Value->Bool
 | .slice none _ _=>true
 | _=>false
section
variable {r:Option Nat} {P:Program} {ops:Array Oper} {Q:Exit->Act->World->Prop} {rest:List Oper} {n:Nat} {s:List (Nat×Value)} {ds:List Deferred} {w w0 w' : World} {d:Nat} {ty t t' e:TypeId} {pos:String} {af:Array Edge} {g:Option (Nat×Bool)} {v:Value} {x y:Operand}
theorem DV{α:Type}{sz:Nat}{enc:World->α->List Value->Prop}{ok:Nat->Prop}{ys:List α}(hg:gB ops n s g=true)(hx:ev n s x=v)(hy:ev n s y = .slice none 0 0)(ht:P.underlying t=some (.slice e))(hI:Sl sz enc ok w0 v ys)
 (K:WL r P ops Q rest (Fr n ((d,.bool (wo v)) :: s) ds) w):WL r P ops Q (⟨some d,.binOp .eql t x y t', ty,pos,af,g⟩ :: rest) (Fr n s ds) w:=by
 obtain⟨a,c,rfl,_⟩:=hI
 have:wo (.slice a ys.length c)=a.isNone:=by cases a<;>rfl
 rw[this]at K
 exact XH hg hx hy ht K
theorem Dx{α:Type}{sz:Nat}{enc:World->α->List Value->Prop}{ok:Nat->Prop}{ys:List α}(h:wo v=true)(hI:Sl sz enc ok w0 v ys):ys=[]:=by
 obtain⟨a,c,rfl,h1,h2,h3⟩:=hI
 cases ys with
 | nil=>rfl
 | cons y ys =>
  obtain⟨b,o,vs,ha,_⟩:=h3 0 y rfl
  subst ha
  cases h
theorem qt.Es {α:Type}{sz:Nat}{cf:α->List Value}{e:TypeId}:qt sz cf w w' (.slice none 0 0) e ([]:List α):=⟨⟨s_,.inl ⟨rfl,rfl⟩⟩,fun b hb=>by simp[Value.ownBlock]at hb⟩
end
section
variable {α:Type} {cf:α->List Value} {w:World} {bs:List (World×List Nat)} {L:List gi} {xs:List α} {b i j B:Nat} {T:TypeId} {ps:List (Option Nat)}
theorem St.Me(h:St bs L w)(hi:L[i]? = some (gH cf T B ps xs))(hp:ps[j]? = some (some b)):∀ q u,(((xs.drop (B*j)).take B).flatMap cf)[q]? = some u->w.cell? ⟨b,0+q,none⟩=some u:=by
 intro q u hq
 have hh:=h.own _ (zh hi) _ _ hp
 rw[cell_of_row w b _ _ T (0,0) hh]
 simpa using hq
theorem LH{sz:Nat}(hl:∀ x:α,(cf x).length=sz)(hx:xs.length=B*ps.length)(hj:j<ps.length):(((xs.drop (B*j)).take B).flatMap cf).length=B*sz:=by
 rw[qU hl,kD,tU]
 have:B*(j+1)<=B*ps.length:=Cc _ hj
 rw[zY]at this
 have e:min B (xs.length-B*j)=B:=by omega
 rw[e]
theorem LB{cs vs:List Value}(h:vs.length=cs.length):setAt cs 0 vs=vs:=by
 unfold setAt
 rw[List.take_zero,rK,jN,Fi o_,qC]
end
theorem xF{α:Type}{cf:α->List Value}(h:∀ a,(cf a).all (·.oneCell')=true)(xs:List α):∀ x∈xs.flatMap cf,x.oneCell' = true:=by
 intro x hx
 obtain⟨a,_,ha⟩:=o7.1 hx
 exact zz.1 (h a) x ha
structure qc (ps qs:List (Option Nat)) (k:Nat):Prop where
 len:qs.length=ps.length
 rest:∀ j,k<=j->j<ps.length->qs[j]? = some none
 done:∀ j,j<k->qs[j]? = some none->ps[j]? = some none
theorem qc.start(ps:List (Option Nat)):qc ps (List.replicate ps.length none) 0 :=
 ⟨s_,fun j _ hj=>by rw[Cg,if_pos hj],fun j hj=>absurd hj o_⟩
theorem qc.skip{ps qs:List (Option Nat)}{k:Nat}(h:qc ps qs k)(hk:ps[k]? = some none):qc ps qs (k+1) :=
 ⟨h.len,fun j h1 h2=>h.rest j o_ h2,fun j h1 h2=>by
  by_cases e:j=k
  . subst e;exact hk
  . exact h.done j o_ h2⟩
theorem qc.set{ps qs:List (Option Nat)}{k b:Nat}(h:qc ps qs k)(hk:k<ps.length):qc ps (fR qs k (fun _=>some b)) (k+1):=by
 have hl:=h.len
 refine⟨by rw[gM];exact hl,fun j h1 h2=>?_,fun j h1 h2=>?_⟩
 . unfold fR
   rw[List.getElem?_set_ne o_]
   exact h.rest j o_ h2
 . unfold fR at h2
   by_cases e:k=j
   . subst e
     rw[rN,if_pos rfl,if_pos o_]at h2
     cases h2
   . rw[List.getElem?_set_ne e]at h2
     exact h.done j o_ h2
theorem qc.next{ps qs:List (Option Nat)}{k:Nat}(h:qc ps qs k)(hk:k<ps.length):qs[k]? = some none:=h.rest k (zn _) hk
end Go.Sx
namespace Go.Sx
open Go
def jZ(p:Prop)(R:gi):gi where
 gU:=R.gU
 holds w:=p/\R.holds w
 loc w w' h hh:=⟨hh.1,R.loc w w' h hh.2⟩
section
variable {w w' w0:World} {bs:List (World×List Nat)} {L LL:List gi} {R R' : gi} {p p' : Prop}
theorem Own.fact(h:Own (jZ p R) w):p:=h.holds.1
theorem Own.un(h:Own (jZ p R) w):Own R w:=⟨h.holds.2,h.nodup,h.lt⟩
theorem gp.oV(h:gp R w w' R')(hp:p'):gp (jZ p R) w w' (jZ p' R'):=⟨⟨hp,h.holds⟩,h.gI,h.place,h.nodup,h.lt⟩
theorem gp.oQ(h:gp R w w' R')(hp:p'):gp R w w' (jZ p' R'):=⟨⟨hp,h.holds⟩,h.gI,h.place,h.nodup,h.lt⟩
theorem gp.Fg(h:gp R w w' R'):gp (jZ p R) w w' R' := ⟨h.holds,h.gI,h.place,h.nodup,h.lt⟩
theorem St.un(h:St bs (jZ p R :: L) w):St bs (R :: L) w :=
 ⟨fun q hq=>⟨(h.base q hq).gI,(h.base q hq).mine⟩,fun Q hQ=>by
  rcases zb.1 hQ with rfl|hQ
  . exact(h.own (jZ p Q) s_).2
  . exact h.own Q (by simp[hQ]),h.sep,h.lt⟩
theorem St.oV(h:St bs (R :: L) w)(hp:p):St bs (jZ p R :: L) w :=
 ⟨fun q hq=>⟨(h.base q hq).gI,(h.base q hq).mine⟩,fun Q hQ=>by
  rcases zb.1 hQ with rfl|hQ
  . exact⟨hp,h.own R s_⟩
  . exact h.own Q (by simp[hQ]),h.sep,h.lt⟩
theorem St.fact(h:St bs (jZ p R :: L) w):p:=(h.own (jZ p R) s_).1
theorem St.Yn{i:Nat}(h:St bs L w)(hi:L[i]? = some (jZ p R)):p:=(h.own (jZ p R) (zh hi)).1
theorem Own.of{L:List gi}(h:Own (gG L) w):St [(w,(gG L).gU)] L w:=by
 have h1:=(St.IB h).unpack
 rwa [qC]at h1
theorem St.Oi(h:St bs L w')(hb:(w,R.gU)∈bs):gp R w w' (gG L):=by
 have h1:St bs (L++[]) w' := by rwa [qC]
 exact(St.pack L [] h1).Dt hb
theorem gp.Ej{A B:List gi}(h:gp R w w' (gG (A++B))):gp R w w' (gG [gG A,gG B]):=by
 have hf:(gG [gG A,gG B]).gU=(gG (A++B)).gU:=by simp[gG,iR]
 refine⟨fun Q hQ=>?_,h.gI,fun b hb=>h.place b (hf▸hb),hf▸h.nodup,fun b hb=>h.lt b (hf▸hb)⟩
 simp only[zb,rF,or_false]at hQ
 rcases hQ with rfl|rfl
 . exact fun S hS=>h.holds S (ve _ hS)
 . exact fun S hS=>h.holds S (vE _ hS)
theorem gp.Ev{R'' : gi}(h:gp R w w' R')(hf:R''.gU=R'.gU)(hh:R'.holds w' -> R''.holds w'):gp R w w' R'' :=
 ⟨hh h.holds,h.gI,fun b hb=>h.place b (hf▸hb),hf▸h.nodup,fun b hb=>h.lt b (hf▸hb)⟩
end
end Go.Sx
namespace Go.Sx
open Go
def BM(L:List gi):List Nat->List gi
 | []=>[]
 | i :: r=>match L[i]? with
  | some x=>x :: BM L r
  | none=>BM L r
theorem NB(L:List gi):∀ ix,BM L ix=ix.filterMap fun i=>L[i]?
 | []=>rfl
 | i :: r=>by
  simp only[BM,vj]
  cases L[i]? <;> simp[NB L r]
theorem SX(L:List gi):(List.range L.length).filterMap (fun i=>L[i]?)=L:=by
 apply nq
 intro j
 have h:∀ (n:Nat),n<=L.length->(List.range n).filterMap (fun i=>L[i]?)=L.take n:=by
  intro n
  induction n with
  | zero=>intro _;rfl
  | succ n ih =>
   intro hn
   rw[List.range_succ,Jt,ih o_,Ay]
   simp only[vj,List.filterMap_nil]
   cases L[n]? <;> simp
 rw[h _ (zn _),Cb]
theorem Hu(L:List gi):∀ ix:List Nat,(ix.filter fun i=>decide (i<L.length)).filterMap (fun i=>L[i]?)=ix.filterMap fun i=>L[i]?
 | []=>rfl
 | i :: r=>by
  by_cases h:i<L.length
  . rw[List.filter_cons_of_pos (by simpa using h),vj,vj,Hu L r]
  . rw[List.filter_cons_of_neg (by simpa using h),vj,Hu L r,mB o_]
theorem St.re{bs:List (World×List Nat)}{L:List gi}{w:World}(ix:List Nat)(h:St bs L w)(hn:ix.Nodup:=by decide):St bs (BM L ix) w:=by
 have hp:((ix.filter fun i=>decide (i<L.length))++((List.range L.length).filter fun i=>decide (i∉ix))).Perm (List.range L.length):=by
  rw[List.perm_ext_iff_of_nodup]
  . intro a
    simp only[zq,Fq,mC,decide_eq_true_eq]
    by_cases ha:a∈ix<;>simp[ha]
  . rw[zu]
    refine⟨hn.sublist List.filter_sublist,BW.sublist List.filter_sublist,fun a ha b hb e=>?_⟩
    subst e
    simp only[Fq,decide_eq_true_eq]at ha hb
    exact hb.2 ha.1
  . exact BW
 have h1:=hp.filterMap fun i=>L[i]?
 rw[SX,Jt,Hu,<-NB]at h1
 exact(h.perm h1.symm).sub (List.sublist_append_left _ _)
end Go.Sx
namespace Go.Ex
open Go Go.Sx
inductive Tr (α:Type) where
 | e
 | n (l:Tr α) (v:Option α) (r:Tr α)
variable {α:Type}
noncomputable def Tr.get(t:Tr α):Nat->Option α :=
 Tr.rec (motive:=fun _=>Nat->Option α) (fun _=>none) (fun _ v _ gl gr k=>cond (Nat.beq k 0) v (cond (Nat.beq (Nat.mod k 2) 1) (gl (Nat.div k 2)) (gr (Nat.pred (Nat.div k 2))))) t
noncomputable def Tr.single(a:Option α)(f:Nat):Nat->Tr α :=
 Nat.rec (motive:=fun _=>Nat->Tr α) (fun _=>.e) (fun _ ih k=>cond (Nat.beq k 0) (.n .e a .e) (cond (Nat.beq (Nat.mod k 2) 1) (.n (ih (Nat.div k 2)) none .e) (.n .e none (ih (Nat.pred (Nat.div k 2)))))) f
noncomputable def Tr.put(t:Tr α)(k:Nat)(a:Option α):Tr α :=
 Tr.rec (motive:=fun _=>Nat->Tr α) (fun k=>Tr.single a (Nat.succ k) k) (fun l v r pl pr k=>cond (Nat.beq k 0) (.n l a r) (cond (Nat.beq (Nat.mod k 2) 1) (.n (pl (Nat.div k 2)) v r) (.n l v (pr (Nat.pred (Nat.div k 2)))))) t k
theorem nS(a b:Nat):Nat.beq a b=decide (a=b):=by
 by_cases h:a=b
 . subst h;simp
 . cases hb:Nat.beq a b with
   | false=>simp[h]
   | true=>exact absurd (zt hb) h
theorem Tr.x9(k:Nat):(Tr.e:Tr α).get k=none:=rfl
theorem Tr.tq(l r:Tr α)(v:Option α)(k:Nat):(Tr.n l v r).get k=if k=0 then v else if k%2=1 then l.get (k / 2)else r.get (k / 2-1):=by
 show cond (Nat.beq k 0) v (cond (Nat.beq (Nat.mod k 2) 1) (l.get (Nat.div k 2)) (r.get (Nat.pred (Nat.div k 2))))=_
 simp only[nS]
 by_cases h:k=0
 . simp[h]
 . by_cases h1:k%2=1
   . have h2:Nat.mod k 2=1:=h1
     simp[h,h1,h2];rfl
   . have h2:¬ Nat.mod k 2=1:=h1
     simp[h,h1,h2];rfl
theorem Tr.Vx(a:Option α)(f k:Nat):Tr.single a (f+1) k=if k=0 then .n .e a .e else if k%2=1 then .n (Tr.single a f (k / 2)) none .e else .n .e none (Tr.single a f (k / 2-1)):=by
 show cond (Nat.beq k 0) (Tr.n Tr.e a Tr.e) (cond (Nat.beq (Nat.mod k 2) 1) (Tr.n (Tr.single a f (Nat.div k 2)) none Tr.e) (Tr.n Tr.e none (Tr.single a f (Nat.pred (Nat.div k 2)))))=_
 simp only[nS]
 by_cases h:k=0
 . simp[h]
 . by_cases h1:k%2=1
   . have h2:Nat.mod k 2=1:=h1
     simp[h,h1,h2];rfl
   . have h2:¬ Nat.mod k 2=1:=h1
     simp[h,h1,h2];rfl
theorem Tr.aac(a:Option α)(k:Nat):(Tr.e:Tr α).put k a=Tr.single a (k+1) k:=rfl
theorem Tr.aal(l r:Tr α)(v a:Option α)(k:Nat):(Tr.n l v r).put k a=if k=0 then .n l a r else if k%2=1 then .n (l.put (k / 2) a) v r else .n l v (r.put (k / 2-1) a):=by
 show cond (Nat.beq k 0) (Tr.n l a r) (cond (Nat.beq (Nat.mod k 2) 1) (Tr.n (l.put (Nat.div k 2) a) v r) (Tr.n l v (r.put (Nat.pred (Nat.div k 2)) a)))=_
 simp only[nS]
 by_cases h:k=0
 . simp[h]
 . by_cases h1:k%2=1
   . have h2:Nat.mod k 2=1:=h1
     simp[h,h1,h2];rfl
   . have h2:¬ Nat.mod k 2=1:=h1
     simp[h,h1,h2];rfl
theorem Tr.SK(a:Option α):∀ (f k k' : Nat),k<f->(Tr.single a f k).get k' = if k' = k then a else none:=by
 intro f
 induction f with
 | zero=>intro k k' h;omega
 | succ f ih =>
  intro k k' h
  rw[Tr.Vx]
  by_cases h0:k=0
  . subst h0
    rw[if_pos rfl,Tr.tq]
    by_cases h1:k' = 0
    . rw[if_pos h1,if_pos h1]
    . rw[if_neg h1,if_neg h1,Tr.x9,Tr.x9];simp
  . rw[if_neg h0]
    by_cases h2:k%2=1
    . rw[if_pos h2,Tr.tq]
      by_cases h1:k' = 0
      . rw[if_pos h1,if_neg o_]
      . rw[if_neg h1]
        by_cases h3:k' % 2=1
        . rw[if_pos h3,ih _ _ o_]
          by_cases h4:k' = k
          . rw[if_pos h4,if_pos (by rw[h4])]
          . rw[if_neg h4,if_neg o_]
        . rw[if_neg h3,Tr.x9,if_neg (by intro e;subst e;exact h3 h2)]
    . rw[if_neg h2,Tr.tq]
      by_cases h1:k' = 0
      . rw[if_pos h1,if_neg o_]
      . rw[if_neg h1]
        by_cases h3:k' % 2=1
        . rw[if_pos h3,Tr.x9,if_neg (by intro e;subst e;exact h2 h3)]
        . rw[if_neg h3,ih _ _ o_]
          by_cases h4:k' = k
          . rw[if_pos h4,if_pos (by rw[h4])]
          . rw[if_neg h4,if_neg o_]
theorem Tr.r7(t:Tr α):∀ (k k' : Nat) (a:Option α),(t.put k a).get k' = if k' = k then a else t.get k' := by
 induction t with
 | e=>intro k k' a;rw[Tr.aac,Tr.SK a (k+1) k k' o_,Tr.x9]
 | n l v r ihl ihr =>
  intro k k' a
  rw[Tr.aal]
  by_cases h0:k=0
  . subst h0
    rw[if_pos rfl,Tr.tq,Tr.tq]
    by_cases h1:k' = 0
    . rw[if_pos h1,if_pos h1]
    . rw[if_neg h1,if_neg h1,if_neg h1]
  . rw[if_neg h0]
    by_cases h2:k%2=1
    . rw[if_pos h2,Tr.tq,Tr.tq]
      by_cases h1:k' = 0
      . rw[if_pos h1,if_pos h1,if_neg o_]
      . rw[if_neg h1,if_neg h1]
        by_cases h3:k' % 2=1
        . rw[if_pos h3,if_pos h3,ihl]
          by_cases h4:k' = k
          . rw[if_pos h4,if_pos (by rw[h4])]
          . rw[if_neg h4,if_neg o_]
        . rw[if_neg h3,if_neg h3,if_neg (by intro e;subst e;exact h3 h2)]
    . rw[if_neg h2,Tr.tq,Tr.tq]
      by_cases h1:k' = 0
      . rw[if_pos h1,if_pos h1,if_neg o_]
      . rw[if_neg h1,if_neg h1]
        by_cases h3:k' % 2=1
        . rw[if_pos h3,if_pos h3,if_neg (by intro e;subst e;exact h2 h3)]
        . rw[if_neg h3,if_neg h3,ihr]
          by_cases h4:k' = k
          . rw[if_pos h4,if_pos (by rw[h4])]
          . rw[if_neg h4,if_neg o_]
structure Nm where
 blk:Nat
 sh:Nat
 sl:Nat
abbrev Env:=Nat->Nm
def iU:Nat:=18446744073709551616
def iZ(E:Env)(a:Addr):Addr:=⟨(E a.block).blk,(E a.block).sh+a.off,a.spot⟩
def jT(E:Env)(b c:Nat):Nat:=if iU<=c then c-iU+(E b).sl else c
def mP(E:Env):Fn->Fn
 | .yield l=>.yield (E l).blk
 | f=>f
mutual
def fT(E:Env):Value->Value
 | .pointer (some a)=>.pointer (some (iZ E a))
 | .slice (some a) m c=>.slice (some (iZ E a)) m (jT E a.block c)
 | .map (some r)=>.map (some (E r).blk)
 | .chan (some r)=>.chan (some (E r).blk)
 | .func fn fi ca=>.func (mP E fn) (ko E fi) (ko E ca)
 | .iface t v=>.iface t (fT E v)
 | .agg cs=>.agg (ko E cs)
 | .tuple cs=>.tuple (ko E cs)
 | .pointer none=>.pointer none
 | .slice none m c=>.slice none m c
 | .map none=>.map none
 | .chan none=>.chan none
 | .bool b=>.bool b
 | .int k a=>.int k a
 | .float k a=>.float k a
 | .complex k a b=>.complex k a b
 | .string s=>.string s
 | .nilFunc=>.nilFunc
 | .nilIface=>.nilIface
termination_by structural x=>x
def ko(E:Env):Array Value->Array Value
 | ⟨l⟩=>⟨lF E l⟩
termination_by structural x=>x
def lF(E:Env):List Value->List Value
 | []=>[]
 | v :: l=>fT E v :: lF E l
termination_by structural x=>x
end
mutual
def nm:Value->Nat
 | .pointer (some a)=>a.block+1
 | .slice (some a) _ _=>a.block+1
 | .map (some r)=>r+1
 | .chan (some r)=>r+1
 | .func fn fi ca=>max (match fn with | .yield l=>l+1|_=>0) (max (jA fi) (jA ca))
 | .iface _ v=>nm v
 | .agg cs=>jA cs
 | .tuple cs=>jA cs
 | .pointer none=>0
 | .slice none _ _=>0
 | .map none=>0
 | .chan none=>0
 | .bool _=>0
 | .int _ _=>0
 | .float _ _=>0
 | .complex _ _ _=>0
 | .string _=>0
 | .nilFunc=>0
 | .nilIface=>0
termination_by structural x=>x
def jA:Array Value->Nat
 | ⟨l⟩=>gT l
termination_by structural x=>x
def gT:List Value->Nat
 | []=>0
 | v :: l=>max (nm v) (gT l)
termination_by structural x=>x
end
theorem qT(E:Env):∀ l:List Value,lF E l=l.map (fT E)
 | []=>rfl
 | v :: l=>by rw[lF,qT E l];rfl
theorem AQ(E:Env)(a:Array Value):ko E a=a.map (fT E):=by
 cases a;rw[ko,qT];simp
theorem uq(E:Env)(l:List Value):ko E l.toArray=(l.map (fT E)).toArray:=by rw[AQ];simp
theorem ku{k:Nat}:∀ {l:List Value},gT l<=k↔∀ v∈l,nm v<=k
 | []=>by simp[gT]
 | v :: l=>by
  rw[gT,nv,ku (l:=l)]
  simp
theorem XM{k:Nat}{a:Array Value}:jA a<=k↔∀ v∈a,nm v<=k:=by
 cases a with|mk l=>rw[jA,ku];simp
mutual
theorem s6{E E' : Env}{k:Nat}(h:∀ b,b<k->E' b=E b):∀ v:Value,nm v<=k->fT E' v=fT E v
 | .pointer (some a),hn=>by simp only[nm]at hn;simp only[fT,iZ,h a.block o_]
 | .slice (some a) _ _,hn=>by simp only[nm]at hn;simp only[fT,iZ,jT,h a.block o_]
 | .map (some r),hn=>by simp only[nm]at hn;simp only[fT,h r o_]
 | .chan (some r),hn=>by simp only[nm]at hn;simp only[fT,h r o_]
 | .func fn fi ca,hn=>by
  simp only[nm,nv]at hn
  simp only[fT]
  rw[Df h fi hn.2.1,Df h ca hn.2.2]
  have:mP E' fn=mP E fn:=by
   cases fn<;>simp only[mP]
   rename_i l
   rw[h l (by have:=hn.1;simp at this;omega)]
  rw[this]
 | .iface t v,hn=>by simp only[nm]at hn;simp only[fT,s6 h v hn]
 | .agg cs,hn=>by simp only[nm]at hn;simp only[fT,Df h cs hn]
 | .tuple cs,hn=>by simp only[nm]at hn;simp only[fT,Df h cs hn]
 | .pointer none,_=>rfl
 | .slice none _ _,_=>rfl
 | .map none,_=>rfl
 | .chan none,_=>rfl
 | .bool _,_=>rfl
 | .int _ _,_=>rfl
 | .float _ _,_=>rfl
 | .complex _ _ _,_=>rfl
 | .string _,_=>rfl
 | .nilFunc,_=>rfl
 | .nilIface,_=>rfl
theorem Df{E E' : Env}{k:Nat}(h:∀ b,b<k->E' b=E b):∀ a:Array Value,jA a<=k->ko E' a=ko E a
 | ⟨l⟩,hn=>by simp only[jA]at hn;simp only[ko,Ho h l hn]
theorem Ho{E E' : Env}{k:Nat}(h:∀ b,b<k->E' b=E b):∀ l:List Value,gT l<=k->lF E' l=lF E l
 | [],_=>rfl
 | v :: l,hn=>by simp only[gT,nv]at hn;simp only[lF,s6 h v hn.1,Ho h l hn.2]
end
theorem FU{E E' : Env}{k:Nat}(h:∀ b,b<k->E' b=E b){l:List Value}(hn:gT l<=k):l.map (fT E')=l.map (fT E):=by
 rw[<-qT,<-qT,Ho h l hn]
mutual
theorem xY:∀ v:Value,nm v=0->∀ E,fT E v=v
 | .pointer (some a),hn,_=>by simp[nm]at hn
 | .slice (some a) _ _,hn,_=>by simp[nm]at hn
 | .map (some r),hn,_=>by simp[nm]at hn
 | .chan (some r),hn,_=>by simp[nm]at hn
 | .func fn fi ca,hn,E=>by
  have h1:jA fi=0:=by simp only[nm]at hn;omega
  have h2:jA ca=0:=by simp only[nm]at hn;omega
  simp only[fT,Dp fi h1,Dp ca h2]
  cases fn<;>simp only[mP]
  simp only[nm]at hn;omega
 | .iface t v,hn,E=>by simp only[nm]at hn;simp only[fT,xY v hn]
 | .agg cs,hn,E=>by simp only[nm]at hn;simp only[fT,Dp cs hn]
 | .tuple cs,hn,E=>by simp only[nm]at hn;simp only[fT,Dp cs hn]
 | .pointer none,_,_=>rfl
 | .slice none _ _,_,_=>rfl
 | .map none,_,_=>rfl
 | .chan none,_,_=>rfl
 | .bool _,_,_=>rfl
 | .int _ _,_,_=>rfl
 | .float _ _,_,_=>rfl
 | .complex _ _ _,_,_=>rfl
 | .string _,_,_=>rfl
 | .nilFunc,_,_=>rfl
 | .nilIface,_,_=>rfl
theorem Dp:∀ a:Array Value,jA a=0->∀ E,ko E a=a
 | ⟨l⟩,hn,E=>by simp only[jA]at hn;simp only[ko,DD l hn]
theorem DD:∀ l:List Value,gT l=0->∀ E,lF E l=l
 | [],_,_=>rfl
 | v :: l,hn,E=>by
  have h1:nm v=0:=by simp only[gT]at hn;omega
  have h2:gT l=0:=by simp only[gT]at hn;omega
  simp only[lF,xY v h1,DD l h2]
end
theorem CU(E:Env)(v:Value):(fT E v).cells=v.cells.map (fT E):=by
 cases v<;>first
  | (simp only[fT,Value.cells,AQ];done)
  | (rename_i o;cases o<;>simp[fT,Value.cells];done)
  | (rename_i o _ _;cases o<;>simp[fT,Value.cells];done)
  | simp[fT,Value.cells]
theorem AU(v:Value):jA v.cells=nm v:=by
 cases v<;>first
  | rfl
  | simp[Value.cells,jA,gT]
end Go.Ex
namespace Go.Ex
open Go Go.Sx
noncomputable section
inductive AO where
 | cells (cs:List Value) (T:TypeId) (op:Option Nat) (ro:Bool)
 | map (es:List (Value×Value×Nat)) (clock:Nat)
 | loop (n:Nat) (σ:Tr Value) (ps:List Nat) (assign body:Code) (dd:Nat)
 | done (j:Option Nat)
 | uK (m:Option Nat) (since:Nat) (seen:List Nat) (last:Nat)
 | o5
def En(l:List Value)(d:Value):Nat->Value :=
 List.rec (motive:=fun _=>Nat->Value) (fun _=>d) (fun x _ ih i=>cond (Nat.beq i 0) x (ih (Nat.pred i))) l
def rowAt(base:List Value)(d:Value)(t:Tr Value)(i:Nat):Value:=match t.get i with
 | some v=>v
 | none=>En base d i
def oh(n:Nat)(base:List Value)(d:Value)(t:Tr Value):List Value:=(List.range n).map (rowAt base d t)
def yF(base:List Value)(d:Value)(t:Tr Value)(n:Nat):Nat->List Value :=
 Nat.rec (motive:=fun _=>Nat->List Value) (fun _=>[]) (fun _ ih o=>rowAt base d t o :: ih (Nat.succ o)) n
def we(vs:List Value):Nat->Tr Value->Tr Value :=
 List.rec (motive:=fun _=>Nat->Tr Value->Tr Value) (fun _ t=>t) (fun v _ ih o t=>ih (Nat.succ o) (t.put o (some v))) vs
inductive PO where
 | ao (o:AO)
 | row (n:Nat) (base:List Value) (d:Value) (t:Tr Value) (T:TypeId) (op:Option Nat) (ro:Bool)
def PO.to:PO->AO
 | .ao o=>o
 | .row n base d t T op ro=>.cells (oh n base d t) T op ro
def PO.of:AO->PO
 | .cells cs T op ro=>cond (Nat.ble cs.length 24) (.row cs.length cs (.bool false) .e T op ro) (.row cs.length [] (.bool false) (we cs 0 .e) T op ro)
 | o=>.ao o
structure AH where
 h:Tr PO
 nf:Nat
def AH.get(A:AH)(b:Nat):Option AO:=match A.h.get b with
 | some p=>some p.to
 | none=>none
def AH.set(A:AH)(b:Nat)(o:AO):AH:=⟨A.h.put b (some (PO.of o)),A.nf⟩
def AH.jH(A:AH)(b:Nat):AH:=⟨A.h.put b none,A.nf⟩
def AH.add(A:AH)(o:AO):AH:=⟨A.h.put A.nf (some (PO.of o)),A.nf+1⟩
def AH.Jh(A:AH)(p:PO):AH:=⟨A.h.put A.nf (some p),A.nf+1⟩
inductive XR where
 | val (v:Value)
 | unit
 | enter (f:FuncId) (args:List Value)
 | yield (l:Nat) (args:List Value)
abbrev jb:=Operand->Option Value
def zA:TypeDesc->Bool
 | .struct _=>true
 | .array _ _=>true
 | _=>false
section
variable (P:Program)
def l6(t:TypeId):Option Nat:=(P.info? t).map (·.size)
def B9(t:TypeId):Option Nat:=(P.info? t).map (·.bytes)
def tz(t:TypeId):Option Value:=match P.info? t with
 | some i=>match i.zero with
  | some z=>bif Nat.beq (nm z) 0&&Nat.beq z.cells.toList.length i.size then some z else none
  | none=>none
 | none=>none
def pH(cs:List Value)(o n:Nat):Option (List Value):=let l:=(cs.drop o).take n;bif Nat.beq l.length n then some l else none
def se(A:AH)(b o n:Nat):Option (List Value) :=
 match A.h.get b with
 | some (.row m base d t _ _ _)=>bif Nat.ble (o+n) m||Nat.beq n 0 then some (yF base d t n o)else none
 | some (.ao (.cells cs _ _ _))=>pH cs o n
 | _=>none
def one(v:Value):Bool:=match v with
 | .agg _=>false
 | .tuple _=>false
 | _=>true
def A7(A:AH)(b o:Nat)(vs:List Value):Option AH :=
 match A.h.get b with
 | some (.row m base d t T op false)=>bif Nat.ble (o+vs.length) m&&vs.all one then some ⟨A.h.put b (some (.row m base d (we vs o t) T op false)),A.nf⟩else none
 | _=>none
def x8(A:AH)(t:TypeId):Value->Option XR
 | .pointer (some ⟨b,o,none⟩)=>match P.underlying t with
  | some d=>bif zA d then(match l6 P t with
   | some n=>match se A b o n with
    | some l=>some (.val (.agg l.toArray))
    | none=>none
   | none=>none)
   else(match se A b o 1 with
    | some [v]=>some (.val v)
    | _=>none)
  | none=>none
 | _=>none
def Oo(A:AH)(t:TypeId)(v:Value):Value->Option AH
 | .pointer (some ⟨b,o,none⟩)=>match l6 P t with
  | some n=>bif Nat.beq v.cells.toList.length n then A7 A b o v.cells.toList else none
  | none=>none
 | _=>none
def ptr(b o:Nat):Value:=.pointer (some ⟨b,o,none⟩)
def uG(t:TypeId)(cs:List Value)(o:Nat):Option Value :=
 match P.underlying t with
 | some d=>bif zA d then(match l6 P t with
  | some n=>match pH cs o n with
   | some l=>some (.agg l.toArray)
   | none=>none
  | none=>none)
  else cs[o]?
 | none=>none
def allM{β:Type}(f:β->Option Bool):List β->Option Bool
 | []=>some true
 | x :: l=>match f x with
  | some true=>allM f l
  | some false=>some false
  | none=>none
def sV:Nat->TypeId->Value->Value->Option Bool
 | 0,_,_,_=>none
 | k+1,t,x,y=>match P.underlying t,x,y with
  | some .bool,.bool a,.bool b=>some (a==b)
  | some (.int _),.int j a,.int k b=>bif decide (j=k)then some (a==b)else none
  | some .string,.string a,.string b=>some (a.data.toList==b.data.toList)
  | some (.pointer _),.pointer none,.pointer none=>some true
  | some (.pointer _),.pointer none,.pointer (some _)=>some false
  | some (.pointer _),.pointer (some _),.pointer none=>some false
  | some (.pointer e),.pointer (some a),.pointer (some b)=>match l6 P e with
   | some (_+1)=>bif Nat.beq a.block b.block then some (a==b)else none
   | _=>none
  | some (.slice _),.slice none _ _,.slice b _ _=>some b.isNone
  | some (.slice _),.slice (some _) _ _,.slice none _ _=>some false
  | some (.map _ _),.map none,.map b=>some b.isNone
  | some (.map _ _),.map (some _),.map none=>some false
  | some (.func ..),.nilFunc,.nilFunc=>some true
  | some (.func ..),.nilFunc,.func .. => some false
  | some (.func ..),.func ..,.nilFunc=>some false
  | some (.interface _),.nilIface,.iface _ _=>some false
  | some (.interface _),.iface _ _,.nilIface=>some false
  | some (.struct fs),.agg xs,.agg ys=>bif P.stoodInHeld t||P.eqGuardType P.depth t then none else
   allM (fun f : Field => bif f.name == "_" then some true else
    match uG P f.type xs.toList f.offset,uG P f.type ys.toList f.offset with
    | some u,some v=>sV k f.type u v
    | _,_=>none) fs.toList
  | some (.array n e),.agg xs,.agg ys=>bif P.eqGuardType P.depth t then none else match l6 P e with
   | some sz=>allM (fun i=>match uG P e xs.toList (i*sz),uG P e ys.toList (i*sz)with
    | some u,some v=>sV k e u v
    | _,_=>none) (List.range n)
   | none=>none
  | _,_,_=>none
def Ja(op:BinOp)(x y:ByteArray):Option Value :=
 match op with
 | .add=>bif Nat.ble (x.size+y.size) 9223372036854775807 then some (.string (x++y))else none
 | .eql=>some (.bool (x.data.toList==y.data.toList))
 | .neq=>some (.bool !(x.data.toList==y.data.toList))
 | .lss=>some (.bool (Op.bytesLess x.data.toList y.data.toList))
 | .leq=>some (.bool (Op.bytesLess x.data.toList y.data.toList||x.data.toList==y.data.toList))
 | .gtr=>some (.bool !(Op.bytesLess x.data.toList y.data.toList||x.data.toList==y.data.toList))
 | .geq=>some (.bool !(Op.bytesLess x.data.toList y.data.toList))
 | _=>none
def P6(op:BinOp)(k:IntKind)(a b:Int):Option Value :=
 match op with
 | .add=>some (.int k (k.wrap (a+b)))
 | .sub=>some (.int k (k.wrap (a-b)))
 | .mul=>some (.int k (k.wrap (a*b)))
 | .quo=>bif decide (b=0)then none else some (.int k (k.wrap (a.tdiv b)))
 | .rem=>bif decide (b=0)then none else some (.int k (a.tmod b))
 | .and | .or | .xor | .andNot=>(mV op k a b).map (.int k)
 | _=>(jQ op a b).map .bool
def PX(op:BinOp)(t:TypeId)(x y:Value):Option Value :=
 match x,y with
 | .int k a,.int k' b=>match op with
  | .shl=>bif decide (0<=b)then some (.int k (k.wrap (a*2 ^ (min b.toNat k.bits))))else none
  | .shr=>bif decide (0<=b)then some (.int k (a.fdiv (2 ^ (min b.toNat k.bits))))else none
  | _=>bif decide (k=k')then P6 op k a b else none
 | .string a,.string b=>Ja op a b
 | x,y=>match op with
  | .eql=>(sV P 100 t x y).map .bool
  | .neq=>(sV P 100 t x y).map fun b=>.bool !b
  | _=>none
def Qq(op:UnOp):Value->Option Value
 | .int k a=>match op with
  | .neg=>some (.int k (k.wrap (0-a)))
  | .xor=>(mV .xor k (if k.signed then -1 else k.max) a).map (.int k)
  | _=>none
 | .bool b=>match op with
  | .not=>some (.bool !b)
  | _=>none
 | _=>none
def sG(v:Value):Option Nat:=match v with
 | .int _ (.ofNat n)=>some n
 | _=>none
def lS(ρ:jb):Option Operand->Nat->Option Nat
 | none,d=>some d
 | some x,_=>match ρ x with
  | some v=>sG v
  | none=>none
def rep(z:List Value):Nat->List Value
 | 0=>[]
 | n+1=>z++rep z n
def N3(t:TypeId)(x:Value)(ρ:jb)(lo hi mx:Option Operand):Option Value :=
 match P.underlying t,x with
 | some .string,.string s=>match mx,lS ρ lo 0,lS ρ hi s.size with
  | none,some l,some h=>bif Nat.ble l h&&Nat.ble h s.size then some (.string (s.extract l h))else none
  | _,_,_=>none
 | some (.slice e),.slice (some ⟨b,o,none⟩) n c=>match l6 P e with
  | some sz=>bif Nat.ble iU c then(match mx,lS ρ lo 0,lS ρ hi n with
   | none,some l,some h=>bif Nat.ble l h&&Nat.ble h (c-iU)&&Nat.blt l (c-iU)then some (.slice (some ⟨b,o+l*sz,none⟩) (h-l) (c-l))else
    bif Nat.beq l 0&&Nat.ble h (c-iU)then some (.slice (some ⟨b,o,none⟩) h c)else none
   | some _,some l,some h=>match lS ρ mx c with
    | some m=>bif Nat.ble l h&&Nat.ble h m&&Nat.ble m (c-iU)&&Nat.blt (m-l) iU&&hi.isSome then some (.slice (some ⟨b,bif Nat.beq m l then o else o+l*sz,none⟩) (h-l) (m-l))else none
    | none=>none
   | _,_,_=>none)
   else(match lS ρ mx c,lS ρ lo 0,lS ρ hi n with
    | some m,some l,some h=>bif Nat.ble l h&&Nat.ble h m&&Nat.ble m c&&(mx.isNone||hi.isSome)then some (.slice (some ⟨b,bif Nat.beq m l then o else o+l*sz,none⟩) (h-l) (m-l))else none
    | _,_,_=>none)
  | none=>none
 | some (.slice e),.slice none 0 0=>match l6 P e,lS ρ mx 0,lS ρ lo 0,lS ρ hi 0 with
  | some _,some 0,some 0,some 0=>bif mx.isNone||hi.isSome then some (.slice none 0 0)else none
  | _,_,_,_=>none
 | some (.array n e),.pointer (some ⟨b,o,none⟩)=>match l6 P e,lS ρ mx n,lS ρ lo 0,lS ρ hi n with
  | some sz,some m,some l,some h=>bif Nat.ble l h&&Nat.ble h m&&Nat.ble m n&&Nat.ble n 9223372036854775807&&(mx.isNone||hi.isSome)then some (.slice (some ⟨b,bif Nat.beq m l then o else o+l*sz,none⟩) (h-l) (m-l))else none
  | _,_,_,_=>none
 | _,_=>none
def oJ(ki:Bool)(k:Value):List (Value×Value×Nat)->Nat->Option (Option (Nat×Value×Nat))
 | [],_=>some none
 | (k', v,born) :: es,i=>match ki,k,k' with
  | true,.int a x,.int b y=>bif decide (a=b)then(bif x==y then some (some (i,v,born))else oJ ki k es (i+1))else none
  | false,.string x,.string y=>bif x.data.toList==y.data.toList then some (some (i,v,born))else oJ ki k es (i+1)
  | _,_,_=>none
def AY(t:TypeId):Option (Bool×TypeId×TypeId):=match P.underlying t with
 | some (.map k e)=>match P.underlying k with
  | some (.int _)=>some (true,k,e)
  | some .string=>some (false,k,e)
  | _=>none
 | _=>none
def AR(A:AH)(sz:Nat):Value->Option (Nat×List Value)
 | .slice none n _=>bif Nat.beq n 0 then some (0,[])else none
 | .slice (some ⟨b,o,none⟩) n _=>bif Nat.beq n 0 then some (0,[])else match se A b o (n*sz)with
  | some l=>bif l.all one then some (n,l)else none
  | none=>none
 | .string s=>bif Nat.beq sz 1 then some (s.size,s.data.toList.map fun c=>.int .u8 c.toNat)else none
 | _=>none
def tc(c:Nat):Option Nat:=bif Nat.ble iU c then some (c-iU)else none
def tD(c:Nat):Nat:=match tc c with
 | some k=>k
 | none=>c
def Ew:Option Nat->Nat->Bool
 | some s,k=>Nat.beq s k
 | none,_=>false
def AS(A:AH)(T0 T1:TypeId)(x y:Value):Option (Value×AH) :=
 match P.underlying T0,P.underlying T1 with
 | some (.slice e),some d1=>match (match d1 with | .slice _=>true | .string=>true|_=>false),l6 P e,B9 P e,tz P e with
  | true,some (sz' + 1),some by_,some z =>
   let sz:=sz' + 1
   match AR A sz y,x with
   | some (n,news),.slice none 0 0 =>
    bif Nat.beq n 0 then some (.slice none 0 0,A)else
    bif Nat.ble (n*by_) 140737488355328&&Nat.ble n 9223372036854775807 then some (.slice (some ⟨A.nf,0,none⟩) n (n+iU),A.add (.cells news e (some sz) false))else none
   | some (n,news),.slice (some ⟨b,o,none⟩) m c =>
    bif Nat.ble (m+n) (tD c)then(match A7 A b (o+m*sz) news with
     | some A' => some (.slice (some ⟨b,o,none⟩) (m+n) c,A')
     | none=>none)
    else bif Nat.ble ((m+n)*by_) 140737488355328&&Nat.ble (m+n) 9223372036854775807 then(match A.get b with
     | some (.cells cs T op ro)=>match pH cs o (m*sz)with
      | some old=>match tc c with
       | some cb=>bif !ro&&Nat.beq (o+cb*sz) cs.length&&Nat.beq T e&&Ew op sz
        then some (.slice (some ⟨A.nf,0,none⟩) (m+n) (m+n+iU),(A.jH b).add (.cells (old++news) e (some sz) false))else none
       | none=>some (.slice (some ⟨A.nf,0,none⟩) (m+n) (m+n+iU),A.add (.cells (old++news) e (some sz) false))
      | none=>none
     | _=>none)
    else none
   | _,_=>none
  | _,_,_,_=>none
 | _,_=>none
def GS(A:AH)(T0 T1:TypeId)(x y:Value):Option (Value×AH) :=
 match x with
 | .slice (some ⟨b,0,none⟩) m c=>match tc c,A.h.get b with
  | some cb,some (.row n0 base d t T op false)=>bif Nat.ble m cb then(match P.underlying T0,P.underlying T1 with
   | some (.slice e),some d1=>match (match d1 with | .slice _=>true | .string=>true|_=>false),l6 P e,B9 P e,tz P e with
    | true,some (sz' + 1),some by_,some z=>match AR A (sz' + 1) y with
     | some (n,news)=>bif Nat.ble (m+n) cb then none else
      bif Nat.ble ((m+n)*by_) 140737488355328&&Nat.ble (m+n) 9223372036854775807&&(Nat.beq (cb*(sz' + 1)) n0&&(Nat.beq T e&&Ew op (sz' + 1)))
       then some (.slice (some ⟨A.nf,0,none⟩) (m+n) (m+n+iU),(A.jH b).Jh (.row (m*(sz' + 1)+news.length) base d (we news (m*(sz' + 1)) t) e (some (sz' + 1)) false))else none
     | none=>none
    | _,_,_,_=>none
   | _,_=>none)else none
  | _,_=>none
 | _=>none
def HE(A:AH)(T0 T1:TypeId)(x y:Value):Option (Value×AH):=match GS P A T0 T1 x y with
 | some r=>some r
 | none=>AS P A T0 T1 x y
def mapM' {β γ:Type}(f:β->Option γ):List β->Option (List γ)
 | []=>some []
 | x :: l=>match f x with
  | some y=>match mapM' f l with
   | some r=>some (y :: r)
   | none=>none
  | none=>none
def pW(lt:Int->Int->Bool):Value->List Value->Option Value
 | v,[]=>some v
 | .int k x,.int k' y :: l=>pW lt (.int k (bif lt y x then y else x)) l
 | _,_=>none
def D0(args:List Value)(T:List TypeId)(A:AH):Option (XR×AH):=match args,T with
 | [x],[t]=>match P.underlying t,x with
  | some .string,.string s=>some (.val (.int .i64 s.size),A)
  | some (.slice _),.slice _ n _=>some (.val (.int .i64 n),A)
  | some (.array n _),_=>some (.val (.int .i64 n),A)
  | some (.map _ _),.map none=>some (.val (.int .i64 0),A)
  | some (.map _ _),.map (some r)=>match A.get r with
   | some (.map es _)=>some (.val (.int .i64 es.length),A)
   | _=>none
  | _,_=>none
 | _,_=>none
def LJ(args:List Value)(T:List TypeId)(A:AH):Option (XR×AH):=match args,T with
 | [x,y],[t,u]=>(HE P A t u x y).map fun p=>(.val p.1,p.2)
 | _,_=>none
def DQ(args:List Value)(T:List TypeId)(A:AH):Option (XR×AH):=match args,T with
 | x :: l,_=>(pW (fun a b=>decide (a<b)) x l).map fun v=>(.val v,A)
 | _,_=>none
def DN(args:List Value)(T:List TypeId)(A:AH):Option (XR×AH):=match args,T with
 | x :: l,_=>(pW (fun a b=>decide (b<a)) x l).map fun v=>(.val v,A)
 | _,_=>none
def ng(b:Builtin)(args:List Value)(T:List TypeId)(A:AH):Option (XR×AH) :=
 match b with
 | .len=>D0 P args T A
 | .append=>LJ P args T A
 | .min=>DQ args T A
 | .max=>DN args T A
 | _=>none
def places(t:TypeId):Option (List (Nat×Nat)):=match P.underlying t with
 | some (.struct fs)=>mapM' (fun f:Field=>(l6 P f.type).map fun s=>(f.offset,s)) fs.toList
 | _=>none
def Eg(src dst:TypeId)(x:Value)(A:AH):Option (XR×AH) :=
 match P.underlying src,P.underlying dst,x with
 | some _,some (.int k),.int _ a=>some (.val (.int k (k.wrap a)),A)
 | some _,some .string,.string s=>some (.val (.string s),A)
 | some (.slice e),some .string,v=>match P.underlying e,v with
  | some (.int .u8),.slice none 0 _=>some (.val (.string ⟨#[]⟩),A)
  | some (.int .u8),.slice (some ⟨b,o,none⟩) n _=>match se A b o n with
   | some l=>(mapM' (fun|Value.int .u8 (.ofNat c)=>some c.toUInt8|_=>none) l).map fun l=>(.val (.string ⟨l.toArray⟩),A)
   | none=>none
  | _,_=>none
 | _,_,_=>none
def wF(t:TypeId)(name:String):Option FuncId :=
 match P.info? t with
 | some i=>match i.methods.find? (fun m=>m.name==name)with
  | some m=>bif m.path.isEmpty then(match m.func,P.underlying t with|some (f,true),some (.pointer _)=>some f|_,_=>none)else none
  | none=>none
 | none=>none
def enters(f:FuncId):Bool:=match P.funcs[f]? with
 | some fn => fn.body.isSome && !(fn.name == "runtime.NumGoroutine")
 | none=>false
def Iw(name:String)(f:FuncId):Bool:=match P.funcs[f]? with
 | some fn => fn.body.isNone && fn.name == name && fn.origin == ""
 | none=>false
def Ow:List Value->Option Value
 | [.int .u64 (.ofNat x),.int .u64 (.ofNat y),.int .u64 (.ofNat c)]=>bif Nat.ble c 1 then some (.tuple #[.int .u64 (((x:Int)+y+c)%18446744073709551616),.int .u64 (((x:Int)+y+c) / 18446744073709551616)])else none
 | _=>none
def NH(x:Operand)(ρ:jb)(A:AH):Option (XR×AH) :=
 (ρ x).map fun v=>(.val v,A)
def LO(x:Operand)(ρ:jb)(A:AH):Option (XR×AH) :=
 (ρ x).map fun v=>(.val v,A)
def HF(c a b:Operand)(ρ:jb)(A:AH):Option (XR×AH) :=
 match ρ c with
 | some (.bool true)=>(ρ a).map fun v=>(.val v,A)
 | some (.bool false)=>(ρ b).map fun v=>(.val v,A)
 | _=>none
def Mg(t:TypeId)(ρ:jb)(A:AH):Option (XR×AH) :=
 (tz P t).map fun z=>(.val (ptr A.nf 0),A.add (.cells z.cells.toList t none false))
def XV(t:TypeId)(x:Operand)(ρ:jb)(A:AH):Option (XR×AH) :=
 (ρ x).map fun v=>(.val (ptr A.nf 0),A.add (.cells v.cells.toList t none false))
def GP(t:TypeId)(parts:Array (Nat×Operand))(ρ:jb)(A:AH):Option (XR×AH) :=
 match tz P t,mapM' (fun p:Nat×Operand=>(ρ p.2).map fun v=>(p.1,v.cells.toList)) parts.toList,P.underlying t with
 | some z,some qs,some (.struct _)=>match places P t with
  | some pl=>(nj pl z.cells.toList qs).map fun cs=>(.val (.agg cs.toArray),A)
  | none=>none
 | some z,some qs,some (.array n e)=>match l6 P e with
  | some sz=>(nj ((List.range n).map fun i=>(i*sz,sz)) z.cells.toList qs).map fun cs=>(.val (.agg cs.toArray),A)
  | none=>none
 | _,_,_=>none
def Km(t:TypeId)(n:Nat)(parts:Array (Nat×Operand))(ρ:jb)(A:AH):Option (XR×AH) :=
 match P.underlying t,mapM' (fun p:Nat×Operand=>(ρ p.2).map fun v=>(p.1,v.cells.toList)) parts.toList with
 | some (.slice e),some qs=>match l6 P e,tz P e with
  | some sz,some z=>bif Nat.ble (n*sz) 16777216&&Nat.ble n 16777216 then(nj ((List.range n).map fun i=>(i*sz,sz)) (rep z.cells.toList n) qs).map fun cs=>(.val (.slice (some ⟨A.nf,0,none⟩) n n),A.add (.cells cs e none false))else none
  | _,_=>none
 | _,_=>none
def Ht(t:TypeId)(a:Operand)(ρ:jb)(A:AH):Option (XR×AH) :=
 match ρ a with
 | some v=>(x8 P A t v).map fun r=>(r,A)
 | none=>none
def Mh(t:TypeId)(a x:Operand)(ρ:jb)(A:AH):Option (XR×AH) :=
 match ρ a,ρ x with
 | some p,some v=>(Oo P A t v p).map fun A' => (.unit,A')
 | _,_=>none
def FR(x:Operand)(ρ:jb)(A:AH):Option (XR×AH) :=
 match ρ x with
 | some (.pointer (some a))=>some (.val (.pointer (some a)),A)
 | some (.func (.func f) fi ca)=>some (.val (.func (.func f) fi ca),A)
 | some (.func (.method name) ⟨.iface t (.pointer (some a)) :: fi⟩ ca)=>match wF P t name with
  | some _=>some (.val (.func (.method name) ⟨.iface t (.pointer (some a)) :: fi⟩ ca),A)
  | none=>none
 | _=>none
def Hl(o:BinOp)(t:TypeId)(x y:Operand)(ρ:jb)(A:AH):Option (XR×AH) :=
 match ρ x,ρ y with
 | some u,some v=>(PX P o t u v).map fun r=>(.val r,A)
 | _,_=>none
def HR(o:UnOp)(x:Operand)(ρ:jb)(A:AH):Option (XR×AH) :=
 match ρ x with
 | some u=>(Qq o u).map fun r=>(.val r,A)
 | none=>none
def Gk(s d:TypeId)(x:Operand)(ρ:jb)(A:AH):Option (XR×AH) :=
 match ρ x with
 | some v=>Eg P s d v A
 | none=>none
def FE(t:TypeId)(x:Operand)(ρ:jb)(A:AH):Option (XR×AH) :=
 match ρ x,P.underlying t with
 | some v,some d=>(match d with | .interface _=>none|_=>some (.val (.iface t v),A))
 | _,_=>none
def FX(fn:Fn)(fi ca:Array Operand)(ρ:jb)(A:AH):Option (XR×AH) :=
 match mapM' ρ fi.toList,mapM' ρ ca.toList with
 | some u,some v=>(match fn with | .yield _=>none|fn=>some (.val (.func fn u.toArray v.toArray),A))
 | _,_=>none
def Gi(t:TypeId)(r:Option Operand)(ρ:jb)(A:AH):Option (XR×AH) :=
 match P.underlying t,(match r with|none=>some 0|some x=>(match ρ x with|some v=>sG v|none=>none))with
 | some (.map _ _),some _=>some (.val (.map (some A.nf)),A.add (.map [] 0))
 | _,_=>none
def FL(t:TypeId)(l c:Operand)(ρ:jb)(A:AH):Option (XR×AH) :=
 match P.underlying t,ρ l,ρ c with
 | some (.slice e),some vl,some vc=>match sG vl,sG vc,l6 P e,B9 P e,tz P e with
  | some l,some c,some sz,some by_,some z=>bif Nat.ble l c&&Nat.ble (c*by_) 140737488355328&&Nat.ble c 9223372036854775807 then some (.val (.slice (some ⟨A.nf,0,none⟩) l c),A.add (.cells (rep z.cells.toList c) e none false))else none
  | _,_,_,_,_=>none
 | _,_,_=>none
def GU(t:TypeId)(x:Operand)(lo hi mx:Option Operand)(ρ:jb)(A:AH):Option (XR×AH) :=
 match ρ x with
 | some v=>(N3 P t v ρ lo hi mx).map fun r=>(.val r,A)
 | none=>none
def FI(s:TypeId)(x:Operand)(f:Nat)(ρ:jb)(A:AH):Option (XR×AH) :=
 match ρ x,P.underlying s with
 | some (.pointer (some ⟨b,o,none⟩)),some (.struct fs)=>match fs.toList[f]? with
  | some fl=>match l6 P fl.type with
   | some (_+1)=>some (.val (ptr b (o+fl.offset)),A)
   | _=>none
  | none=>none
 | _,_=>none
def GN(t:TypeId)(x:Operand)(f:Nat)(ρ:jb)(A:AH):Option (XR×AH) :=
 match ρ x,P.underlying t with
 | some (.agg cs),some (.struct fs)=>match fs.toList[f]? with
  | some fl=>(uG P fl.type cs.toList fl.offset).map fun v=>(.val v,A)
  | none=>none
 | _,_=>none
def FQ(t:TypeId)(x ix:Operand)(ρ:jb)(A:AH):Option (XR×AH) :=
 match ρ x,ρ ix,P.underlying t with
 | some (.slice (some ⟨b,o,none⟩) n _),some vi,some (.slice e)=>match sG vi,l6 P e with
  | some i,some sz=>bif Nat.blt i n then some (.val (ptr b (o+i*sz)),A)else none
  | _,_=>none
 | some (.pointer (some ⟨b,o,none⟩)),some vi,some (.array n e)=>match sG vi,l6 P e with
  | some i,some sz=>bif Nat.blt i n then some (.val (ptr b (o+i*sz)),A)else none
  | _,_=>none
 | _,_,_=>none
def G2(t:TypeId)(x ix:Operand)(ρ:jb)(A:AH):Option (XR×AH) :=
 match ρ x,ρ ix,P.underlying t with
 | some (.agg cs),some vi,some (.array n e)=>match sG vi,l6 P e with
  | some i,some sz=>bif Nat.blt i n then(uG P e cs.toList (i*sz)).map fun v=>(.val v,A)else none
  | _,_=>none
 | some (.string s),some vi,some .string=>match sG vi with
  | some i=>(s.data.toList[i]?).map fun c=>(.val (.int .u8 c.toNat),A)
  | none=>none
 | _,_,_=>none
def Gu(t:TypeId)(x ix:Operand)(ok:Bool)(ρ:jb)(A:AH):Option (XR×AH) :=
 match ρ x,ρ ix,AY P t with
 | some (.map r),some k,some (ki,_,e)=>match (match r with|none=>some []|some r=>(match A.get r with|some (.map es _)=>some es|_=>none)),tz P e with
  | some es,some z=>match oJ ki k es 0 with
   | some (some (_,v,_))=>some (.val (bif ok then .tuple #[v,.bool true]else v),A)
   | some none=>some (.val (bif ok then .tuple #[z,.bool false]else z),A)
   | none=>none
  | _,_=>none
 | _,_,_=>none
def Kv(t:TypeId)(m k x:Operand)(ρ:jb)(A:AH):Option (XR×AH) :=
 match ρ m,ρ k,ρ x,AY P t with
 | some (.map (some r)),some k,some v,some (ki,_,_)=>match A.get r with
  | some (.map es clock)=>match oJ ki k es 0 with
   | some (some (i,_,born))=>some (.unit,A.set r (.map (es.set i (k,v,born)) clock))
   | some none=>some (.unit,A.set r (.map (es++[(k,v,clock)]) (clock+1)))
   | none=>none
  | _=>none
 | _,_,_,_=>none
def KE(t:TypeId)(m k:Operand)(ρ:jb)(A:AH):Option (XR×AH) :=
 match ρ m,ρ k,AY P t with
 | some (.map (some r)),some k,some (ki,_,e)=>match A.get r,tz P e with
  | some (.map es clock),some z=>match oJ ki k es 0 with
   | some (some (i,v,born))=>some (.val (.tuple #[v,.int .i64 born]),A.set r (.map (es.set i (k,v,born)) clock))
   | some none=>some (.val (.tuple #[z,.int .i64 clock]),A.set r (.map (es++[(k,z,clock)]) (clock+1)))
   | none=>none
  | _,_=>none
 | _,_,_=>none
def Kn(t:TypeId)(m s x:Operand)(ρ:jb)(A:AH):Option (XR×AH) :=
 match ρ m,ρ s,ρ x with
 | some (.map (some r)),some (.int _ b),some v=>match A.get r with
  | some (.map es clock)=>match es.findIdx? (fun e=>(e.2.2:Int)==b)with
   | some i=>some (.unit,A.set r (.map (es.modify i fun e=>(e.1,v,e.2.2)) clock))
   | none=>none
  | _=>none
 | _,_,_=>none
def F8(x:Operand)(i:Nat)(ρ:jb)(A:AH):Option (XR×AH) :=
 match ρ x with
 | some (.tuple vs)=>(vs.toList[i]?).map fun v=>(.val v,A)
 | _=>none
def Is(b:Builtin)(args:Array Operand)(T:Array TypeId)(ρ:jb)(A:AH):Option (XR×AH) :=
 match mapM' ρ args.toList with
 | some vs=>ng P b vs T.toList A
 | none=>none
def Ob(f:Operand)(args:Array Operand)(ρ:jb)(A:AH):Option (XR×AH) :=
 match ρ f,mapM' ρ args.toList with
 | some (.func (.func f) fi ca),some vs=>bif enters P f then some (.enter f (fi.toList++vs++ca.toList),A)else
  bif Iw P "math/bits.Add64" f then (Ow (fi.toList ++ vs ++ ca.toList)).map fun v => (.val v, A) else none
 | some (.func (.method name) ⟨.iface t (.pointer (some a)) :: fi⟩ ⟨[]⟩),some vs=>match wF P t name with
  | some f=>bif enters P f then some (.enter f (.pointer (some a) :: fi++vs),A)else none
  | none=>none
 | some (.func (.yield l) ⟨[]⟩ ⟨[]⟩),some vs=>some (.yield l vs,A)
 | _,_=>none
def NY(x:Operand)(name:String)(args:Array Operand)(ρ:jb)(A:AH):Option (XR×AH) :=
 match ρ x,mapM' ρ args.toList with
 | some (.iface t (.pointer (some a))),some vs=>match wF P t name with
  | some f=>bif enters P f then some (.enter f (.pointer (some a) :: vs),A)else none
  | none=>none
 | _,_=>none
def AV(c:Call)(ρ:jb)(A:AH):Option (XR×AH):=match c with
 | ⟨.builtin b,args,T⟩=>Is P b args T ρ A
 | ⟨.value f,args,_⟩=>Ob P f args ρ A
 | ⟨.invoke x name,args,_⟩=>NY P x name args ρ A
def jh(ty:TypeId)(op:Op)(ρ:jb)(A:AH):Option (XR×AH) :=
 match op with
 | .move x=>NH x ρ A
 | .assign x=>LO x ρ A
 | .pick c a b=>HF c a b ρ A
 | .alloc t=>Mg P t ρ A
 | .box t x=>XV t x ρ A
 | .build t parts=>GP P t parts ρ A
 | .buildSlice t n parts=>Km P t n parts ρ A
 | .load t a=>Ht P t a ρ A
 | .store t a x=>Mh P t a x ρ A
 | .nilCheck x=>FR P x ρ A
 | .binOp o t x y _=>Hl P o t x y ρ A
 | .unOp o _ x=>HR o x ρ A
 | .convert s d x=>Gk P s d x ρ A
 | .makeInterface t x=>FE P t x ρ A
 | .makeFunc fn fi ca=>FX fn fi ca ρ A
 | .makeMap t r=>Gi P t r ρ A
 | .makeSlice t l c=>FL P t l c ρ A
 | .slice t x lo hi mx=>GU P t x lo hi mx ρ A
 | .fieldAddr s x f=>FI P s x f ρ A
 | .field t x f=>GN P t x f ρ A
 | .indexAddr t x ix=>FQ P t x ix ρ A
 | .index t x ix=>G2 P t x ix ρ A
 | .lookup t x ix ok=>Gu P t x ix ok ρ A
 | .mapUpdate t m k x=>Kv P t m k x ρ A
 | .mapEntry t m k=>KE P t m k ρ A
 | .entryStore t m s x=>Kn t m s x ρ A
 | .extract x i=>F8 x i ρ A
 | .call c=>AV P c ρ A
 | _=>none
def GB:Nat:=1000
abbrev ja := Tr Value
def l5(n:Nat)(σ:ja):jb
 | .tmp t=>bif Nat.blt t n then(match σ.get t with|some v=>some v|none=>some undef)else some undef
 | .const v=>bif Nat.beq (nm v) 0 then some v else none
 | .global g=>bif Nat.blt g GB then some (ptr g 0)else none
 | .func f=>some (.func (.func f) #[] #[])
def oO(σ:ja)(d:Option Nat)(v:Value):ja := match d with
 | some d=>σ.put d (some v)
 | none=>σ
def sg(ops:List Oper)(n:Nat)(σ:ja):Option (Nat×Bool)->Bool
 | none=>true
 | some (j,want)=>match qZ ops j with
  | some d=>match l5 n σ (.tmp d)with
   | some v=>yG v want
   | none=>false
  | none=>false
inductive B4 where
 | code (c:Code) (q:Bool) (n:Nat) (σ:ja) (ds:List Nat) (A:AH)
 | rounds (c:Code) (q:Bool) (n:Nat) (σ:ja) (ds:List Nat) (A:AH)
 | call (f:FuncId) (args:List Value) (A:AH)
 | yield (l:Nat) (args:List Value) (A:AH)
inductive Out where
 | code (e:Exit) (σ:ja) (ds:List Nat) (A:AH)
 | call (v:Value) (A:AH)
abbrev Rec:=B4->Option Out
def Ap(rec:Rec)(q:Bool)(o:Oper)(n:Nat)(σ:ja)(A:AH):Option (Value×AH) :=
 match jh P o.type o.op (l5 n σ) A with
 | some (.val v,A')=>some (v,A')
 | some (.unit,A')=>some (undef,A')
 | some (.enter f args,A')=>match rec (.call f args A')with
  | some (.call v A'')=>some (v,A'')
  | _=>none
 | some (.yield l args,A')=>bif q then(match rec (.yield l args A')with
  | some (.call v A'')=>some (v,A'')
  | _=>none)else none
 | none=>none
def yS(rec:Rec)(q:Bool)(ops:List Oper)(n:Nat)(l:List Oper):ja -> AH->Option (ja × AH) :=
 List.rec (motive:=fun _=>ja -> AH->Option (ja × AH)) (fun σ A=>some (σ,A)) (fun o _ ih σ A=>cond (sg ops n σ o.guard) (match Ap P rec q o n σ A with
  | some (v,A')=>ih (oO σ o.dst v) A'
  | none=>none) (ih (oO σ o.dst undef) A)) l
theorem Vw(rec:Rec)(q:Bool)(ops:List Oper)(n:Nat)(σ:ja)(A:AH):yS P rec q ops n [] σ A=some (σ,A):=rfl
theorem TL(rec:Rec)(q:Bool)(ops:List Oper)(n:Nat)(o:Oper)(l:List Oper)(σ:ja)(A:AH):yS P rec q ops n (o :: l) σ A=bif sg ops n σ o.guard then(match Ap P rec q o n σ A with
 | some (v,A')=>yS P rec q ops n l (oO σ o.dst v) A'
 | none=>none)
 else yS P rec q ops n l (oO σ o.dst undef) A:=rfl
def uU:List Value->Nat->ja -> ja
 | [],_,σ=>σ
 | v :: vs,i,σ=>uU vs (i+1) (σ.put i (some v))
def pK:List Nat->List Value->ja -> ja
 | p :: ps,v :: vs,σ=>pK ps vs (σ.put p (some v))
 | _,_,σ=>σ
def uQ(n:Nat)(σ:ja)(A:AH):List ResultVar->Option (List Value)
 | []=>some []
 | .tmp t :: l=>match l5 n σ (.tmp t),uQ n σ A l with
  | some v,some vs=>some (v :: vs)
  | _,_=>none
 | .cell a t :: l=>match l5 n σ (.tmp a)with
  | some p=>match x8 P A t p,uQ n σ A l with
   | some (.val v),some vs=>some (v :: vs)
   | _,_=>none
  | none=>none
def qp:List Value->Value
 | [v]=>v
 | vs=>.tuple vs.toArray
def IY:Exit->Bool
 | .ret=>true
 | .normal=>true
 | _=>false
def vX(A:AH):List Nat->Option AH
 | []=>some A
 | d :: ds=>match A.get d with
  | some .o5=>vX (A.jH d) ds
  | _=>none
abbrev p9:=Rec->Bool->List Oper->Nat->ja -> AH->Option (ja × AH)
def D3(rec:Rec)(f:FuncId)(args:List Value)(A:AH):Option Out:=match P.funcs[f]? with
 | some fn=>match fn.body with
  | some c=>bif Nat.ble args.length fn.ntmps then(match rec (.code c true fn.ntmps (uU args 0 .e) [] A)with
   | some (.code e σ ds A')=>bif IY e then(match vX A' ds with
    | some A'' => (uQ P fn.ntmps σ A'' fn.results.toList).map fun vs=>.call (qp vs) A''
    | none=>none)else none
   | _=>none)else none
  | none=>none
 | none=>none
def Io(rec:Rec)(l:Nat)(args:List Value)(A:AH):Option Out:=match A.get l with
 | some (.loop n σ ps assign body dd)=>bif Nat.beq args.length ps.length then
  (match rec (.code assign false n (pK ps args σ) [] A)with
  | some (.code .normal σ' [] A')=>match A'.get l with
   | some (.loop n2 σ2 ps2 assign2 body2 dd2)=>match rec (.code body false n σ' [] (A'.jH l))with
    | some (.code .normal _ [] A'')=>some (.call (.bool true) (A''.set l (.loop n2 σ2 ps2 assign2 body2 dd2)))
    | some (.code .ret _ [] A'')=>some (.call (.bool false) (A''.set l (.done none)))
    | some (.code (.exit i) _ [] A'')=>some (.call (.bool false) (A''.set l (.done (some i))))
    | _=>none
   | _=>none
  | _=>none)else none
 | _=>none
def Hv(rec:Rec)(c:Code)(q:Bool)(n:Nat)(σ:ja)(ds:List Nat)(A:AH):Option Out:=match rec (.code c q n σ ds A)with
 | some (.code .normal σ' ds' A')=>rec (.rounds c q n σ' ds' A')
 | r=>r
def Nw(reg:p9)(rec:Rec)(ops:Array Oper)(draw q:Bool)(n:Nat)(σ:ja)(ds:List Nat)(A:AH):Option Out :=
 (bif draw then reg rec q ops.toList n σ A else yS P rec q ops.toList n ops.toList σ A).map fun p=>.code .normal p.1 ds p.2
def P9(rec:Rec)(a b:Code)(q:Bool)(n:Nat)(σ:ja)(ds:List Nat)(A:AH):Option Out:=match rec (.code a q n σ ds A)with
 | some (.code .normal σ' ds' A')=>rec (.code b q n σ' ds' A')
 | r=>r
def Pm(rec:Rec)(x:Operand)(a b:Code)(q:Bool)(n:Nat)(σ:ja)(ds:List Nat)(A:AH):Option Out:=match l5 n σ x with
 | some (.bool true)=>rec (.code a q n σ ds A)
 | some (.bool false)=>rec (.code b q n σ ds A)
 | _=>none
def NQ(rec:Rec)(id:Nat)(b:Code)(q:Bool)(n:Nat)(σ:ja)(ds:List Nat)(A:AH):Option Out:=match rec (.code b q n σ ds A)with
 | some (.code (.exit i) σ' ds' A')=>bif Nat.beq i id then some (.code .normal σ' ds' A')else some (.code (.exit i) σ' ds' A')
 | r=>r
def Oe(rec:Rec)(b:Code)(q:Bool)(n:Nat)(σ:ja)(ds:List Nat)(A:AH):Option Out:=match rec (.code b q n σ ds A)with
 | some (.code (.goto _) _ _ _)=>none
 | r=>r
def N5(rec:Rec)(x:Operand)(ps:Array Tmp)(assign body:Code)(q:Bool)(n:Nat)(σ:ja)(ds:List Nat)(A:AH):Option Out:=bif q then(match l5 n σ x with
 | some (.func (.func f) fi ca)=>bif enters P f then(match rec (.call f (fi.toList++[.func (.yield (A.nf+1)) #[] #[]]++ca.toList) ((A.add .o5).add (.loop n σ ps.toList assign body A.nf)))with
  | some (.call _ A')=>match A'.get (A.nf+1)with
   | some (.loop ..)=>some (.code .normal σ (A.nf :: ds) (A'.jH (A.nf+1)))
   | some (.done none)=>some (.code .ret σ (A.nf :: ds) (A'.jH (A.nf+1)))
   | some (.done (some i))=>some (.code (.exit i) σ (A.nf :: ds) (A'.jH (A.nf+1)))
   | _=>none
  | _=>none)else none
 | _=>none)else none
def su(reg:p9)(rec:Rec)(c:Code)(q:Bool)(n:Nat)(σ:ja)(ds:List Nat)(A:AH):Option Out:=match c with
 | .skip=>some (.code .normal σ ds A)
 | .region _ ops draw=>Nw P reg rec ops draw q n σ ds A
 | .seq a b=>P9 rec a b q n σ ds A
 | .cond x a b=>Pm rec x a b q n σ ds A
 | .block id b=>NQ rec id b q n σ ds A
 | .loop b=>rec (.rounds b q n σ ds A)
 | .scope b=>Oe rec b q n σ ds A
 | .label _=>some (.code .normal σ ds A)
 | .exit i=>some (.code (.exit i) σ ds A)
 | .ret=>some (.code .ret σ ds A)
 | .rangeFunc x ps assign body=>N5 P rec x ps assign body q n σ ds A
 | _=>none
def step(reg:p9)(rec:Rec):B4->Option Out
 | .call f args A=>D3 P rec f args A
 | .yield l args A=>Io rec l args A
 | .rounds c q n σ ds A=>Hv rec c q n σ ds A
 | .code c q n σ ds A=>su P reg rec c q n σ ds A
def run(reg:p9)(k:Nat):Rec:=Nat.rec (motive:=fun _=>Rec) (fun _=>none) (fun _ ih j=>step P reg ih j) k
theorem TD (reg:p9)(j:B4):run P reg 0 j=none:=rfl
end
end
end Go.Ex
namespace Go.Ex
open Go Go.Sx
noncomputable def slots(n:Nat)(E:Env)(σ:Tr Value):List (Nat×Value):=(List.range n).map fun t=>(t,fT E ((σ.get t).getD undef))
theorem Uu(f:Nat->Value):∀ (n t:Nat),Sx.look ((List.range' t n).map fun i=>(i,f i))=fun i=>if t<=i/\i<t+n then f i else undef:=by
 intro n
 induction n with
 | zero=>intro t;funext i;simp[Sx.look];omega
 | succ n ih =>
  intro t
  funext i
  rw[List.range'_succ,z1,vM,ih (t+1)]
  by_cases h:t=i
  . subst h;simp
  . rw[if_neg h]
    show (if t+1<=i/\i<t+1+n then f i else undef)=_
    by_cases h2:t<=i/\i<t+(n+1)
    . rw[if_pos h2,if_pos o_]
    . rw[if_neg h2,if_neg o_]
theorem rS(n:Nat)(E:Env)(σ:Tr Value)(t:Nat):Sx.look (slots n E σ) t=if t<n then fT E ((σ.get t).getD undef)else undef:=by
 have:=congrFun (Uu (fun t=>fT E ((σ.get t).getD undef)) n 0) t
 rw[<-List.range_eq_range']at this
 simpa[slots]using this
theorem Dv {n:Nat}{s s' : List (Nat×Value)}(ds:List Deferred)(h:∀ t,t<n->Sx.look s t=Sx.look s' t):Fr n s ds=Fr n s' ds:=by
 unfold Fr
 congr 2
 funext i
 exact h i.val i.isLt
def nD(E:Env)(ds:List Nat):List Deferred:=ds.map fun d=>⟨.collected (E d).blk,#[]⟩
noncomputable def Fx(n:Nat)(E:Env)(σ:Tr Value)(ds:List Nat):Act:=Fr n (slots n E σ) (nD E ds)
def AO.ro:AO->Bool
 | .cells _ _ _ r=>r
 | _=>false
def jI(k:Nat)(σ:Tr Value):Prop:=∀ t v,σ.get t=some v->nm v<=k
def AO.Wf(k:Nat):AO->Prop
 | .cells cs _ _ _=>gT cs<=k
 | .map es _=>∀ e∈es,nm e.1<=k/\nm e.2.1<=k
 | .loop _ σ _ _ _ dd=>jI k σ/\dd<k
 | .done _=>True
 | .uK m _ _ _=>∀ x,m=some x->x<k
 | .o5=>True
def ot(E:Env)(x:Nm):AO->Obj->Prop
 | .cells cs T op true,c=>∃ arr T' mk,c = .cells arr T' mk/\∀ j u,cs[j]? = some u->arr[x.sh+j]? = some (fT E u)
 | .cells cs T op false,c=>∃ pre post:List Value,c = .cells (pre++cs.map (fT E)++post).toArray T (0,0)/\pre.length=x.sh/\∀ sz,op=some sz->post.length=x.sl*sz
 | .map es clock,c=>c = .map (es.map fun e=>(⟨fT E e.1,fT E e.2.1,e.2.2⟩:MapEntry)).toArray clock
 | .loop n σ ps assign body dd,c=>∃ fn ds,c = .loop ⟨.ready,none,fn,(Fr n (slots n E σ) ds).tmps,ps.toArray,assign,body,(E dd).blk⟩
 | .done j,c=>∃ rc:Loop,c = .loop rc/\rc.state = .done/\rc.pending=some (match j with|none=>.ret|some i=>.exit i)
 | .uK m since seen last,c=>x.sh=0/\c = .mapIter (m.map fun b=>(E b).blk) since seen.toArray last
 | .o5,c=>c = .deferred (some [])
theorem AO.Wf.mono{k k' : Nat}{o:AO}(h:o.Wf k)(hk:k<=k'):o.Wf k' := by
 cases o with
 | cells cs T op ro=>exact z7 h hk
 | map es c=>exact fun e he=>⟨z7 (h e he).1 hk,z7 (h e he).2 hk⟩
 | loop n σ ps a b dd=>exact⟨fun t v hv=>z7 (h.1 t v hv) hk,z6 h.2 hk⟩
 | done j=>trivial
 | uK m a b c=>exact fun x hx=>z6 (h x hx) hk
 | o5=>trivial
theorem AJ(E:Env):fT E undef=undef:=rfl
theorem CN{n k:Nat}{E E' : Env}{σ:Tr Value}(h:∀ b,b<k->E' b=E b)(hs:jI k σ):slots n E' σ=slots n E σ:=by
 unfold slots
 refine zO fun t _=>?_
 cases hv:σ.get t with
 | none=>rfl
 | some v=>simp only[zT];rw[s6 h v (hs t v hv)]
theorem ot.ext{E E' : Env}{k:Nat}{x:Nm}{o:AO}{c:Obj}(h:∀ b,b<k->E' b=E b)(hw:o.Wf k)(hl:ot E x o c):ot E' x o c:=by
 cases o with
 | cells cs T op ro =>
  cases ro with
  | false =>
   obtain⟨pre,post,e,h1,h2⟩:=hl
   exact⟨pre,post,by rw[FU h hw];exact e,h1,h2⟩
  | true =>
   obtain⟨arr,T', mk,e,h1⟩:=hl
   exact⟨arr,T', mk,e,fun j u hu=>by rw[s6 h u (ku.1 hw u (zh hu))];exact h1 j u hu⟩
 | map es clock =>
  have:(es.map fun e=>(⟨fT E' e.1,fT E' e.2.1,e.2.2⟩:MapEntry))=es.map fun e=>(⟨fT E e.1,fT E e.2.1,e.2.2⟩:MapEntry) :=
   zO fun e he=>by rw[s6 h _ (hw e he).1,s6 h _ (hw e he).2]
  simp only[ot]at hl ⊢
  rw[this];exact hl
 | loop n σ ps a b dd =>
  obtain⟨fn,ds,e⟩:=hl
  exact⟨fn,ds,by rw[CN h hw.1,h dd hw.2];exact e⟩
 | done j=>exact hl
 | uK m a b d =>
  simp only[ot]at hl ⊢
  cases m with
  | none=>exact hl
  | some y=>rw[hl.2];simp only[nu];rw[h y (hw y rfl)];exact⟨hl.1,rfl⟩
 | o5=>exact hl
structure Rel (E:Env) (A:AH) (w:World):Prop where
 obj:∀ b o,A.get b=some o->∃ c,w.heap[(E b).blk]? = some c/\ot E (E b) o c
 inj:∀ b b' o o', A.get b=some o->A.get b' = some o' -> (E b).blk=(E b').blk->b=b'
 wf:∀ b o,A.get b=some o->b<A.nf/\o.Wf A.nf
 kN:∀ b,b<GB->E b=⟨b,0,0⟩
 low:GB<=A.nf
structure To (E:Env) (A:AH) (w:World) (E' : Env) (A' : AH) (w' : World):Prop where
 nf:A.nf<=A'.nf
 ext:∀ b,b<A.nf->E' b=E b
 os:w'.os=w.os
 tape:w'.tape=w.tape
 output:w'.output=w.output
 size:w.heap.size<=w'.heap.size
 blk:∀ x,x<w.heap.size->(∀ b o,A.get b=some o->o.ro=false->(E b).blk≠x)->w'.heap[x]? = w.heap[x]?
 mine:∀ b o,A'.get b=some o->(∃ c oc,A.get c=some oc/\(E' b).blk=(E c).blk/\(o.ro=false->oc.ro=false))\/w.heap.size<=(E' b).blk
section
variable {E E' E'' : Env} {A A' A'' : AH} {w w' w'' : World} {o o' : AO} {b:Nat}
theorem To.refl(E:Env)(A:AH)(w:World):To E A w E A w :=
 ⟨zn _,fun _ _=>rfl,rfl,rfl,rfl,zn _,fun _ _ _=>rfl,fun b o h=>.inl ⟨b,o,h,rfl,id⟩⟩
theorem To.trans(h:To E A w E' A' w')(k:To E' A' w' E'' A'' w''):To E A w E'' A'' w'' := by
 refine⟨z7 h.nf k.nf,fun b hb=>(k.ext b (z6 hb h.nf)).trans (h.ext b hb),k.os.trans h.os,k.tape.trans h.tape,k.output.trans h.output,z7 h.size k.size,fun x hx hn=>?_,fun b o hb=>?_⟩
 . refine(k.blk x (z6 hx h.size) fun b o hb hr e=>?_).trans (h.blk x hx hn)
   rcases h.mine b o hb with ⟨c,oc,hc,he,hro⟩|hs
   . exact hn c oc hc (hro hr) (he.symm.trans e)
   . omega
 . rcases k.mine b o hb with ⟨c,oc,hc,he,hro⟩|hs
   . rcases h.mine c oc hc with ⟨c2,oc2,hc2,he2,hro2⟩|hs2
     . exact .inl ⟨c2,oc2,hc2,he.trans he2,fun hr=>hro2 (hro hr)⟩
     . exact .inr (by rw[he];exact hs2)
   . exact .inr (z7 h.size hs)
theorem Nr(d:Value):∀ (l:List Value) (i:Nat),En l d i=(l[i]?).getD d
 | [],i=>rfl
 | x :: l,0=>rfl
 | x :: l,i+1=>by
  show En l d i=_
  rw[Nr d l i];simp
theorem xm(n:Nat)(base:List Value)(d:Value)(t:Tr Value):(oh n base d t).length=n:=by simp[oh]
theorem vQ(n:Nat)(base:List Value)(d:Value)(t:Tr Value)(i:Nat):(oh n base d t)[i]? = if i<n then some (rowAt base d t i)else none:=by
 unfold oh
 rw[kJ]
 by_cases h:i<n
 . rw[if_pos h,Ad h];rfl
 . rw[if_neg h,mB (by simp;omega)];rfl
theorem TG(cs:List Value)(d:Value):oh cs.length cs d .e=cs:=by
 refine nq fun i=>?_
 rw[vQ]
 by_cases h:i<cs.length
 . rw[if_pos h]
   show some (En cs d i)=_
   rw[Nr];simp[h]
 . rw[if_neg h,mB o_]
theorem vN:∀ (vs:List Value) (o:Nat) (t:Tr Value) (i:Nat),(we vs o t).get i=if o<=i/\i<o+vs.length then vs[i-o]? else t.get i
 | [],o,t,i=>by
  rw[if_neg (by simp only[zx];omega)];rfl
 | v :: vs,o,t,i=>by
  show (we vs (o+1) (t.put o (some v))).get i=_
  rw[vN vs (o+1) _ i,Tr.r7]
  by_cases h1:o+1<=i/\i<o+1+vs.length
  . rw[if_pos h1,if_pos (by simp;omega)]
    obtain⟨k,rfl⟩:∃ k,i=o+1+k:=⟨i-(o+1),o_⟩
    rw[show o+1+k-(o+1)=k by omega,show o+1+k-o=k+1 by omega]
    simp
  . rw[if_neg h1]
    by_cases h2:i=o
    . subst h2;simp
    . rw[if_neg h2,if_neg (by simp;omega)]
theorem SN(cs:List Value)(d:Value):oh cs.length [] d (we cs 0 .e)=cs:=by
 refine nq fun i=>?_
 rw[vQ]
 by_cases h:i<cs.length
 . rw[if_pos h]
   unfold rowAt
   rw[vN,if_pos (show 0<=i/\i<0+cs.length by omega)]
   have:cs[i-0]? = some cs[i]:=by rw[wS];exact zk h
   rw[this]
   simp[h]
 . rw[if_neg h,mB o_]
theorem PO.Ea(o:AO):(PO.of o).to=o:=by
 cases o with
 | cells cs T op ro =>
  simp only[PO.of]
  cases Nat.ble cs.length 24 with
  | true=>simp only[cond_true,PO.to,TG]
  | false=>simp only[cond_false,PO.to,SN]
 | _=>rfl
theorem AH.xV(h:Tr PO)(n b:Nat)(p:PO)(b' : Nat)(n' : Nat):(⟨h.put b (some p),n⟩:AH).get b' = if b' = b then some p.to else(⟨h,n'⟩:AH).get b' := by
 unfold AH.get
 simp only[Tr.r7]
 by_cases e:b' = b
 . simp[e]
 . simp[e]
theorem uB(A:AH)(b b' : Nat)(o:AO):(A.set b o).get b' = if b' = b then some o else A.get b' := by
 unfold AH.set;rw[AH.xV (n' := A.nf),PO.Ea]
theorem xu(A:AH)(b b' : Nat):(A.jH b).get b' = if b' = b then none else A.get b' := by
 unfold AH.get AH.jH
 simp only[Tr.r7]
 by_cases e:b' = b
 . simp[e]
 . simp[e]
theorem Vb(A:AH)(b' : Nat)(p:PO):(A.Jh p).get b' = if b' = A.nf then some p.to else A.get b' := by
 unfold AH.Jh;rw[AH.xV (n' := A.nf)]
theorem pg(A:AH)(b' : Nat)(o:AO):(A.add o).get b' = if b' = A.nf then some o else A.get b' := by
 unfold AH.add;rw[AH.xV (n' := A.nf),PO.Ea]
def lN(A A' : AH):Prop:=A.nf=A'.nf/\∀ b,A.get b=A'.get b
theorem Rel.same(h:Rel E A w)(s:lN A' A):Rel E A' w :=
 ⟨fun b o hb=>h.obj b o (by rw[<-s.2];exact hb),fun b b' o o' hb hb' => h.inj b b' o o' (by rw[<-s.2];exact hb) (by rw[<-s.2];exact hb'),fun b o hb=>by rw[s.1];exact h.wf b o (by rw[<-s.2];exact hb),h.kN,by rw[s.1];exact h.low⟩
theorem To.same(h:To E A w E' A' w')(s:lN A'' A'):To E A w E' A'' w' :=
 ⟨by rw[s.1];exact h.nf,h.ext,h.os,h.tape,h.output,h.size,h.blk,fun b o hb=>h.mine b o (by rw[<-s.2];exact hb)⟩
theorem Rel.lt(h:Rel E A w)(hb:A.get b=some o):(E b).blk<w.heap.size:=by
 obtain⟨c,hc,_⟩:=h.obj b o hb
 exact(z8.1 hc).1
theorem Rel.iE{c' : Obj}(h:Rel E A w)(hb:A.get b=some o)(hro:o.ro=false)(hro' : o'.ro=false)(hw:w'.heap[(E b).blk]? = some c')(hl:ot E (E b) o' c')(hn:o'.Wf A.nf)(hc:gD [(E b).blk] w w') :
 Rel E (A.set b o') w' /\ To E A w E (A.set b o') w' := by
 refine⟨⟨fun b1 o1 h1=>?_,fun b1 b2 o1 o2 h1 h2 e=>?_,fun b1 o1 h1=>?_,h.kN,h.low⟩,⟨zn _,fun _ _=>rfl,hc.os,hc.tape,hc.output,hc.size,fun x hx hn' => ?_,fun b1 o1 h1=>?_⟩⟩
 . rw[uB]at h1
   split at h1
   . rename_i e;subst e;cases h1;exact⟨c', hw,hl⟩
   . rename_i e
     obtain⟨c1,hc1,hl1⟩:=h.obj b1 o1 h1
     exact⟨c1,(hc.block _ (h.lt h1) (by simp;exact fun e2=>e (h.inj b1 b o1 o h1 hb e2))).trans hc1,hl1⟩
 . have g:∀ b1 o1,(A.set b o').get b1=some o1->∃ o2,A.get b1=some o2:=by
    intro b1 o1 h1
    rw[uB]at h1
    split at h1
    . rename_i e;subst e;exact⟨o,hb⟩
    . exact⟨o1,h1⟩
   obtain⟨p1,hp1⟩:=g b1 o1 h1
   obtain⟨p2,hp2⟩:=g b2 o2 h2
   exact h.inj b1 b2 p1 p2 hp1 hp2 e
 . rw[uB]at h1
   split at h1
   . rename_i e;subst e;cases h1;exact⟨(h.wf _ _ hb).1,hn⟩
   . exact h.wf b1 o1 h1
 . exact hc.block x hx (by simp;exact fun e=>hn' b o hb hro e.symm)
 . rw[uB]at h1
   split at h1
   . rename_i e;subst e;cases h1;exact .inl ⟨b1,o,hb,rfl,fun _=>hro⟩
   . exact .inl ⟨b1,o1,h1,rfl,id⟩
def kP(E:Env)(k:Nat)(x:Nm):Env:=fun b=>bif Nat.beq b k then x else E b
theorem kL(E:Env)(k:Nat)(x:Nm):kP E k x k=x:=by simp[kP]
theorem nY(E:Env){k b:Nat}(x:Nm)(h:b≠k):kP E k x b=E b:=by simp[kP,nS,h]
theorem NX(E:Env){k:Nat}(x:Nm):∀ b,b<k->kP E k x b=E b:=fun b h=>nY E x o_
theorem Rel.new{c:Obj}{x:Nm}(h:Rel E A w)(hw:w'.heap[x.blk]? = some c)(hx:w.heap.size<=x.blk)(hl:ot E x o c)(hn:o.Wf A.nf)(hc:gD [] w w') :
 Rel (kP E A.nf x) (A.add o) w' /\ To E A w (kP E A.nf x) (A.add o) w' := by
 have ext:=NX E (k:=A.nf) x
 have gl:∀ b,b<GB->kP E A.nf x b=⟨b,0,0⟩:=fun b hb=>(ext b (z6 hb h.low)).trans (h.kN b hb)
 refine⟨⟨fun b1 o1 h1=>?_,fun b1 b2 o1 o2 h1 h2 e=>?_,fun b1 o1 h1=>?_,gl,Fs h.low⟩,⟨by simp[AH.add],ext,hc.os,hc.tape,hc.output,hc.size,fun y hy hn' => hc.block y hy s_,fun b1 o1 h1=>?_⟩⟩
 . rw[pg]at h1
   split at h1
   . rename_i e;subst e;cases h1
     rw[kL]
     exact⟨c,hw,hl.ext ext hn⟩
   . rename_i e
     obtain⟨c1,hc1,hl1⟩:=h.obj b1 o1 h1
     rw[nY E x e]
     exact⟨c1,(hc.block _ (h.lt h1) s_).trans hc1,hl1.ext ext (h.wf b1 o1 h1).2⟩
 . rw[pg]at h1 h2
   split at h1
   . rename_i e1
     split at h2
     . rename_i e2;rw[e1,e2]
     . rename_i e2
       exfalso
       rw[e1,kL,nY E x e2]at e
       have:=h.lt h2
       omega
   . rename_i e1
     split at h2
     . rename_i e2
       exfalso
       rw[e2,kL,nY E x e1]at e
       have:=h.lt h1
       omega
     . rename_i e2
       rw[nY E x e1,nY E x e2]at e
       exact h.inj b1 b2 o1 o2 h1 h2 e
 . rw[pg]at h1
   split at h1
   . rename_i e;subst e;cases h1;exact⟨by simp[AH.add],hn.mono (by simp[AH.add])⟩
   . have:=h.wf b1 o1 h1
     exact⟨by simp[AH.add];omega,this.2.mono (by simp[AH.add])⟩
 . rw[pg]at h1
   split at h1
   . rename_i e;subst e;exact .inr (by rw[kL];exact hx)
   . rename_i e;exact .inl ⟨b1,o1,h1,by rw[nY E x e],id⟩
theorem Rel.jH(h:Rel E A w)(b:Nat):Rel E (A.jH b) w/\To E A w E (A.jH b) w:=by
 have g:∀ b1 o1,(A.jH b).get b1=some o1->A.get b1=some o1:=by
  intro b1 o1 h1
  rw[xu]at h1
  split at h1
  . cases h1
  . exact h1
 exact⟨⟨fun b1 o1 h1=>h.obj b1 o1 (g b1 o1 h1),fun b1 b2 o1 o2 h1 h2 e=>h.inj b1 b2 o1 o2 (g _ _ h1) (g _ _ h2) e,fun b1 o1 h1=>h.wf b1 o1 (g _ _ h1),h.kN,h.low⟩,
  ⟨zn _,fun _ _=>rfl,rfl,rfl,rfl,zn _,fun _ _ _=>rfl,fun b1 o1 h1=>.inl ⟨b1,o1,g _ _ h1,rfl,id⟩⟩⟩
theorem Rel.drew(h:Rel E A w):Rel E A w.drew/\To E A w E A w.drew :=
 ⟨⟨h.obj,h.inj,h.wf,h.kN,h.low⟩,⟨zn _,fun _ _=>rfl,rfl,rfl,rfl,zn _,fun _ _ _=>rfl,fun b o h=>.inl ⟨b,o,h,rfl,id⟩⟩⟩
theorem Rel.take{c:Obj}{x:Nm}(h:Rel E A w)(hb:A.get b=some o)(hro:o.ro=false)(hxb:x.blk=(E b).blk)(hw:w'.heap[x.blk]? = some c)(hl:ot E x o' c)(hn:o'.Wf A.nf)(hc:gD [(E b).blk] w w') :
 Rel (kP E A.nf x) ((A.jH b).add o') w' /\ To E A w (kP E A.nf x) ((A.jH b).add o') w' := by
 have ext:=NX E (k:=A.nf) x
 have hnf:(A.jH b).nf=A.nf:=rfl
 have hbn:b<A.nf:=(h.wf b o hb).1
 have g:∀ b1 o1,((A.jH b).add o').get b1=some o1->(b1=A.nf/\o1=o')\/(b1≠A.nf/\b1≠b/\A.get b1=some o1):=by
  intro b1 o1 h1
  rw[pg,hnf]at h1
  split at h1
  . rename_i e;cases h1;exact .inl ⟨e,rfl⟩
  . rename_i e
    rw[xu]at h1
    split at h1
    . cases h1
    . rename_i e2;exact .inr ⟨e,e2,h1⟩
 have gl:∀ b,b<GB->kP E A.nf x b=⟨b,0,0⟩:=fun b hb=>(ext b (z6 hb h.low)).trans (h.kN b hb)
 refine⟨⟨fun b1 o1 h1=>?_,fun b1 b2 o1 o2 h1 h2 e=>?_,fun b1 o1 h1=>?_,gl,Fs h.low⟩,⟨by simp[AH.add,AH.jH],ext,hc.os,hc.tape,hc.output,hc.size,fun y hy hn' => hc.block y hy (by simp;exact fun e=>hn' b o hb hro e.symm),fun b1 o1 h1=>?_⟩⟩
 . rcases g b1 o1 h1 with ⟨rfl,rfl⟩|⟨e1,e2,h1⟩
   . rw[kL]
     exact⟨c,hw,hl.ext ext hn⟩
   . obtain⟨c1,hc1,hl1⟩:=h.obj b1 o1 h1
     rw[nY E x e1]
     exact⟨c1,(hc.block _ (h.lt h1) (by simp;exact fun e=>e2 (h.inj b1 b o1 o h1 hb e))).trans hc1,hl1.ext ext (h.wf b1 o1 h1).2⟩
 . rcases g b1 o1 h1 with ⟨rfl,rfl⟩|⟨e1,e2,h1⟩
   . rcases g b2 o2 h2 with ⟨rfl,rfl⟩|⟨e3,e4,h2⟩
     . rfl
     . exfalso
       rw[kL,nY E x e3,hxb]at e
       exact e4 (h.inj b2 b o2 o h2 hb e.symm)
   . rename_i h1'
     rcases g b2 o2 h2 with ⟨rfl,rfl⟩|⟨e3,e4,h2⟩
     . exfalso
       rw[kL,nY E x e1,hxb]at e
       exact e2 (h.inj b1 b o1 o h1 hb e)
     . rw[nY E x e1,nY E x e3]at e
       exact h.inj b1 b2 o1 o2 h1 h2 e
 . rcases g b1 o1 h1 with ⟨rfl,rfl⟩|⟨e1,e2,h1⟩
   . exact⟨by simp[AH.add,AH.jH],hn.mono (by simp[AH.add,AH.jH])⟩
   . have:=h.wf b1 o1 h1
     exact⟨by simp[AH.add,AH.jH];omega,this.2.mono (by simp[AH.add,AH.jH])⟩
 . rcases g b1 o1 h1 with ⟨rfl,rfl⟩|⟨e1,e2,h1⟩
   . exact .inl ⟨b,o,hb,by rw[kL,hxb],fun _=>hro⟩
   . exact .inl ⟨b1,o1,h1,by rw[nY E x e1],id⟩
end
end Go.Ex
