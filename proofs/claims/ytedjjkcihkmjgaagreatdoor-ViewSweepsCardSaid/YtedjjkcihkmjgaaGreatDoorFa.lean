/- Plain lemmas: rules for walking through code, one for each operation, over any program; an evaluator of closed calls with its soundness; and plain mathematics. No conditions. -/
import Derived.WalkKit
import Derived.TacticsIn
import Derived.RangeFuncIn
import Derived.Shelf.Abstract
import Derived.Laws.CopyOwn
import Derived.OrdersIn
import Derived.WalkSpells
import Derived.Lib.SliceRun
import Derived.RecoverIn
import Derived.WideLaws
import Derived.RangeFuncRecord
import Derived.ControlIn
import Derived.KernelRfl
set_option linter.unusedVariables false
set_option linter.unusedSectionVars false
set_option linter.unusedSimpArgs false
namespace Go.Sx
open Go
abbrev zd:=@List.mem_cons_self
abbrev ze:=@List.mem_of_getElem?
abbrev zg:=@List.mem_cons
abbrev zh:=@List.length_cons
abbrev zk:=@List.length_nil
abbrev zm:=@Nat.le_refl
abbrev zn:=@List.mem_append
abbrev zo:=@List.length_append
abbrev zp:=@Result.andThen_ok
abbrev zq:=@List.mem_map
abbrev zr:=@List.nodup_append
abbrev zt:=@List.getElem?_eq_some_iff
abbrev zu:=@List.length_map
abbrev zw:=@List.mem_cons_of_mem
abbrev zx:=@Sem.run_bind
abbrev zy:=@List.mem_filter
abbrev zz:=@List.nodup_cons
abbrev z6:=@List.all_eq_true
abbrev z7:=@List.append_assoc
abbrev z8:=@List.getElem?_eq_getElem
abbrev kR:=@List.flatMap_cons
abbrev k7:=@List.mem_singleton
abbrev jU:=@Sem.run_pure
abbrev k8:=@List.length_take
abbrev mQ:=@List.length_range
abbrev lJ:=@Nat.add_assoc
abbrev l8:=@List.mem_range
abbrev oI:=@List.filter_sublist
abbrev nG:=@Int.toNat_natCast
abbrev rG:=@Array.getElem?_eq_some_iff
abbrev nq:=@Bool.and_eq_true
abbrev nr:=@List.not_mem_nil
abbrev l9:=@List.map_cons
abbrev oJ:=@Nat.lt_of_lt_of_le
abbrev oc:=@List.ext_getElem?
abbrev nH:=@List.cons_append
abbrev nt:=@List.map_append
abbrev qv:=@Nat.le_of_ble_eq_true
abbrev oK:=@List.getElem?_map
abbrev pn:=@List.pairwise_cons
abbrev qL:=@List.length_replicate
abbrev qM:=@List.perm_append_comm
abbrev mF:=@Nat.le_trans
abbrev rH:=@List.getElem?_eq_none
abbrev qN:=@List.filter_eq_self
abbrev vD:=@List.eq_nil_of_length_eq_zero
abbrev pS:=@List.mem_flatMap
abbrev pg:=@List.nil_append
abbrev qu:=@List.take_add_one
abbrev mE:=@Nat.zero_le
abbrev uF:=@Array.getElem?_eq_getElem
abbrev rF:=@List.getElem?_range
abbrev tJ:=@List.singleton_sublist
abbrev sN:=@List.mem_append_left
abbrev uG:=@List.sublist_append_left
abbrev uH:=@List.getElem?_replicate
abbrev vE:=@List.pairwise_iff_getElem
abbrev rI:=@List.nodup_range
abbrev vF:=@List.take_of_length_le
abbrev rJ:=@List.append_nil
abbrev sO:=@List.perm_middle
abbrev uI:=@Array.length_toList
abbrev vG:=@List.mem_append_right
abbrev sP:=@List.range_succ
abbrev tL:=@List.filter_cons
abbrev vH:=@List.getElem_of_mem
abbrev uJ:=@List.filter_congr
abbrev vI:=@List.append_of_mem
abbrev vJ:=@List.getElem?_take
abbrev zU:=@List.length_eq_zero_iff
abbrev qO:=@Nat.mul_one
abbrev zV:=@Array.getElem?_toList
abbrev zW:=@List.length_filter_le
abbrev zX:=@List.length_singleton
abbrev zY:=@List.take_append_drop
abbrev vL:=@List.take_length
abbrev BM:=@List.filter_cons_of_neg
abbrev BN:=@List.filter_cons_of_pos
abbrev vM:=@Nat.min_eq_left
abbrev tM:=@Nat.add_zero
abbrev tO:=@Nat.zero_add
abbrev BO:=@Option.map_eq_some_iff
abbrev zT:=@List.filter_append
abbrev BH:=@List.getElem?_toArray
abbrev BI:=@Nat.eq_of_beq_eq_true
abbrev DK:=@List.getElem?_append_left
abbrev Ho:=@List.eraseIdx_eq_take_drop_succ
abbrev tK:=@Nat.add_mul
abbrev BJ:=@List.count_le_length
abbrev DL:=@List.length_erase_of_mem
abbrev BK:=@List.mem_of_getLast?
abbrev BL:=@List.mem_of_mem_take
abbrev Aa:=@Bool.not_eq_true'
abbrev Ab:=@List.getElem?_set
abbrev BQ:=@Bool.or_eq_true_iff
abbrev BR:=@Nat.mul_le_mul_left
abbrev xu:=@List.nodup_nil
abbrev DO:=@List.filter_eq_nil_iff
abbrev BS:=@Nat.eq_zero_or_pos
abbrev DP:=@Array.getElem?_modify
abbrev Ac:=@Option.map_some
abbrev Hu:=@Int.tmod_eq_emod_of_nonneg
abbrev Hv:=@List.getElem?_append_right
abbrev DQ:=@List.contains_eq_mem
abbrev Hw:=@List.drop_eq_getElem_cons
abbrev Hx:=@List.exists_mem_of_ne_nil
abbrev Hy:=@List.getLast?_eq_none_iff
abbrev DR:=@List.pairwise_append
abbrev DS:=@Nat.mul_le_mul_right
abbrev Hz:=@List.getElem?_take_of_lt
abbrev xw:=@List.map_map
abbrev BU:=@Nat.div_add_mod'
abbrev BV:=@Nat.lt_succ_self
abbrev DT:=@List.filterMap_cons
abbrev DU:=@List.map_congr_left
abbrev DV:=@List.filter_filter
abbrev DW:=@List.getLast?_cons
abbrev BW:=@Nat.not_lt_zero
abbrev Hq:=@List.length_pos_of_mem
abbrev L5:=@List.take_append_of_le_length
abbrev L6:=@Array.getElem?_setIfInBounds
abbrev BP:=@Nat.mul_le_mul
abbrev zZ:=@Nat.ne_of_lt
abbrev Hr:=@List.getElem?_of_mem
abbrev Hs:=@List.getLast?_append
abbrev DM:=@List.length_drop
abbrev Ht:=@List.mem_iff_getElem
abbrev DN:=@Nat.max_eq_right
abbrev D0:=@Nat.testBit_succ
abbrev D1:=@Option.getD_some
abbrev L8:=@Array.getElem?_append_left
abbrev D2:=@Int.emod_nonneg
abbrev L9:=@List.getLast?_eq_some_iff
abbrev Ma:=@List.sublist_append_right
abbrev D3:=@Nat.one_ne_zero
abbrev HB:=@Bool.false_eq_true
abbrev HC:=@List.getElem?_drop
abbrev BX:=@List.map_nil
abbrev BY:=@Nat.lt_or_ge
abbrev D4:=@Bool.xor_false
abbrev Ae:=@Nat.mod_lt
abbrev HD:=@List.foldl_append
abbrev HE:=@List.pairwise_map
abbrev HF:=@List.reverse_perm
abbrev Mb:=@List.drop_of_length_le
abbrev HG:=@List.map_toArray
abbrev HH:=@Nat.min_eq_right
abbrev zdt:=@Array.getElem?_mapIdx
abbrev Mc:=@List.concat_eq_append
abbrev Md:=@List.eq_nil_or_concat
abbrev Me:=@List.filterMap_append
abbrev Mh:=@Nat.div_lt_iff_lt_mul
abbrev HI:=@Bool.or_eq_true
abbrev Mi:=@List.getElem?_append
abbrev L7:=@List.map_eq_cons_iff
abbrev DX:=@Nat.le_of_eq
abbrev DY:=@Nat.le_total
abbrev HA:=@Nat.max_eq_left
abbrev DZ:=@Nat.pow_succ
theorem o_{p:Prop}(h:p:=by omega):p:=h
theorem s_{p:Prop}(h:p:=by simp):p:=h
theorem d_{p:Prop}(h:p:=by decide):p:=h
def look:List (Nat×Value)->Nat->Value
 | [],_=>undef
 | (i,v) :: s,t=>bif Nat.beq i t then v else look s t
def Fr(n:Nat)(s:List (Nat×Value))(ds:List Deferred):Act :=
 { tmps:=Array.ofFn (n:=n) fun i=>look s i.val,defers:=ds }
def ev(n:Nat)(s:List (Nat×Value)):Operand->Value
 | .tmp t=>bif Nat.blt t n then look s t else undef
 | .const v=>v
 | .global g=>.pointer (some ⟨g,0,none⟩)
 | .func f=>.func (.func f) #[] #[]
variable{b i o o' dl:Nat}{cs vs vl:List Value}{k k':IntKind}{dd:Option Nat}{x y:Operand}{a e el:Int}{X ks:List Nat}{R:Value->World->Prop}{bs:List (World×List Nat)}{v:Value}{s:List (Nat×Value)}{w w0:World}{M K:Act->World->Prop}{ok:Nat->Prop}{ps:List (Nat×Operand)}{Q:Exit->Act->World->Prop}{l':List Oper}{np:Bool}{fi:List Operand}{P:Program}{A:Array Field}{fn:Func}(n:Nat)(ds:List Deferred)(S:List Nat)(z0:Value)
theorem NO{a:Nat}(h:a<b):Nat.blt a b=true:=by simp[Nat.blt];omega
theorem NN{a:Nat}(h:¬ a<b):Nat.blt a b=false:=by
 cases hb:Nat.blt a b with
 | false=>rfl
 | true=>exact absurd (by simpa[Nat.blt,Nat.lt_iff_add_one_le]using hb) h
theorem Ef(s:List (Nat×Value))(ds:List Deferred)(x:Operand):(Fr n s ds).eval x=ev n s x:=by
 cases x with
 | tmp t =>
  by_cases h:t<n
  . simp[Act.eval,Fr,ev,h,NO h]
  . simp[Act.eval,Fr,ev,h,NN h]
 | _=>rfl
theorem sV(s:List (Nat×Value))(ds:List Deferred):(Fr n s ds).eval=ev n s:=funext (Ef n s ds)
theorem ug(i t:Nat)(v:Value)(s:List (Nat×Value)):look ((i,v) :: s) t=if i=t then v else look s t:=by
 by_cases h:i=t
 . simp[look,h]
 . have:Nat.beq i t=false:=by
    cases hb:Nat.beq i t with
    | false=>rfl
    | true=>exact absurd (BI hb) h
   simp[look,this,h]
theorem Eg{n:Nat}{s':List (Nat×Value)}(h:∀ t,look s t=look s' t):Fr n s ds=Fr n s' ds:=by
 unfold Fr
 congr 2
 funext i
 exact h i.val
theorem uN(s:List (Nat×Value))(ds:List Deferred)(d:Nat)(v:Value):(Fr n s ds).put (some d) v=Fr n ((d,v) :: s) ds:=by
 unfold Act.put Fr
 simp only[Act.mk.injEq,and_true]
 apply Array.ext
 . simp
 . intro i b a
   simp at b a
   rw[Array.getElem_setIfInBounds (by simpa using a)]
   simp[ug]
theorem YZ(pre s:List (Nat×Value))(h:∀ p∈pre,look s p.1=p.2)(t:Nat):look (pre++s) t=look s t:=by
 induction pre with
 | nil=>rfl
 | cons p pre b =>
  have c := b (fun q a=>h q (zw _ a))
  obtain⟨i,v⟩:=p
  rw[nH,ug]
  split
  . rename_i e;subst e;exact(h (i,v) (zd ..)).symm
  . exact c
def Holds(s:List (Nat×Value)):List (Nat×Value)->Prop
 | []=>True
 | p :: l=>look s p.1=p.2/\Holds s l
theorem Holds.mem{s:List (Nat×Value)}:∀ {l:List (Nat×Value)},Holds s l->∀ p∈l,look s p.1=p.2
 | [],_,p,hp=>by cases hp
 | q :: l,h,p,hp=>by
  cases hp with
  | head=>exact h.1
  | tail _ hp=>exact Holds.mem h.2 p hp
theorem TR{n:Nat}{ds:List Deferred}(pre:List (Nat×Value))(h:Holds s pre):Fr n s ds=Fr n (pre++s) ds :=
 Eg ds fun t=>(YZ pre s h.mem t).symm
def FW(r:Option Nat):Fence:={ fn:=fun _=>True,depth:=none,alive:=false,round:=r }
theorem HK(r:Option Nat)(m:Nat):(FW r).room m:=fun _ h=>by simp[FW]at h
abbrev WP(r:Option Nat)(P:Program)(c:Code)(Q:Exit->Act->World->Prop)(a:Act)(w:World):Prop:=c.wpIn (FW r) 0 P Q a w
def cat:Op->Nat
 | .move _ | .assign _ | .pick _ _ _ | .extract _ _ | .nilCheck _ | .fieldAddr _ _ _ | .indexAddr _ _ _ | .binOp _ _ _ _ _ | .unOp _ _ _ | .field _ _ _ | .index _ _ _ | .convert _ _ _ | .build _ _=>0
 | .load _ _ | .lookup _ _ _ _=>1
 | .store _ _ _ | .alloc _ | .box _ _ | .buildSlice _ _ _ | .makeSlice _ _ _ | .mapUpdate _ _ _ _ | .mapEntry _ _ _ | .entryStore _ _ _ _=>3
 | .call ⟨.builtin .len,_,_⟩=>1
 | .call ⟨.builtin .min,_,_⟩ | .call ⟨.builtin .max,_,_⟩=>0
 | .call ⟨.builtin .append,_,_⟩=>3
 | _=>2
def ku(r:Option Nat)(P:Program)(Q:Exit->Act->World->Prop)(o:Oper)(K:Act->World->Prop)(a:Act)(w:World):Prop :=
 match cat o.op with
 | 0=>∃ v,(∀ w', (execOp a.eval o).run P w' = .ok (.value v) w')/\K (a.put o.dst v) w
 | 1=>∃ v,(execOp a.eval o).run P w = .ok (.value v) w/\K (a.put o.dst v) w
 | 3=>∃ x w', (execOp a.eval o).run P w = .ok x w' /\ ((∃ v,x = .value v/\K (a.put o.dst v) w')\/(x = .skip/\K (a.put o.dst undef) w'))
 | _=>o.uponIn (FW r) 0 P a K Q ((o.semAt r a.eval).run P w)
def wl(r:Option Nat)(P:Program)(ops:Array Oper)(Q:Exit->Act->World->Prop):List Oper->Act->World->Prop
 | [],a,w=>Q .normal a w
 | o :: rest,a,w=>if Region.wanted o (yielded ops a.tmps)then ku r P Q o (wl r P ops Q rest) a w else wl r P ops Q rest (a.put o.dst undef) w
structure WL (r:Option Nat) (P:Program) (ops:Array Oper) (Q:Exit->Act->World->Prop) (l:List Oper) (a:Act) (w:World):Prop where
 out:wl r P ops Q l a w
theorem Vh{a:Op}(h:cat a≠2):∀ c,a ≠ .defer c:=by
 intro c e;subst e;exact h rfl
theorem afd{r:Option Nat}{o:Oper}{a:Act}(h:∀ a w,K a w->M a w){x:Result Next}(b:o.uponIn (FW r) 0 P a K Q x):o.uponIn (FW r) 0 P a M Q x:=by
 cases x with
 | ok x w' =>
  cases x<;>simp only[Oper.uponIn]at b ⊢ <;>
   first
    | exact h _ _ b
    | exact⟨b.1,CallsIn.mono b.2 (fun e d c=>by cases e<;>first|exact h _ _ c|exact c)⟩
    | exact⟨b.1,RowsIn.mono b.2 (fun _ _ c=>h _ _ c)⟩
    | exact⟨b.1,RoundIn.mono b.2 (fun e d c=>by cases e<;>first|exact h _ _ c|exact c)⟩
 | halt x w' => cases x<;>simp only[Oper.uponIn]at b ⊢ <;> exact b
theorem ku.mono{r:Option Nat}{o:Oper}{a:Act}(h:∀ a w,K a w->M a w)(d:ku r P Q o K a w):ku r P Q o M a w:=by
 unfold ku at *
 split<;>rename_i f<;>simp only[f]at d
 . obtain⟨v,c,b⟩:=d;exact⟨v,c,h _ _ b⟩
 . obtain⟨v,c,b⟩:=d;exact⟨v,c,h _ _ b⟩
 . obtain⟨x,w', c,⟨v,b,e⟩|⟨b,e⟩⟩:=d
   . exact⟨x,w', c,.inl ⟨v,b,h _ _ e⟩⟩
   . exact⟨x,w', c,.inr ⟨b,h _ _ e⟩⟩
 . exact afd h d
theorem ku.upon{r:Option Nat}{o:Oper}{a:Act}(d:ku r P Q o K a w):o.uponIn (FW r) 0 P a K Q ((o.semAt r a.eval).run P w):=by
 have e:cat o.op≠2->o.semAt r a.eval=execOp a.eval o:=fun c=>by
  cases r with
  | none=>exact Oper.semAt_none _ o
  | some l=>exact Oper.semAt_some l _ o (Vh c)
 unfold ku at d
 split at d<;>rename_i c
 . obtain⟨v,b,f⟩:=d;rw[e (by rw[c];decide),b];exact f
 . obtain⟨v,b,f⟩:=d;rw[e (by rw[c];decide),b];exact f
 . obtain⟨x,w', b,⟨v,rfl,g⟩|⟨rfl,g⟩⟩:=d
   . rw[e (by rw[c];decide),b];exact g
   . rw[e (by rw[c];decide),b];exact g
 . exact d
theorem LW{r:Option Nat}{P:Program}{ops:Array Oper}{Q:Exit->Act->World->Prop}:∀ (l:List Oper) (a:Act) (w:World),wl r P ops Q l a w->wpListIn (FW r) 0 P ops Q l a w
 | [],_,_,h=>h
 | o :: rest,a,w,h=>by
  unfold wl at h
  unfold wpListIn
  split<;>rename_i b
  . rw[if_pos b]at h
    exact⟨fun _ _=>trivial,(h.mono (LW rest)).upon⟩
  . rw[if_neg b]at h
    exact⟨fun _ _=>trivial,LW rest _ _ h⟩
theorem Cu{r:Option Nat}{m:Nat}{f:FuncId}{args:Array Value}{R:Ending->World->Prop} :
 CallsIn (FW r) m P f args w R↔Calls P f args w R:=callsIn_wide (n:=m)
def AP:List Oper->Nat->Option Nat
 | [],_=>none
 | o :: _,0=>o.dst
 | _ :: l,j+1=>AP l j
theorem Ww(l:List Oper):∀ j,AP l j=(l[j]?).bind (·.dst):=by
 induction l with
 | nil=>intro j;simp[AP]
 | cons o l a=>intro j;cases j with|zero=>rfl|succ j=>simpa[AP]using a j
def KU:Value->Bool->Bool
 | .bool b,want=>bif want then b else !b
 | _,_=>false
def gI(ops:Array Oper)(n:Nat)(s:List (Nat×Value)):Option (Nat×Bool)->Bool
 | none=>true
 | some (j,want) =>
  match AP ops.toList j with
  | some d=>KU (ev n s (.tmp d)) want
  | none=>false
theorem By(ops:Array Oper)(n:Nat)(s:List (Nat×Value))(ds:List Deferred)(o:Oper) :
 Region.wanted o (yielded ops (Fr n s ds).tmps)=gI ops n s o.guard:=by
 unfold Region.wanted gI
 cases o.guard with
 | none=>rfl
 | some g =>
  obtain⟨j,a⟩:=g
  have e:AP ops.toList j=(ops[j]?).bind (·.dst):=by rw[Ww];simp
  simp only[yielded,e]
  cases (ops[j]?).bind (·.dst)with
  | none=>simp
  | some d =>
   simp only[Option.bind_some]
   by_cases h:d<n
   . have:(Fr n s ds).tmps[d]? = some (look s d):=by simp[Fr,h]
     rw[this]
     simp only[ev,NO h,cond_true]
     cases look s d<;>simp[KU]
     rename_i b
     cases b<;>cases a<;>rfl
   . have:(Fr n s ds).tmps[d]? = none:=Array.getElem?_eq_none (by simpa[Fr]using h)
     rw[this]
     simp[ev,NN h,undef,KU]
section ops
variable {r:Option Nat} {P:Program} {ops:Array Oper} {Q:Exit->Act->World->Prop} {rest:List Oper} {n:Nat} {s:List (Nat×Value)} {ds:List Deferred} {w w' : World}
theorem afL(h:Q .normal (Fr n s ds) w):WL r P ops Q [] (Fr n s ds) w:=⟨h⟩
theorem semAt_eq{r:Option Nat}{ρ:Operand->Value}{o:Oper}(h:∀ c,o.op ≠ .defer c):o.semAt r ρ=execOp ρ o:=by
 cases r with
 | none=>exact congrFun (congrFun (funext fun ρ=>funext fun o=>Oper.semAt_none ρ o) ρ) o
 | some l=>exact Oper.semAt_some l ρ o h
def qE:Op->Bool
 | .defer _=>false
 | _=>true
theorem FZ{a:Op}(h:qE a=true):∀ c,a ≠ .defer c:=by
 intro c e;subst e;cases h
theorem afM{o:Oper}(a:gI ops n s o.guard=true)(h:∀ w,(execOp (ev n s) o).run P w = .ok (.value v) w)(K:WL r P ops Q rest ((Fr n s ds).put o.dst v) w) (hc:cat o.op=0:=by rfl):WL r P ops Q (o :: rest) (Fr n s ds) w:=by
 refine⟨?_⟩
 unfold wl
 rw[By,a,if_pos rfl]
 unfold ku
 rw[hc]
 exact⟨v,fun w=>by rw[sV, h w],K.out⟩
theorem LX{o:Oper}(a:gI ops n s o.guard=true)(hd:qE o.op=true)(h:(execOp (ev n s) o).run P w = .ok (.value v) w')(K:WL r P ops Q rest ((Fr n s ds).put o.dst v) w') (hc:(cat o.op=2\/cat o.op=3)\/(cat o.op=1/\w=w'):=by first|exact .inl (.inr rfl)|exact .inl (.inl rfl)|exact .inr ⟨rfl,rfl⟩):WL r P ops Q (o :: rest) (Fr n s ds) w:=by
 refine⟨?_⟩
 unfold wl
 rw[By,a,if_pos rfl]
 unfold ku
 rcases hc with (hc|hc)|⟨hc,rfl⟩<;>rw[hc]
 . show o.uponIn _ _ _ _ _ _ _
   rw[semAt_eq (FZ hd),sV, h]
   exact K.out
 . exact⟨_,w', by rw[sV, h],.inl ⟨v,rfl,K.out⟩⟩
 . exact⟨v,by rw[sV, h],K.out⟩
theorem DD{o:Oper}(a:gI ops n s o.guard=true)(hd:qE o.op=true)(h:(execOp (ev n s) o).run P w = .ok .skip w')(K:WL r P ops Q rest ((Fr n s ds).put o.dst undef) w') (hc:cat o.op=2\/cat o.op=3:=by first|exact .inr rfl|exact .inl rfl):WL r P ops Q (o :: rest) (Fr n s ds) w:=by
 refine⟨?_⟩
 unfold wl
 rw[By,a,if_pos rfl]
 unfold ku
 rcases hc with hc|hc<;>rw[hc]
 . show o.uponIn _ _ _ _ _ _ _
   rw[semAt_eq (FZ hd),sV, h]
   exact K.out
 . exact⟨_,w', by rw[sV, h],.inr ⟨rfl,K.out⟩⟩
theorem TB{o:Oper}(a:gI ops n s o.guard=true)(h:o.uponIn (FW r) 0 P (Fr n s ds) (wl r P ops Q rest) Q ((o.semAt r (Fr n s ds).eval).run P w))(hc:cat o.op=2:=by rfl):WL r P ops Q (o :: rest) (Fr n s ds) w:=by
 refine⟨?_⟩
 unfold wl
 rw[By,a,if_pos rfl]
 unfold ku
 rw[hc]
 exact h
theorem TA{o:Oper}{f:FuncId}{args:Array Value}(b:gI ops n s o.guard=true)(hd:qE o.op=true)(h:(execOp (ev n s) o).run P w = .ok (.enter f args) w')(K:Calls P f args w' fun
  | .returned v,w'' => WL r P ops Q rest ((Fr n s ds).put o.dst v) w''
  | .panicked chain,w'' => Q (.panic chain) (Fr n s ds) w''
  | .outgrown,_=>LetsOut Q) (hc:cat o.op=2:=by rfl):WL r P ops Q (o :: rest) (Fr n s ds) w:=by
 refine TB b ?_ hc
 rw[semAt_eq (FZ hd),sV, h]
 exact⟨fun h=>by simp[FW]at h,Cu.2 (Calls.mono K fun e w' a=>by cases e<;>first|exact a.out|exact a)⟩
theorem sk{d:Nat}{b:Op}{ty:TypeId}{pos:String}{af:Array Edge}{g:Nat×Bool}(a:gI ops n s (some g)=false)(K:WL r P ops Q rest (Fr n ((d,undef) :: s) ds) w):WL r P ops Q (⟨some d,b,ty,pos,af,some g⟩ :: rest) (Fr n s ds) w:=by
 refine⟨?_⟩
 unfold wl
 rw[By]
 simp only[a]
 show wl r P ops Q rest ((Fr n s ds).put (some d) undef) w
 rw[uN]
 exact K.out
theorem gm{b:Int}(h:a=b):Value.int k a=Value.int k b:=by rw[h]
theorem Fg{a b:Bool}(h:a=b):Value.bool a=Value.bool b:=by rw[h]
end ops
section
variable {r:Option Nat} {P:Program} {ops:Array Oper} {Q:Exit->Act->World->Prop} {rest:List Oper} {n:Nat} {s:List (Nat×Value)} {ds:List Deferred} {w w' : World}
variable {d:Nat} {ty:TypeId} {pos:String} {af:Array Edge} {g:Option (Nat×Bool)}
theorem pv{a:Op}(b:gI ops n s g=true)(hd:qE a=true)(h:(execOp (ev n s) ⟨some d,a,ty,pos,af,g⟩).run P w = .ok (.value v) w')(K:WL r P ops Q rest (Fr n ((d,v) :: s) ds) w') (hc:(cat a=2\/cat a=3)\/(cat a=1/\w=w'):=by first|exact .inl (.inr rfl)|exact .inl (.inl rfl)|exact .inr ⟨rfl,rfl⟩):WL r P ops Q (⟨some d,a,ty,pos,af,g⟩ :: rest) (Fr n s ds) w :=
 LX b hd h (by rw[uN];exact K) hc
theorem pw{a:Op}(b:gI ops n s g=true)(h:∀ w,(execOp (ev n s) ⟨some d,a,ty,pos,af,g⟩).run P w = .ok (.value v) w)(K:WL r P ops Q rest (Fr n ((d,v) :: s) ds) w) (hc:cat a=0:=by rfl):WL r P ops Q (⟨some d,a,ty,pos,af,g⟩ :: rest) (Fr n s ds) w :=
 afM b h (by rw[uN];exact K) hc
theorem Qe(a:ev n s x=v) :
 (execOp (ev n s) ⟨dd,.move x,ty,pos,af,g⟩).run P w = .ok (.value v) w:=by simp[execOp,a]
theorem mv(a:gI ops n s g=true)(b:ev n s x=v)(K:WL r P ops Q rest (Fr n ((d,v) :: s) ds) w) :
 WL r P ops Q (⟨some d,.move x,ty,pos,af,g⟩ :: rest) (Fr n s ds) w:=pw a (fun _=>Qe b) K
theorem NF(a:ev n s x=v) :
 (execOp (ev n s) ⟨dd,.assign x,ty,pos,af,g⟩).run P w = .ok (.value v) w:=by simp[execOp,a]
theorem kM(a:gI ops n s g=true)(b:ev n s x=v)(K:WL r P ops Q rest (Fr n ((d,v) :: s) ds) w) :
 WL r P ops Q (⟨some d,.assign x,ty,pos,af,g⟩ :: rest) (Fr n s ds) w:=pw a (fun _=>NF b) K
theorem abg{c:Operand}(hc:ev n s c = .bool true)(a:ev n s x=v) :
 (execOp (ev n s) ⟨dd,.pick c x y,ty,pos,af,g⟩).run P w = .ok (.value v) w:=by simp[execOp,a,hc,asBool]
theorem abf{c:Operand}(hc:ev n s c = .bool false)(a:ev n s y=v) :
 (execOp (ev n s) ⟨dd,.pick c x y,ty,pos,af,g⟩).run P w = .ok (.value v) w:=by simp[execOp,a,hc,asBool]
def lG:BinOp->Int->Int->Option Bool
 | .eql,a,b=>some (a==b)
 | .neq,a,b=>some (a != b)
 | .lss,a,b=>some (decide (a<b))
 | .leq,a,b=>some (decide (a<=b))
 | .gtr,a,b=>some (decide (b<a))
 | .geq,a,b=>some (decide (b<=a))
 | _,_,_=>none
theorem Bo(c:BinOp)(t:TypeId)(x y:Operand)(k k':IntKind)(a b:Int):(eqGuard c t x y (.int k a) (.int k' b)).run P w = .ok () w:=by
 unfold eqGuard
 cases c<;>simp
theorem acU{d:BinOp}{t:TypeId}{b:Int}{c:Bool}(h:lG d a b=some c):(binOp d t (.int k a) (.int k b)).run P w = .ok (.bool c) w:=by
 cases d<;>simp[lG]at h<;>subst h<;>simp[binOp,Op.intCmp]
theorem Oc{d:BinOp}{t t':TypeId}{b:Int}{c:Bool}(e:ev n s x = .int k a)(f:ev n s y = .int k b)(hc:lG d a b=some c) :
 (execOp (ev n s) ⟨dd,.binOp d t x y t', ty,pos,af,g⟩).run P w = .ok (.value (.bool c)) w:=by simp[execOp,e,f,Bo,acU hc]
theorem cmp{e:BinOp}{t t':TypeId}{b:Int}{c:Bool}(f:gI ops n s g=true)(h:ev n s x = .int k a)(i:ev n s y = .int k b)(hc:lG e a b=some c)(K:WL r P ops Q rest (Fr n ((d,.bool c) :: s) ds) w) :
 WL r P ops Q (⟨some d,.binOp e t x y t', ty,pos,af,g⟩ :: rest) (Fr n s ds) w:=pw f (fun _=>Oc h i hc) K
theorem p8{b:Int}(h:a<b):lG .lss a b=some true:=by simp[lG,h]
theorem kG{b:Int}(h:¬ a<b):lG .lss a b=some false:=by simp[lG,h]
theorem xO{b:Int}(h:a<=b):lG .leq a b=some true:=by simp[lG,h]
theorem NY{b:Int}(h:¬ a<=b):lG .leq a b=some false:=by simp[lG,h]
theorem nN{b:Int}(h:¬ a>b):lG .gtr a b=some false:=by simp[lG];omega
theorem ow{b:Int}(h:a≥b):lG .geq a b=some true:=by simp[lG];omega
theorem oS{b:Int}(h:¬ a≥b):lG .geq a b=some false:=by simp[lG];omega
theorem r7{b:Int}(h:a=b):lG .eql a b=some true:=by simp[lG,h]
theorem tv{b:Int}(h:¬ a=b):lG .eql a b=some false:=by simp[lG,h]
theorem NX{b:Int}(h:¬ a=b):lG .neq a b=some true:=by simp[lG,h]
theorem qa{b:Int}(h:a=b):lG .neq a b=some false:=by simp[lG,h]
def Cr:BinOp->Int->Int->Option Int
 | .add,a,b=>some (a+b)
 | .sub,a,b=>some (a-b)
 | .mul,a,b=>some (a*b)
 | _,_,_=>none
theorem acT{d:BinOp}{t:TypeId}{b c:Int}(h:Cr d a b=some c):(binOp d t (.int k a) (.int k b)).run P w = .ok (.int k (k.wrap c)) w:=by
 cases d<;>simp[Cr]at h<;>subst h<;>simp[binOp,Op.intArith]
theorem NC{d:BinOp}{t t':TypeId}{b c:Int}(h:ev n s x = .int k a)(i:ev n s y = .int k b)(hc:Cr d a b=some c)(f:k.wrap c=e) :
 (execOp (ev n s) ⟨dd,.binOp d t x y t', ty,pos,af,g⟩).run P w = .ok (.value (.int k e)) w:=by simp[execOp,h,i,Bo,acT hc,f]
theorem ar{f:BinOp}{t t':TypeId}{b c:Int}(h:gI ops n s g=true)(j:ev n s x = .int k a)(l:ev n s y = .int k b)(hc:Cr f a b=some c)(i:k.wrap c=e)(K:WL r P ops Q rest (Fr n ((d,.int k e) :: s) ds) w) :
 WL r P ops Q (⟨some d,.binOp f t x y t', ty,pos,af,g⟩ :: rest) (Fr n s ds) w:=pw h (fun _=>NC j l hc i) K
theorem kP(h:-9223372036854775808<=a/\a<=9223372036854775807):IntKind.i64.wrap a=a:=IntWalk.i64_in a h
theorem DC(h:0<=a/\a<=18446744073709551615):IntKind.u64.wrap a=a:=IntWalk.u64_in a h
theorem To(h:0<=a/\a<=255):IntKind.u8.wrap a=a:=IntWalk.u8_in a h
theorem abZ{t t':TypeId}{b:Int}(d:ev n s x = .int k a)(f:ev n s y = .int k b)(hb:b≠0)(c:k.wrap (a.tdiv b)=e) :
 (execOp (ev n s) ⟨dd,.binOp .quo t x y t', ty,pos,af,g⟩).run P w = .ok (.value (.int k e)) w:=by simp[execOp,d,f,Bo,binOp,Op.intDiv,hb,c]
theorem quo{t t':TypeId}{b:Int}(c:gI ops n s g=true)(h:ev n s x = .int k a)(i:ev n s y = .int k b)(hb:b≠0)(f:k.wrap (a.tdiv b)=e)(K:WL r P ops Q rest (Fr n ((d,.int k e) :: s) ds) w) :
 WL r P ops Q (⟨some d,.binOp .quo t x y t', ty,pos,af,g⟩ :: rest) (Fr n s ds) w:=pw c (fun _=>abZ h i hb f) K
theorem ab7{t t':TypeId}{b:Int}(d:ev n s x = .int k a)(f:ev n s y = .int k b)(hb:b≠0)(c:a.tmod b=e) :
 (execOp (ev n s) ⟨dd,.binOp .rem t x y t', ty,pos,af,g⟩).run P w = .ok (.value (.int k e)) w:=by simp[execOp,d,f,Bo,binOp,Op.intDiv,hb,c]
theorem rem{t t':TypeId}{b:Int}(c:gI ops n s g=true)(h:ev n s x = .int k a)(i:ev n s y = .int k b)(hb:b≠0)(f:a.tmod b=e)(K:WL r P ops Q rest (Fr n ((d,.int k e) :: s) ds) w) :
 WL r P ops Q (⟨some d,.binOp .rem t x y t', ty,pos,af,g⟩ :: rest) (Fr n s ds) w:=pw c (fun _=>ab7 h i hb f) K
def tj(c:BinOp)(k:IntKind)(x y:Int):Option Int :=
 let a:=BitVec.ofInt k.bits x
 let b:=BitVec.ofInt k.bits y
 match c with
 | .and=>some (k.wrap (a &&& b).toNat)
 | .or=>some (k.wrap (a ||| b).toNat)
 | .xor=>some (k.wrap (a ^^^ b).toNat)
 | .andNot=>some (k.wrap (a &&& ~~~b).toNat)
 | _=>none
theorem UW{d:BinOp}{t t':TypeId}{b:Int}(f:ev n s x = .int k a)(h:ev n s y = .int k b)(c:tj d k a b=some e) :
 (execOp (ev n s) ⟨dd,.binOp d t x y t', ty,pos,af,g⟩).run P w = .ok (.value (.int k e)) w:=by
 simp only[tj]at c
 cases d<;>simp at c<;>simp[execOp,f,h,Bo,binOp,Op.intBits,c]
theorem bi{c:BinOp}{t t':TypeId}{b:Int}(f:gI ops n s g=true)(i:ev n s x = .int k a)(j:ev n s y = .int k b)(h:tj c k a b=some e)(K:WL r P ops Q rest (Fr n ((d,.int k e) :: s) ds) w) :
 WL r P ops Q (⟨some d,.binOp c t x y t', ty,pos,af,g⟩ :: rest) (Fr n s ds) w:=pw f (fun _=>UW i j h) K
theorem adn{t t':TypeId}{i:IntKind}{b:Int}(f:ev n s x = .int k a)(h:ev n s y = .int i b)(hb:0<=b)(d:a.fdiv (2 ^ (min b.toNat k.bits))=e) :
 (execOp (ev n s) ⟨dd,.binOp .shr t x y t', ty,pos,af,g⟩).run P w = .ok (.value (.int k e)) w:=by
 have c : ¬ b<0:=by omega
 simp[execOp,f,h,Bo,binOp,Op.shift,c, d]
theorem shr{t t':TypeId}{j:IntKind}{b:Int}(c:gI ops n s g=true)(h:ev n s x = .int k a)(i:ev n s y = .int j b)(hb:0<=b)(f:a.fdiv (2 ^ (min b.toNat k.bits))=e)(K:WL r P ops Q rest (Fr n ((d,.int k e) :: s) ds) w) :
 WL r P ops Q (⟨some d,.binOp .shr t x y t', ty,pos,af,g⟩ :: rest) (Fr n s ds) w:=pw c (fun _=>adn h i hb f) K
theorem aaO{t:TypeId}{b c:Bool}(a:ev n s x = .bool b)(hc:(!b)=c) :
 (execOp (ev n s) ⟨dd,.unOp .not t x,ty,pos,af,g⟩).run P w = .ok (.value (.bool c)) w:=by simp[execOp,a,Op.unary,hc]
theorem Wi{t t':TypeId}{u:TypeDesc}(c:ev n s x = .int k a)(hs:P.underlying t=some u)(ht:P.underlying t' = some (.int k'))(b:k'.wrap a=e) :
 (execOp (ev n s) ⟨dd,.convert t t' x,ty,pos,af,g⟩).run P w = .ok (.value (.int k' e)) w:=by simp[execOp,c,convert,run_underlying hs,run_underlying ht,Conv.intToInt,b]
theorem WY{vs:Array Value}(a:ev n s x = .tuple vs)(hv:vs[i]? = some v) :
 (execOp (ev n s) ⟨dd,.extract x i,ty,pos,af,g⟩).run P w = .ok (.value v) w:=by simp[execOp,a,Instr.extract,hv]
theorem FC{t e:TypeId}{a:Option Addr}{m c:Nat}(b:ev n s x = .slice a m c)(ht:P.underlying t=some (.slice e)) :
 (execOp (ev n s) ⟨dd,.call ⟨.builtin .len,#[x],#[t]⟩,ty,pos,af,g⟩).run P w = .ok (.value (.int .i64 m)) w:=by simp[execOp,resolve,invoke,builtin,b,Builtin.len_,run_underlying ht];rfl
theorem FB{t e:TypeId}{a:Option Addr}{m c:Nat}(b:gI ops n s g=true)(f:ev n s x = .slice a m c)(ht:P.underlying t=some (.slice e))(K:WL r P ops Q rest (Fr n ((d,.int .i64 m) :: s) ds) w) :
 WL r P ops Q (⟨some d,.call ⟨.builtin .len,#[x],#[t]⟩,ty,pos,af,g⟩ :: rest) (Fr n s ds) w:=pv b rfl (FC f ht) K
theorem Qn{a:Addr}(b:ev n s x = .pointer (some a)) :
 (execOp (ev n s) ⟨dd,.nilCheck x,ty,pos,af,g⟩).run P w = .ok (.value (.pointer (some a))) w:=by simp[execOp,b]
theorem wN{a:Addr}(b:gI ops n s g=true)(c:ev n s x = .pointer (some a))(K:WL r P ops Q rest (Fr n ((d,.pointer (some a)) :: s) ds) w) :
 WL r P ops Q (⟨some d,.nilCheck x,ty,pos,af,g⟩ :: rest) (Fr n s ds) w:=pw b (fun _=>Qn c) K
theorem aaj{fn:Fn}{ca:List Operand}{vf vc:List Value}(a:fi.map (ev n s)=vf)(hc:ca.map (ev n s)=vc) :
 (execOp (ev n s) ⟨dd,.makeFunc fn fi.toArray ca.toArray,ty,pos,af,g⟩).run P w = .ok (.value (.func fn vf.toArray vc.toArray)) w:=by subst a hc;simp[execOp,Instr.makeFunc]
theorem mX{fn:Fn}{ca:List Operand}{vf vc:List Value}(b:gI ops n s g=true)(a:fi.map (ev n s)=vf)(hc:ca.map (ev n s)=vc)(K:WL r P ops Q rest (Fr n ((d,.func fn vf.toArray vc.toArray) :: s) ds) w) :
 WL r P ops Q (⟨some d,.makeFunc fn fi.toArray ca.toArray,ty,pos,af,g⟩ :: rest) (Fr n s ds) w:=pv b rfl (aaj a hc) K
theorem XT{t:TypeId}{b:ByteArray}{i:Int}{c:UInt8}(d:ev n s x = .string b)(e:ev n s y = .int k i)(ht:P.underlying t=some .string)(a:0<=i)(hc:b[i.toNat]? = some c) :
 (execOp (ev n s) ⟨dd,.index t x y,ty,pos,af,g⟩).run P w = .ok (.value (.int .u8 c.toNat)) w:=by simp[execOp,d,e,Instr.index,asIntOf,run_underlying ht,a,hc]
theorem XR{t:TypeId}{b:ByteArray}{i:Int}{c:UInt8}(e:gI ops n s g=true)(f:ev n s x = .string b)(h:ev n s y = .int k i)(ht:P.underlying t=some .string)(a:0<=i)(hc:b[i.toNat]? = some c)(K:WL r P ops Q rest (Fr n ((d,.int .u8 c.toNat) :: s) ds) w) :
 WL r P ops Q (⟨some d,.index t x y,ty,pos,af,g⟩ :: rest) (Fr n s ds) w:=pw e (fun _=>XT f h ht a hc) K
end
section
variable {r:Option Nat} {P:Program} {Q:Exit->Act->World->Prop} {n:Nat} {s:List (Nat×Value)} {ds:List Deferred} {w w' : World}
theorem rg{id:Nat}{l:List Oper}(h:WL r P l.toArray Q l (Fr n s ds) w):WP r P (.region id l.toArray false) Q (Fr n s ds) w:=wpIn_region_lit (LW _ _ _ h.out)
theorem sp(h:Q .normal (Fr n s ds) w):WP r P .skip Q (Fr n s ds) w:=wpIn_skip h
theorem bk{id:Nat}{c:Code}(h:WP r P c (Exit.inBlock id Q) (Fr n s ds) w):WP r P (.block id c) Q (Fr n s ds) w:=wpIn_block h
theorem xt{id:Nat}(h:Q (.exit id) (Fr n s ds) w):WP r P (.exit id) Q (Fr n s ds) w:=wpIn_exit h
theorem rt(h:Q .ret (Fr n s ds) w):WP r P .ret Q (Fr n s ds) w:=wpIn_ret h
theorem Vl{c:Operand}{x y:Code}(hc:ev n s c = .bool true)(h:WP r P x Q (Fr n s ds) w):WP r P (.cond c x y) Q (Fr n s ds) w :=
 wpIn_cond_true (by rw[Ef];exact hc) h
theorem Vj{c:Operand}{x y:Code}(hc:ev n s c = .bool false)(h:WP r P y Q (Fr n s ds) w):WP r P (.cond c x y) Q (Fr n s ds) w :=
 wpIn_cond_false (by rw[Ef];exact hc) h
section
variable {K:Act->World->Prop} {a:Act} {i j:Nat} {ch:List PanicEntry}
theorem tN(h:K a w):Exit.then K Q .normal a w:=h
theorem bX(h:Q .normal a w):Exit.inBlock i Q (.exit i) a w:=by simp only[Exit.inBlock,if_true];exact h
theorem Ir(b:Nat.beq j i=false)(h:Q (.exit j) a w):Exit.inBlock i Q (.exit j) a w:=by
 have:¬ j=i:=fun e=>by subst e;simp at b
 simp only[Exit.inBlock,this,if_false];exact h
end
def Mj{α:Type}(n:Nat)(ds:List Deferred)(pre:α->List (Nat×Value))(C:α->World->Prop)(μ:α->Nat)(m:Nat)(a:Act)(w:World):Prop :=
 ∃ x s,a=Fr n s ds/\Holds s (pre x)/\C x w/\μ x<m
theorem again{α:Type}{pre:α->List (Nat×Value)}{C:α->World->Prop}{μ:α->Nat}{m:Nat}(x:α)(h:Holds s (pre x))(a:C x w)(hm:μ x<m):Mj n ds pre C μ m (Fr n s ds) w :=
 ⟨x,s,rfl,h,a,hm⟩
theorem lp{α:Type}{c:Code}(pre:α->List (Nat×Value))(C:α->World->Prop)(μ:α->Nat)(i:α)(q:Holds s (pre i))(t:C i w)(G:∀ x H w', C x w' -> WP r P c (Exit.then (Mj n ds pre C μ (μ x)) Q) (Fr n (pre x++H) ds) w'):WP r P (.loop c) Q (Fr n s ds) w:=by
 intro b k cs D hb h
 have key:∀ j x s w,μ x=j->Holds s (pre x)->C x w ->
  ∃ e a' w', Q e a' w' /\ ArrivesIn (Machine.fenced P (FW r)) P (lone (b.atR (Fr n s ds) (.code c :: .inLoop c :: k)) cs w) b k cs e a' w' := by
  intro j
  induction j using Nat.strongRecOn with
  | _ j F =>
   intro x s w A hs v
   obtain⟨e,g,f,d,a⟩:=G x s w v b (.inLoop c :: k) cs D hb h
   rw[<-TR (pre x) hs]at a
   cases e with
   | normal =>
    obtain⟨m,I,rfl,E,u,z⟩:=d
    obtain⟨p,o,J,B,y⟩:=F (μ m) (A▸z) m I f rfl E u
    exact⟨p,o,J,B,.of_steps (StepsIn.trans a (.one (fenced_calm hb h rfl) stepR_inLoop)) y⟩
   | exit id=>exact⟨_,g,f,d,.pass (x:=.inLoop c) rfl (fun _ _=>.inl s_) a⟩
   | goto l=>exact⟨_,g,f,d,.pass (x:=.inLoop c) rfl (fun _ _=>.inl s_) a⟩
   | ret=>exact⟨_,g,f,d,.pass (x:=.inLoop c) rfl (fun _ _=>.inl s_) a⟩
   | panic ch=>exact⟨_,g,f,d,.pass (x:=.inLoop c) rfl (fun _ _=>.inl s_) a⟩
   | outgrown=>exact⟨_,g,f,d,.pass (x:=.inLoop c) rfl (fun _ _=>.inl s_) a⟩
 obtain⟨e,a', w', d,a⟩:=key _ i s w rfl q t
 exact⟨e,a', w', d,.of_steps (.one (fenced_calm hb h rfl) stepR_loop) a⟩
def B3(r:Option Nat)(P:Program)(c:Code)(Q:Exit->Act->World->Prop):Nat->Act->World->Prop
 | 0,_,_=>False
 | k+1,a,w=>WP r P c (Exit.then (B3 r P c Q k) Q) a w
theorem qq{c:Code}(k:Nat)(h:B3 r P c Q k (Fr n s ds) w):WP r P (.loop c) Q (Fr n s ds) w:=by
 intro b kk cs t hb j
 have key:∀ k a w,B3 r P c Q k a w ->
  ∃ e a' w', Q e a' w' /\ ArrivesIn (Machine.fenced P (FW r)) P (lone (b.atR a (.code c :: .inLoop c :: kk)) cs w) b kk cs e a' w' := by
  intro k
  induction k with
  | zero=>intro a w h;exact h.elim
  | succ k u =>
   intro a w h
   obtain⟨e,g,i,f,d⟩:=h b (.inLoop c :: kk) cs t hb j
   cases e with
   | normal =>
    obtain⟨o,m,v,q,p⟩:=u g i f
    exact⟨o,m,v,q,.of_steps (StepsIn.trans d (.one (fenced_calm hb j rfl) stepR_inLoop)) p⟩
   | exit id=>exact⟨_,g,i,f,.pass (x:=.inLoop c) rfl (fun _ _=>.inl s_) d⟩
   | goto l=>exact⟨_,g,i,f,.pass (x:=.inLoop c) rfl (fun _ _=>.inl s_) d⟩
   | ret=>exact⟨_,g,i,f,.pass (x:=.inLoop c) rfl (fun _ _=>.inl s_) d⟩
   | panic ch=>exact⟨_,g,i,f,.pass (x:=.inLoop c) rfl (fun _ _=>.inl s_) d⟩
   | outgrown=>exact⟨_,g,i,f,.pass (x:=.inLoop c) rfl (fun _ _=>.inl s_) d⟩
 obtain⟨e,a', w', f,d⟩:=key k _ w h
 exact⟨e,a', w', f,.of_steps (.one (fenced_calm hb j rfl) stepR_loop) d⟩
theorem iB{c:Code}{k:Nat}{a:Act}(h:WP r P c (Exit.then (B3 r P c Q k) Q) a w):B3 r P c Q (k+1) a w:=h
def v7:List Value->Nat->List (Nat×Value)
 | [],_=>[]
 | v :: vs,i=>(i,v) :: v7 vs (i+1)
theorem Y2(vs:List Value):∀ i t,i<=t->look (v7 vs i) t=(vs[t-i]?).getD undef:=by
 induction vs with
 | nil=>intro i t _;simp[v7,look]
 | cons v vs a =>
  intro i t h
  rw[v7,ug]
  split
  . rename_i e;subst e;simp
  . rename_i e
    rw[a (i+1) t o_]
    rw[show t-i=(t-(i+1))+1 by omega]
    simp
theorem Ml(vs:List Value)(n:Nat)(h:vs.length<=n):({ tmps:=vs.toArray++Array.replicate (n-vs.toArray.size) undef,defers:=[] }:Act)=Fr n (v7 vs 0) []:=by
 unfold Fr
 simp only[Act.mk.injEq,and_true]
 apply Array.ext
 . simp;omega
 . intro i a b
   simp only[Array.getElem_ofFn]
   rw[Y2 vs 0 i o_]
   by_cases hi:i<vs.length
   . rw[Array.getElem_append_left (by simpa using hi)]
     simp[hi]
   . rw[Array.getElem_append_right (by simpa using hi)]
     simp[hi]
def CR(P:Program)(f:FuncId)(vs:Array Value)(w:World)(R:Value->World->Prop):Prop :=
 Calls P f vs w fun e w' => ∃ v,e = .returned v/\R v w'
theorem CR.mono{f:FuncId}{vs:Array Value}{R':Value->World->Prop}(h:CR P f vs w R)(c:∀ v w', R v w' -> R' v w'):CR P f vs w R' :=
 Calls.mono h fun e w' ⟨v,b,a⟩=>⟨v,b,c v w' a⟩
theorem enter{f:FuncId}{c:Code}{R:Ending->World->Prop}(a:P.funcs[f]? = some fn)(hb:fn.body=some c)(b:fn.ntmps=n)(hs:Nat.ble vs.length n=true)(h:WP none P c (bodyPost P fn R) (Fr n (v7 vs 0) []) w):Calls P f vs.toArray w R:=by
 refine Cu.1 (callsIn_of_wp (F:=FW none) (n:=0) a hb trivial ?_)
 rw[b,Ml vs n (qv hs)]
 exact h
theorem qB(t:Nat):(Fr n s ds).tmps.getD t undef=ev n s (.tmp t):=Ef n s ds (.tmp t)
theorem gf{t:Nat}(a:fn.results = #[.tmp t])(hv:ev n s (.tmp t)=v)(h:R v w) :
 bodyPost P fn (fun e w' => ∃ v,e = .returned v/\R v w') .ret (Fr n s []) w :=
 ⟨rfl,_,results_tmp a _ _ _,_,rfl,by rw[qB,hv];exact h⟩
theorem Bm(a:fn.results = #[])(h:R (.tuple #[]) w) :
 bodyPost P fn (fun e w' => ∃ v,e = .returned v/\R v w') .ret (Fr n s []) w :=
 ⟨rfl,_,results_none a _ _ _,_,rfl,h⟩
theorem jc(a:fn.results = #[])(h:R (.tuple #[]) w) :
 bodyPost P fn (fun e w' => ∃ v,e = .returned v/\R v w') .normal (Fr n s []) w :=
 ⟨rfl,_,results_none a _ _ _,_,rfl,h⟩
theorem gZ{t u:Nat}{v':Value}(a:fn.results = #[.tmp t,.tmp u])(hv:ev n s (.tmp t)=v)(b:ev n s (.tmp u)=v')(h:R (.tuple #[v,v']) w) :
 bodyPost P fn (fun e w' => ∃ v,e = .returned v/\R v w') .ret (Fr n s []) w :=
 ⟨rfl,_,results_tmp2 a _ _ _,_,rfl,by rw[qB,qB,hv,b];exact h⟩
theorem acj{t u x:Tmp}(h:fn.results = #[.tmp t,.tmp u,.tmp x])(tmps:Array Value)(P:Program)(w:World) :
 (results fn tmps).run P w = .ok (.tuple #[tmps.getD t undef,tmps.getD u undef,tmps.getD x undef]) w:=by
 simp[results,h]
theorem rq{t u x:Nat}{v' v'':Value}(a:fn.results = #[.tmp t,.tmp u,.tmp x])(hv:ev n s (.tmp t)=v)(b:ev n s (.tmp u)=v')(c:ev n s (.tmp x)=v'')(h:R (.tuple #[v,v', v'']) w) :
 bodyPost P fn (fun e w' => ∃ v,e = .returned v/\R v w') .ret (Fr n s []) w :=
 ⟨rfl,_,acj a _ _ _,_,rfl,by rw[qB,qB,qB,hv,b, c];exact h⟩
variable {ops:Array Oper} {rest:List Oper} {d:Option Nat} {ty:TypeId} {pos:String} {af:Array Edge} {g:Option (Nat×Bool)}
def yP(d:Option Nat)(v:Value)(s:List (Nat×Value)):List (Nat×Value):=match d with|some i=>(i,v) :: s|none=>s
theorem B2(d:Option Nat)(v:Value):(Fr n s ds).put d v=Fr n (yP d v s) ds:=by
 cases d with
 | none=>rfl
 | some i=>exact uN n s ds i v
abbrev xA(P:Program)(f:FuncId):Prop:=∀ (args:Array Value) (w:World),(callFunc f args).run P w = .ok (.enter f args) w
theorem FJ(a:List Operand):a.toArray.map (ev n s)=(a.map (ev n s)).toArray:=by simp
theorem jw{f:FuncId}{a:List Operand}{T:Array TypeId}(h:gI ops n s g=true)(hvs:a.map (ev n s)=vl)(c:xA P f)(hc:CR P f vl.toArray w R)(K:∀ v w', R v w' -> WL r P ops Q rest (Fr n (yP d v s) ds) w') :
 WL r P ops Q (⟨d,.call ⟨.value (.func f),a.toArray,T⟩,ty,pos,af,g⟩ :: rest) (Fr n s ds) w:=by
 refine TA (f:=f) (args:=vl.toArray) (w' := w) h rfl ?_ (Calls.mono hc ?_)
 . simp only[execOp,resolve,invoke,Deferred.ofValue,FJ, hvs]
   simp[ev,c _ _]
 . rintro e w' ⟨v,rfl,b⟩
   simp only[B2]
   exact K v w' b
theorem mW{f:FuncId}{fi ca:List Value}{a:List Operand}{T:Array TypeId}(h:gI ops n s g=true)(i:ev n s x = .func (.func f) fi.toArray ca.toArray)(hvs:fi++a.map (ev n s)++ca=vl)(c:xA P f)(hc:CR P f vl.toArray w R)(K:∀ v w', R v w' -> WL r P ops Q rest (Fr n (yP d v s) ds) w') :
 WL r P ops Q (⟨d,.call ⟨.value x,a.toArray,T⟩,ty,pos,af,g⟩ :: rest) (Fr n s ds) w:=by
 refine TA (f:=f) (args:=vl.toArray) (w' := w) h rfl ?_ (Calls.mono hc ?_)
 . subst hvs
   simp only[execOp,resolve,invoke,Deferred.ofValue,FJ, i]
   simp[c _ _]
 . rintro e w' ⟨v,rfl,b⟩
   simp only[B2]
   exact K v w' b
end
section
structure gx (S:List Nat) (w w' : World):Prop where
 os:w'.os=w.os
 tape:w'.tape=w.tape
 output:w'.output=w.output
 size:w.heap.size<=w'.heap.size
 block:∀ b,b<w.heap.size->b∉S->w'.heap[b]? = w.heap[b]?
theorem gx.refl(w:World):gx S w w:=⟨rfl,rfl,rfl,zm _,fun _ _ _=>rfl⟩
theorem gx.trans{a b c:World}(h:gx X a b)(k:gx X b c):gx X a c :=
 ⟨k.os.trans h.os,k.tape.trans h.tape,k.output.trans h.output,mF h.size k.size,fun i hi d=>(k.block i (oJ hi h.size) d).trans (h.block i hi d)⟩
theorem gx.mono{c:List Nat}{a b:World}(h:gx X a b)(hs:∀ x∈X,x∈c):gx c a b :=
 ⟨h.os,h.tape,h.output,h.size,fun i hi d=>h.block i hi (fun e=>d (hs i e))⟩
theorem gx.drew(w:World):gx S w w.drew:=⟨rfl,rfl,rfl,zm _,fun _ _ _=>rfl⟩
theorem gx.alloc(w:World)(o:Obj):gx S w (w.alloc o) :=
 ⟨rfl,rfl,rfl,s_,fun b hb _=>RowKit.Below.heap_alloc w o b hb⟩
theorem gx.setRow(w:World)(g:Nat)(cs:Array Value):gx [g] w (w.setRow g cs) :=
 ⟨rfl,rfl,rfl,s_,fun b _ hb=>setRow_other w g b cs (by simpa using hb)⟩
theorem gx.aaS{w':World}(h:w.grownBy w' dd):gx dd.toList w w' :=
 ⟨h.os,h.tape,h.output,h.size,fun b hb a=>h.block b hb (fun e=>a (by rw[<-e];simp))⟩
theorem gx.below{w':World}(h:gx [] w w'):RowKit.Below w.heap.size w w' :=
 ⟨h.os,h.tape,h.output,h.size,fun b hb=>h.block b hb s_⟩
structure fT where
 gJ:List Nat
 holds:World->Prop
 loc:∀ w w', (∀ b∈gJ,w'.heap[b]? = w.heap[b]?)->holds w->holds w'
def blk(b:Nat)(T:TypeId)(cs:List Value):fT where
 gJ:=[b]
 holds w:=w.heap[b]? = some (.cells cs.toArray T (0,0))
 loc w w' h hh:=(h b s_).trans hh
def row(v:Value)(e:TypeId)(sz m:Nat)(xs:List Value):fT where
 gJ:=v.ownBlock.toList
 holds w:=w.ownsRow 0 e sz v m xs
 loc w w' h hh:=by
  refine⟨hh.1,?_⟩
  rcases hh.2 with c|⟨g,a,cur,rfl,hb,b,rest⟩
  . exact .inl c
  . exact .inr ⟨g,a,cur,rfl,hb,(h g (by simp[Value.ownBlock])).trans b,rest⟩
def iZ(L:List fT):List Nat:=L.flatMap (·.gJ)
structure Bs (wb:World) (X:List Nat) (L:List fT) (w:World):Prop where
 gA:gx X wb w
 mine:∀ b∈iZ L,b∈X\/wb.heap.size<=b
structure St (bs:List (World×List Nat)) (L:List fT) (w:World):Prop where
 base:∀ p∈bs,Bs p.1 p.2 L w
 own:∀ R∈L,R.holds w
 sep:(iZ L).Nodup
 lt:∀ b∈iZ L,b<w.heap.size
variable {bs:List (World×List Nat)} {L L' : List fT} {w w' w0:World}
theorem St.init(w:World):St [(w,[])] [] w :=
 ⟨fun p hp=>by simp only[k7]at hp;subst hp;exact⟨gx.refl _ _,by simp[iZ]⟩,s_,by simp[iZ],by simp[iZ]⟩
theorem St.O4(w:World)(L:List fT)(d:∀ R∈L,R.holds w)(c:(iZ L).Nodup)(a:∀ b∈iZ L,b<w.heap.size):St [(w,iZ L)] L w :=
 ⟨fun p hp=>by simp only[k7]at hp;subst hp;exact⟨gx.refl _ _,fun b hb=>.inl hb⟩,d,c,a⟩
theorem St.gA(h:St bs L w)(hb:(w0,X)∈bs):gx X w0 w:=(h.base _ hb).gA
theorem St.keep(h:St bs L w)(hb:(w0,X)∈bs)(c:b<w0.heap.size)(a:b∉X):w.heap[b]? = w0.heap[b]? :=
 (h.base _ hb).gA.block b c a
theorem St.ID(h:St bs L w)(hb:(w0,X)∈bs){a:Addr}(hc:w0.cell? a=some v)(b:a.block∉X):w.cell? a=some v :=
 (World.cell?_of_block (h.keep hb (World.block_lt_of_cell? w0 a hc) b)).trans hc
theorem nw(R:fT)(L:List fT):iZ (R :: L)=R.gJ++iZ L:=by simp[iZ]
theorem su{R:fT}{L:List fT}(hi:L[i]? = some R)(hb:b∈R.gJ):b∈iZ L :=
 pS.2 ⟨R,ze hi,hb⟩
variable{R':fT}
theorem St.iP{R:fT}(h:St bs L w)(hi:L[i]? = some R)(hc:gx R.gJ w w')(r:∀ b∈R'.gJ,b∈R.gJ\/w.heap.size<=b)(C:R'.gJ.Nodup)(o:∀ b∈R'.gJ,b<w'.heap.size)(D:R'.holds w'):St bs (L.set i R') w' := by
 obtain⟨l1,g,rfl,B⟩:∃ l1 g,L=l1++R :: g/\l1.length=i:=by
  have o:=(zt.1 hi).1
  refine⟨L.take i,L.drop (i+1),?_,by simp;omega⟩
  have:=(zt.1 hi).2
  rw[<-this,<-Hw o,zY]
 have E:(l1++R :: g).set i R' = l1++R' :: g:=by rw[<-B];simp
 have f:∀ R:fT,iZ (l1++R :: g)=iZ l1++(R.gJ++iZ g):=fun R=>by simp[iZ]
 rw[E]
 have v:=h.sep
 rw[f,zr]at v
 obtain⟨n1,y,z⟩:=v
 rw[zr]at y
 obtain⟨H,F,G⟩:=y
 have k:∀ b,b∈iZ l1\/b∈iZ g->b<w.heap.size/\b∉R.gJ:=by
  intro b hb
  refine⟨h.lt b (by rw[f];simp only[zn];rcases hb with hb|hb<;>simp[hb]),fun m=>?_⟩
  rcases hb with hb|hb
  . exact z b hb b (by simp[m]) rfl
  . exact G b m b hb rfl
 have s:∀ b,b∈iZ l1\/b∈iZ g->w'.heap[b]? = w.heap[b]? := fun b hb=>hc.block b (k b hb).1 (k b hb).2
 refine⟨fun p hp=>?_,fun X q=>?_,?_,?_⟩
 . have hb:=h.base p hp
   refine⟨⟨hc.os.trans hb.gA.os,hc.tape.trans hb.gA.tape,hc.output.trans hb.gA.output,mF hb.gA.size hc.size,fun b t x=>?_⟩,fun b n => ?_⟩
   . refine(hc.block b (oJ t hb.gA.size) (fun m=>?_)).trans (hb.gA.block b t x)
     rcases hb.mine b (by rw[f];simp[m])with d|d
     . exact x d
     . omega
   . rw[f]at n
     simp only[zn]at n
     rcases n with d|d|d
     . exact hb.mine b (by rw[f];simp[d])
     . rcases r b d with j|j
       . exact hb.mine b (by rw[f];simp[j])
       . exact .inr (mF hb.gA.size j)
     . exact hb.mine b (by rw[f];simp[d])
 . simp only[zn,zg]at q
   rcases q with d|rfl|d
   . exact X.loc w w' (fun b hb=>s b (.inl (pS.2 ⟨X,d,hb⟩))) (h.own X (by simp[d]))
   . exact D
   . exact X.loc w w' (fun b hb=>s b (.inr (pS.2 ⟨X,d,hb⟩))) (h.own X (by simp[d]))
 . rw[f,zr]
   have u:∀ b,(b∈iZ l1\/b∈iZ g)->∀ c∈R'.gJ,b≠c:=by
    rintro b hb c A rfl
    rcases r b A with j|j
    . exact(k b hb).2 j
    . have:=(k b hb).1;omega
   refine⟨n1,zr.2 ⟨C,F,fun a l b hb e=>u b (.inr hb) a l e.symm⟩,fun a l b hb=>?_⟩
   simp only[zn]at hb
   rcases hb with hb|hb
   . exact u a (.inl l) b hb
   . exact z a l b (by simp[hb])
 . intro b hb
   rw[f]at hb
   simp only[zn]at hb
   rcases hb with d|d|d
   . exact oJ (k b (.inl d)).1 hc.size
   . exact o b d
   . exact oJ (k b (.inr d)).1 hc.size
theorem St.grow(h:St bs L w)(hc:gx [] w w'):St bs L w' :=
 ⟨fun p hp=>by
  have hb:=h.base p hp
  exact⟨⟨hc.os.trans hb.gA.os,hc.tape.trans hb.gA.tape,hc.output.trans hb.gA.output,mF hb.gA.size hc.size,
   fun b c d=>(hc.block b (oJ c hb.gA.size) s_).trans (hb.gA.block b c d)⟩,hb.mine⟩,
  fun X a=>X.loc w w' (fun b hb=>hc.block b (h.lt b (pS.2 ⟨X,a,hb⟩)) s_) (h.own X a),
  h.sep,fun b hb=>oJ (h.lt b hb) hc.size⟩
theorem St.add{R:fT}{lo:Nat}(h:St bs L w)(g:∀ p∈bs,p.1.heap.size<=lo)(i:∀ b∈iZ L,b<lo)(d:∀ b∈R.gJ,lo<=b)(k:R.gJ.Nodup)(j:∀ b∈R.gJ,b<w.heap.size)(l:R.holds w):St bs (R :: L) w:=by
 refine⟨fun p hp=>⟨(h.base p hp).gA,fun b hb=>?_⟩,fun X c=>?_,?_,?_⟩
 . rw[nw,zn]at hb
   rcases hb with hb|hb
   . exact .inr (mF (g p hp) (d b hb))
   . exact(h.base p hp).mine b hb
 . simp only[zg]at c
   rcases c with rfl|c
   . exact l
   . exact h.own X c
 . rw[nw,zr]
   exact⟨k,h.sep,fun a f b hb e=>by have m:=d a f;have n:=i b hb;omega⟩
 . intro b hb
   rw[nw,zn]at hb
   rcases hb with hb|hb
   . exact j b hb
   . exact h.lt b hb
theorem St.rU{R:fT}(h:St bs L w)(hc:gx [] w w')(a:∀ b∈R.gJ,w.heap.size<=b)(d:R.gJ.Nodup)(c:∀ b∈R.gJ,b<w'.heap.size)(e:R.holds w'):St bs (R :: L) w' :=
 (h.grow hc).add (lo:=w.heap.size) (fun p hp=>(h.base p hp).gA.size) h.lt a d c e
theorem St.sub(h:St bs L w)(hs:L'.Sublist L):St bs L' w:=by
 have hm:∀ b∈iZ L', b∈iZ L:=fun b hb=>by
  obtain⟨X,c,e⟩:=pS.1 hb
  exact pS.2 ⟨X,hs.subset c,e⟩
 refine⟨fun p hp=>⟨(h.base p hp).gA,fun b hb=>(h.base p hp).mine b (hm b hb)⟩,fun X c=>h.own X (hs.subset c),?_,fun b hb=>h.lt b (hm b hb)⟩
 exact h.sep.sublist (by
  clear h hm
  induction hs with
  | slnil=>exact List.Sublist.slnil
  | cons a _ d=>rw[nw];exact d.trans (Ma _ _)
  | cons_cons a _ d=>rw[nw,nw];exact List.Sublist.append_left d _)
theorem St.Cs{T:TypeId}(h:St bs L w)(hi:L[i]? = some (blk b T cs)):w.heap[b]? = some (.cells cs.toArray T (0,0)) :=
 h.own _ (ze hi)
theorem St.tq{T:TypeId}(h:St bs L w)(hi:L[i]? = some (blk b T cs))(hv:cs[o]? = some v):w.cell? ⟨b,o,none⟩=some v:=by
 rw[cell_of_row w b o cs.toArray T (0,0) (h.Cs hi)]
 simpa using hv
def setAt(cs:List Value)(o:Nat)(vs:List Value):List Value:=cs.take o++vs++cs.drop (o+vs.length)
abbrev TI(P:Program)(t:TypeId)(sz by_:Nat)(z:Value):Prop:=(P.info? t).map (fun i=>(i.size,i.bytes,i.zero))=some (sz,by_,some z)
theorem TI.get{t:TypeId}{sz by_:Nat}(h:TI P t sz by_ v):∃ i,P.info? t=some i/\i.size=sz/\i.bytes=by_/\i.zero=some v:=by
 unfold TI at h
 cases hi:P.info? t with
 | none=>rw[hi]at h;simp at h
 | some i=>rw[hi]at h;simp at h;exact⟨i,rfl,h.1,h.2.1,h.2.2⟩
variable {P:Program} {t:TypeId} {sz by_:Nat} {z:Value}
theorem TI.size(h:TI P t sz by_ z)(w:World):(sizeOf t).run P w = .ok sz w:=by
 obtain⟨i,hi,a,_,_⟩:=h.get
 simp[sizeOf,typeInfo,hi,a]
theorem TI.BZ(h:TI P t sz by_ z)(w:World):(zeroValue t).run P w = .ok z w:=by
 obtain⟨i,hi,_,_,a⟩:=h.get
 simp[zeroValue,typeInfo,hi,a]
def kC:TypeDesc->Bool
 | .struct _ | .array _ _=>true
 | _=>false
section
variable {r:Option Nat} {ops:Array Oper} {Q:Exit->Act->World->Prop} {rest:List Oper} {n:Nat} {s:List (Nat×Value)} {ds:List Deferred}
variable {d:Nat} {ty:TypeId} {pos:String} {af:Array Edge} {g:Option (Nat×Bool)} {v:Value} {x y:Operand} {u:TypeDesc}
theorem wX(a:P.underlying t=some u)(w:World):(isAgg t).run P w = .ok (kC u) w:=by
 unfold isAgg
 cases u<;>simp[run_underlying a,kC]
theorem wJ{a:Addr}(d:ev n s x = .pointer (some a))(c:P.underlying t=some u)(b:kC u=false)(hv:w.cell? a=some v) :
 (execOp (ev n s) ⟨dd,.load t x,ty,pos,af,g⟩).run P w = .ok (.value v) w:=by
 simp only[execOp,d,Instr.loadAt,Instr.sureAddr,loadVar,zx,jU,zp,wX c,b]
 simp[load,Sem.run,hv]
theorem ld{a:Addr}(b:gI ops n s g=true)(f:ev n s x = .pointer (some a))(e:P.underlying t=some u)(c:kC u=false)(hv:w.cell? a=some v)(K:WL r P ops Q rest (Fr n ((d,v) :: s) ds) w) :
 WL r P ops Q (⟨some d,.load t x,ty,pos,af,g⟩ :: rest) (Fr n s ds) w:=pv b rfl (wJ f e c hv) K
theorem wG(f:ev n s x = .pointer (some ⟨b,o,none⟩))(e:P.underlying t=some u)(d:kC u=true)(ht:TI P t sz by_ z)(c:cs.length=sz)(hv:∀ j u,cs[j]? = some u->w.cell? ⟨b,o+j,none⟩=some u) :
 (execOp (ev n s) ⟨dd,.load t x,ty,pos,af,g⟩).run P w = .ok (.value (.agg cs.toArray)) w:=by
 subst c
 have:=run_loadCells_list (P:=P) w ⟨b,o,none⟩ cs (fun j u a=>by rw[Addr.add_lit];exact hv j u a)
 simp only[execOp,f,Instr.loadAt,Instr.sureAddr,loadVar,zx,jU,zp,wX e,d,ht.size,this,if_true]
theorem wF(a:gI ops n s g=true)(h:ev n s x = .pointer (some ⟨b,o,none⟩))(f:P.underlying t=some u)(e:kC u=true)(ht:TI P t sz by_ z)(c:cs.length=sz)(hv:∀ j u,cs[j]? = some u->w.cell? ⟨b,o+j,none⟩=some u)(K:WL r P ops Q rest (Fr n ((d,.agg cs.toArray) :: s) ds) w) :
 WL r P ops Q (⟨some d,.load t x,ty,pos,af,g⟩ :: rest) (Fr n s ds) w:=pv a rfl (wG h f e ht c hv) K
theorem St.It{b o:Nat}{T:TypeId}{cs:List Value}{vs:List Value}(h:St bs L w)(hi:L[i]? = some (blk b T cs))(hv:(cs.drop o).take vs.length=vs) :
 ∀ j u,vs[j]? = some u->w.cell? ⟨b,o+j,none⟩=some u:=by
 intro j u a
 refine h.tq hi ?_
 rw[<-hv,vJ]at a
 split at a
 . simpa using a
 . cases a
theorem Gy{T:TypeId}{cs':List Value}(i:Nat)(k:gI ops n s g=true)(p:ev n s x = .pointer (some ⟨b,o,none⟩))(q:ev n s y=v)(hvs:v.cells.toList=vs)(ht:TI P t sz by_ z)(m:vs.length=sz)(h1:vs.all (·.oneCell')=true)(f:St bs L w)(hi:L[i]? = some (blk b T cs))(j:Nat.ble (o+vs.length) cs.length=true)(hcs:setAt cs o vs=cs')(h:L.set i (blk b T cs')=L')(K:∀ w', St bs L' w' -> WL r P ops Q rest (Fr n s ds) w'):WL r P ops Q (⟨none,.store t x y,ty,pos,af,g⟩ :: rest) (Fr n s ds) w:=by
 have d:=f.Cs hi
 have e:=run_storeCells_at P b o T vs 0 cs.toArray w d (by simpa using qv j) (by simpa using h1)
 have l:v.cells.size=sz:=by rw[<-m,<-hvs];simp
 refine DD (w' := w.setRow b (cs'.toArray)) k rfl ?_ ?_
 . simp only[execOp,p,q,Instr.storeAt,Instr.sureAddr,storeVar,zx,jU,zp,ht.size,l,ne_eq,not_true,if_false,hvs]
   subst hcs
   simp only[tM]at e
   simp[e,setAt]
 . subst h
   refine K _ ?_
   refine f.iP hi (gx.setRow w b _) (fun c a=>.inl a) (by simp[blk]) (fun c a=>?_) (setRow_heap w b cs.toArray cs'.toArray T (0,0) d)
   simp only[blk,k7]at a
   subst a
   simpa using(rG.1 d).1
theorem FV{bs:List (World×List Nat)}{L:List fT}(a:St bs L w)(T:TypeId)(cs:List Value):St bs (blk w.heap.size T cs :: L) (w.alloc (.cells cs.toArray T)) :=
 a.rU (gx.alloc [] w _) (fun b hb=>by simp[blk]at hb;omega) (by simp[blk]) (fun b hb=>by simp[blk]at hb;simp;omega) (heap_alloc_new w _)
theorem al(a:gI ops n s g=true)(ht:TI P t sz by_ z)(hcs:z.cells.toList=cs)(c:St bs L w)(K:∀ b w', w.heap.size<=b->gx [] w w' -> St bs (blk b t cs :: L) w' -> WL r P ops Q rest (Fr n ((d,.pointer (some ⟨b,0,none⟩)) :: s) ds) w') :
 WL r P ops Q (⟨some d,.alloc t,ty,pos,af,g⟩ :: rest) (Fr n s ds) w:=by
 subst hcs
 refine pv (w' := w.alloc (.cells z.cells t)) a rfl ?_ (K _ _ (zm _) (gx.alloc [] w _) ?_)
 . simp only[execOp,Instr.alloc,zx,ht.BZ,zp]
   rfl
 . have:=FV c t z.cells.toList
   simpa using this
theorem bx(a:gI ops n s g=true)(e:ev n s x=v)(hcs:v.cells.toList=cs)(c:St bs L w)(K:∀ b w', w.heap.size<=b->gx [] w w' -> St bs (blk b t cs :: L) w' -> WL r P ops Q rest (Fr n ((d,.pointer (some ⟨b,0,none⟩)) :: s) ds) w') :
 WL r P ops Q (⟨some d,.box t x,ty,pos,af,g⟩ :: rest) (Fr n s ds) w:=by
 subst hcs
 refine pv (w' := w.alloc (.cells v.cells t)) a rfl ?_ (K _ _ (zm _) (gx.alloc [] w _) ?_)
 . simp only[execOp,e,Instr.box]
   rfl
 . have:=FV c t v.cells.toList
   simpa using this
theorem Fh{T:TypeId}{byf:Nat}{zf:Value}{f:Field}(e:ev n s x = .pointer (some ⟨b,o,none⟩))(a:P.underlying T=some (.struct A))(c:A[i]? = some f)(ht:TI P f.type (dl+1) byf zf)(d:o+f.offset=o') :
 (execOp (ev n s) ⟨dd,.fieldAddr T x i,ty,pos,af,g⟩).run P w = .ok (.value (.pointer (some ⟨b,o', none⟩))) w:=by subst d;simp[execOp,e,Instr.fieldAt,run_underlying a,c,Instr.sureAddr,fieldPlace,ht.size,Addr.add_lit]
theorem fa{T:TypeId}{byf:Nat}{zf:Value}{f:Field}(e:gI ops n s g=true)(j:ev n s x = .pointer (some ⟨b,o,none⟩))(a:P.underlying T=some (.struct A))(c:A[i]? = some f)(ht:TI P f.type (dl+1) byf zf)(h:o+f.offset=o')(K:WL r P ops Q rest (Fr n ((d,.pointer (some ⟨b,o', none⟩)) :: s) ds) w) :
 WL r P ops Q (⟨some d,.fieldAddr T x i,ty,pos,af,g⟩ :: rest) (Fr n s ds) w:=pw e (fun _=>Fh j a c ht h) K
theorem JC{T e:TypeId}{m c:Nat}{i:Int}(h:ev n s x = .slice (some ⟨b,o,none⟩) m c)(j:ev n s y = .int k i)(d:P.underlying T=some (.slice e))(ht:TI P e sz by_ z)(a:0<=i/\i<m)(f:o+i.toNat*sz=o') :
 (execOp (ev n s) ⟨dd,.indexAddr T x y,ty,pos,af,g⟩).run P w = .ok (.value (.pointer (some ⟨b,o', none⟩))) w:=by subst f;simp[execOp,h,j,Instr.indexAt,run_underlying d,asIntOf,a,ht.size,Addr.add_lit]
theorem jq{T e:TypeId}{m c:Nat}{i:Int}(h:gI ops n s g=true)(l:ev n s x = .slice (some ⟨b,o,none⟩) m c)(p:ev n s y = .int k i)(f:P.underlying T=some (.slice e))(ht:TI P e sz by_ z)(a:0<=i/\i<m)(j:o+i.toNat*sz=o')(K:WL r P ops Q rest (Fr n ((d,.pointer (some ⟨b,o', none⟩)) :: s) ds) w) :
 WL r P ops Q (⟨some d,.indexAddr T x y,ty,pos,af,g⟩ :: rest) (Fr n s ds) w:=pw h (fun _=>JC l p f ht a j) K
end
end
def gU(k:IntKind)(x:Int):Prop:=k.min<=x/\x<=k.max
theorem gU.i64{x:Int}(h:gU .i64 x) : -9223372036854775808<=x/\x<=9223372036854775807:=h
def Sl{α:Type}(sz:Nat)(enc:World->α->List Value->Prop)(ok:Nat->Prop)(w:World)(v:Value)(xs:List α):Prop :=
 ∃ a c,v = .slice a xs.length c/\xs.length<=c/\c<=maxLen/\∀ i x,xs[i]? = some x->∃ b o vs,a=some ⟨b,o,none⟩/\ok b/\vs.length=sz/\enc w x vs/\∀ j u,vs[j]? = some u->w.cell? ⟨b,o+i*sz+j,none⟩=some u
def encI(k:IntKind)(_:World)(x:Int)(vs:List Value):Prop:=vs=[.int k x]/\gU k x
abbrev Ints(k:IntKind)(ok:Nat->Prop)(w:World)(v:Value)(xs:List Int):Prop:=Sl 1 (encI k) ok w v xs
variable{L:List fT}{R':fT}
section
variable {α:Type} {sz:Nat} {enc:World->α->List Value->Prop} {ok ok' : Nat->Prop} {w w' w0:World} {v:Value} {xs:List α}
theorem Sl.nil(sz:Nat)(enc:World->α->List Value->Prop)(ok:Nat->Prop)(w:World):Sl sz enc ok w (.slice none 0 0) [] :=
 ⟨none,0,rfl,zm _,mE _,fun i x h=>by simp at h⟩
theorem Sl.len(h:Sl sz enc ok w v xs):xs.length<=9223372036854775807:=by
 obtain⟨a,c,_,d,b,_⟩:=h
 simp only[maxLen]at b;omega
theorem Sl.mono(h:Sl sz enc ok w v xs)(j:∀ b,ok b->ok' b):Sl sz enc ok' w v xs:=by
 obtain⟨a,c,e,d,f,g⟩:=h
 exact⟨a,c,e,d,f,fun i x hi=>let ⟨b,o,vs,ha,hb,rest⟩:=g i x hi;⟨b,o,vs,ha,j b hb,rest⟩⟩
theorem Sl.any(h:Sl sz enc ok w v xs):Sl sz enc (fun _=>True) w v xs:=h.mono fun _ _=>trivial
theorem Sl.to(h:Sl sz enc ok w v xs)(hk:∀ b,ok b->b<w.heap.size->w'.heap[b]? = w.heap[b]?)(m:∀ x vs,x∈xs->enc w x vs->enc w' x vs)(hp:0<sz):Sl sz enc ok w' v xs:=by
 obtain⟨a,c,e,d,f,g⟩:=h
 refine⟨a,c,e,d,f,fun i x hi=>?_⟩
 obtain⟨b,o,vs,k,hb,p,q,l⟩:=g i x hi
 refine⟨b,o,vs,k,hb,p,m x vs (ze hi) q,fun j u n=>?_⟩
 have:=l j u n
 exact(World.cell?_of_block (hk b hb (World.block_lt_of_cell? w _ this))).trans this
theorem Ints.to{xs:List Int}(h:Ints k ok w v xs)(hk:∀ b,ok b->b<w.heap.size->w'.heap[b]? = w.heap[b]?):Ints k ok w' v xs :=
 Sl.to h hk (fun _ _ _ h=>h) d_
theorem St.ints{xs:List Int}(h:St bs L w)(hb:(w0,X)∈bs)(a:Ints k ok w0 v xs)(e:∀ b,ok b->b∉X):Ints k ok w v xs :=
 Ints.to a fun b c d=>h.keep hb d (e b c)
theorem St.Fu{xs:List Int}(h:St bs L w)(hb:(w0,[])∈bs)(a:Ints k ok w0 v xs):Ints k ok w v xs :=
 h.ints hb a fun _ _=>nr
theorem Sl.cut{a:Option Addr}{m c l h:Nat}(hs:Sl sz enc ok w (.slice a m c) xs)(z:l<=h)(v:h<=m) :
 Sl sz enc ok w (.slice (if c=l then a else a.map (·.add (l*sz))) (h-l) (c-l)) ((xs.take h).drop l):=by
 obtain⟨a', c', e,s,t,f⟩:=hs
 cases e
 have d:((xs.take h).drop l).length=h-l:=by simp;omega
 refine⟨_,c-l,by rw[d],by rw[d];omega,o_,fun i x hi=>?_⟩
 have y : i<h-l:=by have:=(zt.1 hi).1;omega
 have r:xs[l+i]? = some x:=by
  rw[HC,vJ,if_pos o_]at hi
  exact hi
 obtain⟨b,o,vs,g,hb,q, n,k⟩:=f (l+i) x r
 refine⟨b,o+l*sz,vs,?_,hb,q, n,fun j u p=>?_⟩
 . have:¬ c=l:=by
    intro e;subst e;omega
   rw[if_neg this,g]
   simp[Addr.add_lit]
 . have:=k j u p
   rw[tK]at this
   rw[show o+l*sz+i*sz+j=o+(l*sz+i*sz)+j by omega]
   exact this
end
theorem Kq{e:TypeId}{sz m:Nat}{xs:List Value}(h:w.ownsRow 0 e sz v m xs)(hb:v.ownBlock=some b):b<w.heap.size:=(h.lt b hb).2
theorem acS{t ty e:TypeId}{i:TypeInfo}(ht:P.underlying t=some (.slice e))(hi:P.info? e=some i){m:Nat}{xs:List Value}{sz:Nat}(f:w.ownsRow 0 e sz v m xs){a:Option Addr}{c:Nat}:(Builtin.append_ #[t,t] ty #[v,.slice a 0 c]).run P w = .ok v w:=by
 have b:(Builtin.firstCells i.size 0 (.slice a 0 c)).run P w = .ok #[] w:=by
  cases a with
  | none=>simp[Builtin.firstCells]
  | some a=>simp[Builtin.firstCells,loadCells,loadCellsFrom]
 rcases f.2 with ⟨rfl,rfl⟩|⟨g,h,cur,rfl,_,j,d,_,_,_⟩
 . simp[Builtin.append_,run_underlying ht,sizeOf,typeInfo,hi,Builtin.lenOf,b]
 . simp[Builtin.append_,run_underlying ht,sizeOf,typeInfo,hi,Builtin.lenOf,b,d,storeCells]
def Src(w:World)(u:Value)(sz cnt:Nat)(news:List Value):Prop :=
 ∃ a c,u = .slice a cnt c/\news.length=cnt*sz/\∀ j x,news[j]? = some x->∃ ad,a=some ad/\w.cell? (ad.add j)=some x
theorem acR{t ty e:TypeId}{sz by_:Nat}{z:Value}(ht:P.underlying t=some (.slice e))(hi:TI P e sz by_ z)(J:z.cells.size=sz)(B:0<sz){u:Value}{m cnt:Nat}{xs news:List Value}(d:w.ownsRow 0 e sz v m xs)(hs:Src w u sz cnt news)(h1:∀ x∈news,x.oneCell' = true)(hb:(m+cnt)*by_<=140737488355328)(r:m+cnt<=maxLen) :
 ∃ v' w', (Builtin.append_ #[t,t] ty #[v,u]).run P w = .ok v' w' /\ w'.ownsRow 0 e sz v' (m+cnt) (xs++news)/\gx v.ownBlock.toList w w' /\ (∀ b,v'.ownBlock=some b->(v.ownBlock=some b\/w.heap.size<=b)/\b<w'.heap.size) /\
  (v' = .slice none 0 0↔v = .slice none 0 0/\cnt=0):=by
 obtain⟨i,l,rfl,rfl,s⟩:=hi.get
 obtain⟨a,c,rfl,k,A⟩:=hs
 by_cases h0:cnt=0
 . subst h0
   have I:news=[]:=vD (by simpa using k)
   subst I
   exact⟨v,w,acS ht l d,by simpa using d,gx.refl _ _,fun b hb=>⟨.inl hb,Kq d hb⟩,s_⟩
 . have O:0<news.length:=by rw[k];exact Nat.mul_pos o_ B
   obtain⟨ad,rfl,_⟩:=A 0 news[0] s_
   have o : ∀ j x,news[j]? = some x->w.cell? (ad.add j)=some x:=fun j x H=>by
    obtain⟨K, e,h⟩:=A j x H
    cases e;exact h
   obtain⟨v', w', p,y,C,D⟩:=run_append_own (P:=P) w 0 t ty e i z i.size i.bytes ht l s rfl rfl J B v m xs d ad cnt c news k o h1 r hb (mE _)
   refine⟨v', w', p,y,gx.aaS C,fun b n => ⟨?_,Kq y n⟩,by simpa[h0]using D⟩
   rcases d.2 with ⟨rfl,rfl⟩|⟨g,q,cur,rfl,L,G,N,M,E,Q⟩
   . have R:xs=[]:=vD (by simpa using d.1)
     have f := run_append_nil (P:=P) w t ty e i z ht l s ad cnt c news k o o_ (by simp only[maxLen]at r;omega) (by simp only[tO]at hb;omega)
     rw[p]at f
     cases f
     right
     simp only[Value.ownBlock,Option.some.injEq]at n
     omega
   . by_cases hroom:m+cnt<=q
     . have F:m*i.size+news.length<=cur.size:=by rw[k,E,<-tK];exact DS _ hroom
       have f := run_append_room (P:=P) w t ty e i ht l g m q cur G ad cnt c news k o h1 hroom F
       rw[p]at f
       cases f
       left
       simpa[Value.ownBlock]using n
     . have holds:∀ j u,xs[j]? = some u->w.cell? ((⟨g,0,none⟩:Addr).add j)=some u:=d.cells (g:=g) rfl
       have f := run_append_grow (P:=P) w t ty e i z ht l s ⟨g,0,none⟩ m q xs d.1 holds ad cnt c news k o o_ (by simp only[maxLen]at r;omega) (growslice_fits o_ hb)
       rw[p]at f
       cases f
       right
       simp only[Value.ownBlock,Option.some.injEq]at n
       omega
section
variable {r:Option Nat} {P:Program} {ops:Array Oper} {Q:Exit->Act->World->Prop} {rest:List Oper} {n:Nat} {s:List (Nat×Value)} {ds:List Deferred} {w:World}
variable {d:Nat} {ty:TypeId} {pos:String} {af:Array Edge} {g:Option (Nat×Bool)} {v u:Value} {x y:Operand} {bs:List (World×List Nat)} {L L' : List fT} {t e:TypeId} {sz by_ m cnt:Nat} {z:Value} {xs news:List Value}
theorem NB(i:Nat)(p:gI ops n s g=true)(C:ev n s x=v)(D:ev n s y=u)(ht:P.underlying t=some (.slice e))(hi:TI P e sz by_ z)(E:z.cells.size=sz)(B:0<sz)(k:St bs L w)(j:L[i]? = some (row v e sz m xs))(hs:Src w u sz cnt news)(h1:∀ x∈news,x.oneCell' = true)(hb:(m+cnt)*by_<=140737488355328)(o:m+cnt<=maxLen)(K:∀ v' w', St bs (L.set i (row v' e sz (m+cnt) (xs++news))) w' -> gx v.ownBlock.toList w w' -> WL r P ops Q rest (Fr n ((d,v') :: s) ds) w') :
 WL r P ops Q (⟨some d,.call ⟨.builtin .append,#[x,y],#[t,t]⟩,ty,pos,af,g⟩ :: rest) (Fr n s ds) w:=by
 have q:w.ownsRow 0 e sz v m xs:=k.own _ (ze j)
 obtain⟨v', w', A,l,c,f,_⟩:=acR (ty:=ty) ht hi E B q hs h1 hb o
 refine pv p rfl (v:=v') (w' := w') (by simp only[execOp,resolve,invoke,builtin,zx,jU,zp,HG,l9,BX,C,D,A]) (K v' w' ?_ c)
 refine k.iP j c (fun b a => ?_) ?_ (fun b a => ?_) l
 . simp only[row,Option.mem_toList]at a
   rcases(f b a).1 with h|h
   . exact .inl (by simp[row,h])
   . exact .inr h
 . show v'.ownBlock.toList.Nodup
   cases v'.ownBlock<;>simp
 . simp only[row,Option.mem_toList]at a
   exact(f b a).2
theorem iV(i:Nat)(a:gI ops n s g=true)(b:ev n s x=v)(ht:P.underlying t=some (.slice e))(h:St bs L w)(c:L[i]? = some (row v e sz m xs))(K:WL r P ops Q rest (Fr n ((d,.int .i64 m) :: s) ds) w):WL r P ops Q (⟨some d,.call ⟨.builtin .len,#[x],#[t]⟩,ty,pos,af,g⟩ :: rest) (Fr n s ds) w:=by
 have f:w.ownsRow 0 e sz v m xs:=h.own _ (ze c)
 rcases f.2 with ⟨rfl,rfl⟩|⟨k, j,cur,rfl,_⟩
 . exact FB a b ht K
 . exact FB a b ht K
theorem jY{α:Type}{enc:World->α->List Value->Prop}{ys:List α}(f:gI ops n s g=true)(h:ev n s x=v)(ht:P.underlying t=some (.slice e))(b:Sl sz enc ok w0 v ys)(K:WL r P ops Q rest (Fr n ((d,.int .i64 ys.length) :: s) ds) w):WL r P ops Q (⟨some d,.call ⟨.builtin .len,#[x],#[t]⟩,ty,pos,af,g⟩ :: rest) (Fr n s ds) w:=by
 obtain⟨a,c,rfl,_⟩:=b
 exact FB f h ht K
theorem CI{ys:List Int}{i:Int}(p:gI ops n s g=true)(A:ev n s x=v)(B:ev n s y = .int k' i)(ht:P.underlying t=some (.slice e))(hi:TI P e 1 by_ z)(l:Ints k ok w v ys)(h:0<=i)(f:ys[i.toNat]? = some el)(K:∀ b o,w.cell? ⟨b,o,none⟩=some (.int k el)->gU k el->ok b->WL r P ops Q rest (Fr n ((d,.pointer (some ⟨b,o,none⟩)) :: s) ds) w) :
 WL r P ops Q (⟨some d,.indexAddr t x y,ty,pos,af,g⟩ :: rest) (Fr n s ds) w:=by
 have D:=(zt.1 f).1
 obtain⟨a,c,rfl,_,_,j⟩:=l
 obtain⟨b,o,vs,rfl,u,C,⟨rfl,q⟩,m⟩:=j i.toNat el f
 refine jq p A B ht hi ⟨h,o_⟩ rfl (K b _ ?_ q u)
 have:=m 0 (.int k el) s_
 simpa using this
end
def Q2(l:List Oper)(pre:List (List Nat)):Bool :=
 (List.range l.length).all fun j=>(pre.getD j []).all fun i=>(l[j]?).any fun o=>o.after.toList.any fun e=>Region.binds .any e&&decide (e.on<j)&&(e.on==i||(pre.getD e.on []).contains i)
section
variable {Γ:Type} {r:Option Nat} {P:Program} {Q:Exit->Act->World->Prop} {n:Nat} {ds:List Deferred} {s0:List (Nat×Value)} {l:List Oper} {pre:List (List Nat)} {mem:List Nat} {V:List (Γ->Value)} {M:Nat->Γ->World->Prop}
structure Down (l:List Oper) (S:Nat->Bool):Prop where
 closed:∀ j o,l[j]? = some o->S j=true->∀ e∈o.after,Region.binds .any e=true->S e.on=true
theorem abJ{S:Nat->Bool}(hp:Q2 l pre=true)(hd:Down l S):∀ j,S j=true->j<l.length->∀ i,(pre.getD j []).contains i=true->S i=true:=by
 intro j
 induction j using Nat.strongRecOn with
 | _ j m =>
  intro g c i hi
  have f:=z6.1 hp j (l8.2 c)
  have a:=z6.1 f i (by simpa using hi)
  rw[z8 c]at a
  simp only[Option.any_some,List.any_eq_true,nq,decide_eq_true_eq,HI,beq_iff_eq]at a
  obtain⟨e,h,⟨hb,k⟩,b⟩:=a
  have d:=hd.closed j _ (z8 c) g e (by simpa using h) hb
  rcases b with rfl|b
  . exact d
  . exact m e.on k d o_ i (by simpa using b)
theorem Xu(a:Array Bool)(i j:Nat)(hi:i<a.size):(a.setIfInBounds i true).getD j false=(a.getD j false||j==i):=by
 by_cases h:i=j
 . subst h;simp[hi]
 . have b : (j==i)=false:=by simpa using Ne.symm h
   simp[b, Array.getElem?_setIfInBounds_ne h]
theorem Jh(m j:Nat):(Array.replicate m false).getD j false=false:=by
 rcases BY j m with h|h
 . simp[h]
 . simp[h]
end
section
variable {r:Option Nat} {P:Program} {ops:Array Oper} {Q:Exit->Act->World->Prop} {rest:List Oper} {n:Nat} {s:List (Nat×Value)} {ds:List Deferred} {w w' : World}
variable {d:Nat} {dd:Option Nat} {ty:TypeId} {pos:String} {af:Array Edge} {g:Option (Nat×Bool)} {v u:Value} {x y:Operand} {bs:List (World×List Nat)} {L L' : List fT} {t e:TypeId} {sz by_ m cnt:Nat} {z:Value} {xs news:List Value}
theorem RW{T:TypeId}{cs':List Value}(i:Nat)(m:ev n s x = .pointer (some ⟨b,o,none⟩))(p:ev n s y=v)(hvs:v.cells.toList=vs)(ht:TI P t sz by_ z)(l:vs.length=sz)(h1:vs.all (·.oneCell')=true)(f:St bs L w)(hi:L[i]? = some (blk b T cs))(j:o+vs.length<=cs.length)(hcs:setAt cs o vs=cs')(h:L.set i (blk b T cs')=L') :
 ∃ w', (execOp (ev n s) ⟨dd,.store t x y,ty,pos,af,g⟩).run P w = .ok .skip w' /\ St bs L' w' /\ gx [b] w w' := by
 have d:=f.Cs hi
 have e:=run_storeCells_at P b o T vs 0 cs.toArray w d (by simpa using j) (by simpa using h1)
 have k:v.cells.size=sz:=by rw[<-l,<-hvs];simp
 refine⟨w.setRow b (cs'.toArray),?_,?_,gx.setRow w b _⟩
 . simp only[execOp,m,p,Instr.storeAt,Instr.sureAddr,storeVar,zx,jU,zp,ht.size,k,ne_eq,not_true,if_false,hvs]
   subst hcs
   simp only[tM]at e
   simp[e,setAt]
 . subst h
   refine f.iP hi (gx.setRow w b _) (fun c a=>.inl a) (by simp[blk]) (fun c a=>?_) (setRow_heap w b cs.toArray cs'.toArray T (0,0) d)
   simp only[blk,k7]at a
   subst a
   simpa using(rG.1 d).1
theorem Gz{T:TypeId}{cs':List Value}(i:Nat)(h:gI ops n s g=true)(l:ev n s x = .pointer (some ⟨b,o,none⟩))(m:ev n s y=v)(hvs:v.cells.toList=vs)(ht:TI P t sz by_ z)(k:vs.length=sz)(h1:vs.all (·.oneCell')=true)(j:St bs L w)(hi:L[i]? = some (blk b T cs))(f:o+vs.length<=cs.length)(hcs:setAt cs o vs=cs')(e:L.set i (blk b T cs')=L')(K:∀ w', St bs L' w' -> gx [b] w w' -> WL r P ops Q rest (Fr n s ds) w'):WL r P ops Q (⟨none,.store t x y,ty,pos,af,g⟩ :: rest) (Fr n s ds) w:=by
 obtain⟨w', a,c,d⟩:=RW (dd:=none) (ty:=ty) (pos:=pos) (af:=af) (g:=g) i l m hvs ht k h1 j hi f hcs e
 exact DD h rfl a (K w' c d)
theorem O8{T e:TypeId}{m:Nat}{i:Int}(f:ev n s x = .pointer (some ⟨b,o,none⟩))(h:ev n s y = .int k i)(c:P.underlying T=some (.array m e))(ht:TI P e sz by_ z)(a:0<=i/\i<m)(d:o+i.toNat*sz=o') :
 (execOp (ev n s) ⟨dd,.indexAddr T x y,ty,pos,af,g⟩).run P w = .ok (.value (.pointer (some ⟨b,o', none⟩))) w:=by
 subst d
 simp only[execOp,f,h,Instr.indexAt,run_underlying c,asIntOf,zx,jU,zp,Instr.sureAddr]
 simp[a,ht.size,Addr.add_lit]
theorem ic{T e:TypeId}{m:Nat}{i:Int}(f:gI ops n s g=true)(j:ev n s x = .pointer (some ⟨b,o,none⟩))(l:ev n s y = .int k i)(c:P.underlying T=some (.array m e))(ht:TI P e sz by_ z)(a:0<=i/\i<m)(h:o+i.toNat*sz=o')(K:WL r P ops Q rest (Fr n ((d,.pointer (some ⟨b,o', none⟩)) :: s) ds) w) :
 WL r P ops Q (⟨some d,.indexAddr T x y,ty,pos,af,g⟩ :: rest) (Fr n s ds) w:=pw f (fun _=>O8 j l c ht a h) K
theorem UY{pvs:List (Nat×Value)}(hp:ps.map (fun q=>(q.1,ev n s q.2))=pvs)(hb:∀ w,(Instr.build t pvs.toArray).run P w = .ok v w) :
 (execOp (ev n s) ⟨dd,.build t ps.toArray,ty,pos,af,g⟩).run P w = .ok (.value v) w:=by
 have:(ps.toArray.map fun(i,x)=>(i,ev n s x))=pvs.toArray:=by rw[<-hp];simp
 simp only[execOp,this,zx,hb,zp,jU]
theorem iU{pvs:List (Nat×Value)}(a:gI ops n s g=true)(hp:ps.map (fun q=>(q.1,ev n s q.2))=pvs)(hb:∀ w,(Instr.build t pvs.toArray).run P w = .ok v w)(K:WL r P ops Q rest (Fr n ((d,v) :: s) ds) w):WL r P ops Q (⟨some d,.build t ps.toArray,ty,pos,af,g⟩ :: rest) (Fr n s ds) w:=pw a (fun _=>UY hp hb) K
theorem aah{T:Array TypeId}{b c:Int}(d:ev n s x = .int k a)(e:ev n s y = .int k b)(hc:(if b<a then b else a)=c) :
 (execOp (ev n s) ⟨dd,.call ⟨.builtin .min,#[x,y],T⟩,ty,pos,af,g⟩).run P w = .ok (.value (.int k c)) w:=by
 subst hc;simp[execOp,resolve,invoke,builtin,d,e,Builtin.min_,Builtin.min2]
theorem min2{T:Array TypeId}{b c:Int}(e:gI ops n s g=true)(f:ev n s x = .int k a)(h:ev n s y = .int k b)(hc:(if b<a then b else a)=c)(K:WL r P ops Q rest (Fr n ((d,.int k c) :: s) ds) w):WL r P ops Q (⟨some d,.call ⟨.builtin .min,#[x,y],T⟩,ty,pos,af,g⟩ :: rest) (Fr n s ds) w:=pw e (fun _=>aah f h hc) K
theorem ZS{T:Array TypeId}{b c:Int}(d:ev n s x = .int k a)(e:ev n s y = .int k b)(hc:(if a<b then b else a)=c) :
 (execOp (ev n s) ⟨dd,.call ⟨.builtin .max,#[x,y],T⟩,ty,pos,af,g⟩).run P w = .ok (.value (.int k c)) w:=by
 subst hc;simp[execOp,resolve,invoke,builtin,d,e,Builtin.max_,Builtin.max2]
theorem max2{T:Array TypeId}{b c:Int}(e:gI ops n s g=true)(f:ev n s x = .int k a)(h:ev n s y = .int k b)(hc:(if a<b then b else a)=c)(K:WL r P ops Q rest (Fr n ((d,.int k c) :: s) ds) w):WL r P ops Q (⟨some d,.call ⟨.builtin .max,#[x,y],T⟩,ty,pos,af,g⟩ :: rest) (Fr n s ds) w:=pw e (fun _=>ZS f h hc) K
theorem WQ{a:Option Addr}{m c:Nat}{t':TypeId}(b:ev n s x = .slice a m c)(d:ev n s y = .slice none 0 0)(ht:P.underlying t=some (.slice e)) :
 (execOp (ev n s) ⟨dd,.binOp .eql t x y t', ty,pos,af,g⟩).run P w = .ok (.value (.bool a.isNone)) w:=by
 have h:=Lib.run_eql_slice_nil (P:=P) w t e a m c 0 0 ht
 simp[execOp,b,d,eqGuard,h]
theorem WO{a:Option Addr}{m c:Nat}{t':TypeId}(b:gI ops n s g=true)(f:ev n s x = .slice a m c)(h:ev n s y = .slice none 0 0)(ht:P.underlying t=some (.slice e))(K:WL r P ops Q rest (Fr n ((d,.bool a.isNone) :: s) ds) w):WL r P ops Q (⟨some d,.binOp .eql t x y t', ty,pos,af,g⟩ :: rest) (Fr n s ds) w:=pw b (fun _=>WQ f h ht) K
theorem Ql(d:St bs L w)(e:TypeId)(sz len:Nat)(cs:List Value)(a:cs.length=len*sz)(c:len<=maxLen) :
 St bs (row (.slice (some ⟨w.heap.size,0,none⟩) len len) e sz len cs :: L) (w.alloc (.cells cs.toArray e)) :=
 d.rU (gx.alloc [] w _) (fun b hb=>by simp[row,Value.ownBlock]at hb;omega) (by simp[row,Value.ownBlock]) (fun b hb=>by simp[row,Value.ownBlock]at hb;simp;omega)
  ⟨a,.inr ⟨w.heap.size,len,cs.toArray,rfl,mE _,heap_alloc_new w _,zm _,c,by simp[a],by simp[<-a]⟩⟩
theorem NQ{len:Nat}{pvs:List (Nat×Value)}(hp:ps.map (fun q=>(q.1,ev n s q.2))=pvs)(ht:P.underlying t=some (.slice e))(hi:TI P e sz by_ z)(hc:Instr.fill (fun i=>some (i*sz,sz)) ((Array.range (len*sz)).map (z.cells[· % z.cells.size]!)) pvs=some cs.toArray)(d:len*sz<=16777216) :
 (execOp (ev n s) ⟨dd,.buildSlice t len ps.toArray,ty,pos,af,g⟩).run P w = .ok (.value (.slice (some ⟨w.heap.size,0,none⟩) len len)) (w.alloc (.cells cs.toArray e)):=by
 have a:(ps.toArray.map fun(i,x)=>(i,ev n s x))=pvs.toArray:=by rw[<-hp];simp
 have b:¬ len*sz>2 ^ 24:=by simp;omega
 simp only[execOp,a,Instr.buildSlice,zx,run_underlying ht,zp,hi.size,jU]
 rw[if_neg b]
 by_cases h0:len*sz=0
 . simp only[h0,if_true,zx,jU,zp]
   rw[h0]at hc
   have c : Instr.fill (fun i=>some (i*sz,sz)) ((Array.range 0).map ((#[]:Array Value)[· % (#[]:Array Value).size]!)) pvs=some cs.toArray:=by
    rw[<-hc];simp[Array.range_zero']
   simp only[c, zx,jU,zp]
   rfl
 . simp only[h0,if_false,zx,hi.BZ,jU,zp,hc]
   rfl
theorem U3{len:Nat}{pvs:List (Nat×Value)}(c:gI ops n s g=true)(hp:ps.map (fun q=>(q.1,ev n s q.2))=pvs)(ht:P.underlying t=some (.slice e))(hi:TI P e sz by_ z)(hc:Instr.fill (fun i=>some (i*sz,sz)) ((Array.range (len*sz)).map (z.cells[· % z.cells.size]!)) pvs=some cs.toArray)(f:cs.length=len*sz)(h:Nat.ble (len*sz) 16777216=true)(a:Nat.ble len 16777216=true)(j:St bs L w)(K:∀ b w', w.heap.size<=b->gx [] w w' -> St bs (row (.slice (some ⟨b,0,none⟩) len len) e sz len cs :: L) w' -> WL r P ops Q rest (Fr n ((d,.slice (some ⟨b,0,none⟩) len len) :: s) ds) w') :
 WL r P ops Q (⟨some d,.buildSlice t len ps.toArray,ty,pos,af,g⟩ :: rest) (Fr n s ds) w :=
 pv c rfl (NQ hp ht hi hc (qv h)) (K _ _ (zm _) (gx.alloc [] w _) (Ql j e sz len cs f (by have:=qv a;simp only[maxLen];omega)))
def idx:Nat->List Value->List (Nat×Value)
 | _,[]=>[]
 | i,v :: vs=>(i,v) :: idx (i+1) vs
theorem OQ(off:Nat):∀ (l:List Value) (a:Nat) (b:Array Value),off+a+l.length<=b.size ->
 (l.zipIdx a).foldl (fun cs (q:Value×Nat)=>cs.setIfInBounds (off+q.2) q.1) b=(b.toList.take (off+a)++l++b.toList.drop (off+a+l.length)).toArray:=by
 intro l
 induction l with
 | nil=>intro a b _;simp
 | cons c l f =>
  intro a b h
  simp only[List.zipIdx_cons,List.foldl_cons]
  rw[f (a+1) _ (by simp at h ⊢;omega)]
  simp only[zh]at h
  have e:off+a<b.toList.length:=by simp;omega
  congr 1
  rw[Array.toList_setIfInBounds,List.set_eq_take_append_cons_drop,if_pos e]
  have e1:(b.toList.take (off+a)++c :: b.toList.drop (off+a+1)).take (off+(a+1))=b.toList.take (off+a)++[c]:=by
   grind
  have d:(b.toList.take (off+a)++c :: b.toList.drop (off+a+1)).drop (off+(a+1)+l.length)=b.toList.drop (off+a+(l.length+1)):=by
   rw[List.drop_append,k8,vM o_,Mb (by simp;omega),show off+(a+1)+l.length-(off+a)=l.length+1 by omega]
   simp only[pg,List.drop_succ_cons,List.drop_drop]
   congr 1;omega
  rw[e1,d]
  simp
theorem OK(sz:Nat):∀ (vs:List Value) (k:Nat) (a:Array Value),(∀ v∈vs,v.cells.size=sz)->k*sz+vs.length*sz<=a.size ->
 Instr.fill (fun i=>some (i*sz,sz)) a (idx k vs)=some (a.toList.take (k*sz)++vs.flatMap (·.cells.toList)++a.toList.drop (k*sz+vs.length*sz)).toArray:=by
 intro vs
 induction vs with
 | nil=>intro k a _ _;simp[idx,Instr.fill]
 | cons v vs h =>
  intro k a hs e
  have hv:=hs v s_
  simp only[zh,tK,Nat.one_mul]at e
  simp only[idx,Instr.fill,hv]
  rw[if_neg (by simp;omega)]
  have l:=OQ (k*sz) v.cells.toList 0 a (by simp[hv];omega)
  have g:Array.foldl (fun cs (q:Value×Nat)=>cs.setIfInBounds (k*sz+q.2) q.1) a v.cells.zipIdx=(a.toList.take (k*sz)++v.cells.toList++a.toList.drop (k*sz+sz)).toArray:=by
   rw[<-Array.foldl_toList,Array.toList_zipIdx]
   grind
  rw[show (Array.foldl (fun cs (x:Value×Nat)=>match x with|(c,j)=>cs.setIfInBounds (k*sz+j) c) a v.cells.zipIdx)=_ from g]
  have b:v.cells.toList.length=sz:=by simp[hv]
  rw[h (k+1) _ (fun u f=>hs u (by simp[f])) (by simp[b,tK];omega)]
  congr 2
  simp only[List.toList_toArray,tK,Nat.one_mul,kR,zh]
  have e1:(a.toList.take (k*sz)++v.cells.toList++a.toList.drop (k*sz+sz)).take (k*sz+sz)=a.toList.take (k*sz)++v.cells.toList:=by
   grind
  have d:(a.toList.take (k*sz)++v.cells.toList++a.toList.drop (k*sz+sz)).drop (k*sz+sz+vs.length*sz)=a.toList.drop (k*sz+(vs.length*sz+sz)):=by
   rw[List.drop_append,Mb (by simp[b];omega)]
   simp only[zo,k8,uI,b,pg,List.drop_drop]
   congr 1;omega
  rw[e1,d]
  simp
theorem jW{len:Nat}(h:gI ops n s g=true)(hp:ps.map (fun q=>(q.1,ev n s q.2))=idx 0 vs)(ht:P.underlying t=some (.slice e))(hi:TI P e sz by_ z)(i:vs.length=len)(hv:∀ v∈vs,v.cells.size=sz)(hcs:vs.flatMap (·.cells.toList)=cs)(c:Nat.ble (len*sz) 16777216=true)(a:Nat.ble len 16777216=true)(j:St bs L w)(K:∀ b w', w.heap.size<=b->gx [] w w' -> St bs (row (.slice (some ⟨b,0,none⟩) len len) e sz len cs :: L) w' -> WL r P ops Q rest (Fr n ((d,.slice (some ⟨b,0,none⟩) len len) :: s) ds) w') :
 WL r P ops Q (⟨some d,.buildSlice t len ps.toArray,ty,pos,af,g⟩ :: rest) (Fr n s ds) w:=by
 subst i hcs
 have f:(vs.flatMap (·.cells.toList)).length=vs.length*sz:=by
  clear hp c a K
  induction vs with
  | nil=>simp
  | cons v vs l=>simp only[kR,zo,zh,uI,hv v s_,l (fun u k=>hv u (by simp[k])),tK];omega
 refine U3 h hp ht hi ?_ f c a j K
 rw[OK sz vs 0 _ hv s_]
 simp
theorem ZN(k:Nat):madeCells #[z0] k=(List.replicate k z0).toArray:=by
 unfold madeCells
 grind
theorem aal{c m:Nat}(j:ev n s x = .int k (m:Int))(l:ev n s y = .int k' (c:Int))(ht:P.underlying t=some (.slice e))(hi:TI P e 1 by_ z)(o:z.cells = #[z])(hm:m<=c)(hb:by_*c<=281474976710656)(p:c<=9223372036854775807) :
 (execOp (ev n s) ⟨dd,.makeSlice t x y,ty,pos,af,g⟩).run P w = .ok (.value (.slice (some ⟨w.heap.size,0,none⟩) m c)) (w.alloc (.cells (List.replicate c z).toArray e)):=by
 obtain⟨i,h,b,d,f⟩:=hi.get
 subst d
 have a:=run_make (P:=P) w t e i z ht h f k k' m c o_ o_ (by rw[<-Int.natCast_mul];omega) o_
 rw[o,b,qO]at a
 simp only[nG]at a
 rw[ZN]at a
 simp only[execOp,j,l,zx,a,zp,jU]
theorem j4{c m:Nat}(f:gI ops n s g=true)(i:ev n s x = .int k (m:Int))(j:ev n s y = .int k' (c:Int))(ht:P.underlying t=some (.slice e))(hi:TI P e 1 by_ z)(l:z.cells = #[z])(hm:m<=c)(hb:by_*c<=281474976710656)(a:c<=9223372036854775807)(h:St bs L w)(K:∀ b w', w.heap.size<=b->gx [] w w' -> St bs (blk b e (List.replicate c z) :: L) w' -> WL r P ops Q rest (Fr n ((d,.slice (some ⟨b,0,none⟩) m c) :: s) ds) w') :
 WL r P ops Q (⟨some d,.makeSlice t x y,ty,pos,af,g⟩ :: rest) (Fr n s ds) w :=
 pv f rfl (aal i j ht hi l hm hb a) (K _ _ (zm _) (gx.alloc [] w _) (FV h e _))
theorem St.Td{m c sz:Nat}(h:St bs L w)(hi:L[i]? = some (blk b e cs))(d:cs.length=c*sz)(hm:m<=c)(hc:c<=maxLen) :
 St bs (L.set i (row (.slice (some ⟨b,0,none⟩) m c) e sz m (cs.take (m*sz)))) w:=by
 have f:=h.Cs hi
 refine h.iP hi (gx.refl _ _) (fun x a=>.inl (by simpa[row,Value.ownBlock,blk]using a)) (by simp[row,Value.ownBlock]) (fun x a=>?_) ?_
 . simp[row,Value.ownBlock]at a
   grind
 . refine⟨by simp[d];rw[<-Nat.mul_min_mul_right,vM (DS _ hm)],.inr ⟨b,c,cs.toArray,rfl,mE _,f,hm,hc,by simp[d],s_⟩⟩
theorem St.acL(h:St bs L w)(hi:L[i]? = some (row v e sz m xs)):Src w v sz m xs:=by
 have a:w.ownsRow 0 e sz v m xs:=h.own _ (ze hi)
 rcases a.2 with ⟨rfl,rfl⟩|⟨d, c,cur,rfl,_⟩
 . exact⟨none,0,rfl,a.1,fun j x b=>by have:=a.1;simp at this;subst this;simp at b⟩
 . exact⟨some ⟨d, 0,none⟩,c,rfl,a.1,fun j x b=>⟨_,rfl,a.cells rfl j x b⟩⟩
theorem V8{dc:Nat}{T:TypeId}{cs':List Value}{t':TypeId}(D:ev n s x = .slice (some ⟨b,o,none⟩) dl dc)(E:ev n s y=u)(ht:P.underlying t=some (.slice e))(hi:TI P e 1 by_ z)(hs:Src w u 1 cnt news)(h1:∀ x∈news,x.oneCell' = true)(p:St bs L w)(j:L[i]? = some (blk b T cs))(B:o+min cnt dl<=cs.length)(hcs:setAt cs o (news.take dl)=cs')(r:L.set i (blk b T cs')=L') :
 ∃ w', (execOp (ev n s) ⟨dd,.call ⟨.builtin .copy,#[x,y],#[t,t']⟩,ty,pos,af,g⟩).run P w = .ok (.value (.int .i64 ((min cnt dl:Nat):Int))) w' /\ St bs L' w' /\ gx [b] w w' := by
 obtain⟨a,c,rfl,k,C⟩:=hs
 rw[qO]at k
 have f:=p.Cs j
 have l:(news.take dl).length=min cnt dl:=by rw[k8,k,Nat.min_comm]
 have A:(Builtin.firstCells 1 (Nat.min cnt dl) (.slice a cnt c)).run P w = .ok (news.take dl).toArray w:=by
  cases a with
  | none =>
   have:news=[]:=by
    cases news with
    | nil=>rfl
    | cons q F=>obtain⟨ad,h,_⟩:=C 0 q rfl;cases h
   subst this
   simp[Builtin.firstCells]
  | some a =>
   refine run_firstCells_some w 1 (Nat.min cnt dl) a cnt c (news.take dl) ?_ ?_
   . rw[l,qO]
   . grind
 have m:=run_storeCells_at P b o T (news.take dl) 0 cs.toArray w f (by rw[l];simpa using B) (fun v hv=>h1 v (BL hv))
 simp only[tM]at m
 refine⟨w.setRow b cs'.toArray,?_,?_,gx.setRow w b _⟩
 . subst hcs
   simp only[execOp,resolve,invoke,builtin,zx,jU,zp,HG,l9,BX,D,E]
   simp[Builtin.copy_,run_underlying ht,Builtin.lenOf,hi.size,A,m,setAt,goInt]
 . subst r
   refine p.iP j (gx.setRow w b _) (fun c d=>.inl d) (by simp[blk]) (fun c d=>?_) (setRow_heap w b cs.toArray cs'.toArray T (0,0) f)
   simp only[blk,k7]at d
   subst d
   simpa using(rG.1 f).1
theorem V7{dc:Nat}{T:TypeId}{cs':List Value}{t':TypeId}(i:Nat)(k:gI ops n s g=true)(m:ev n s x = .slice (some ⟨b,o,none⟩) dl dc)(p:ev n s y=u)(ht:P.underlying t=some (.slice e))(hi:TI P e 1 by_ z)(hs:Src w u 1 cnt news)(h1:∀ x∈news,x.oneCell' = true)(l:St bs L w)(f:L[i]? = some (blk b T cs))(j:o+min cnt dl<=cs.length)(hcs:setAt cs o (news.take dl)=cs')(h:L.set i (blk b T cs')=L')(K:∀ w', St bs L' w' -> gx [b] w w' -> WL r P ops Q rest (Fr n (yP dd (.int .i64 ((min cnt dl:Nat):Int)) s) ds) w') :
 WL r P ops Q (⟨dd,.call ⟨.builtin .copy,#[x,y],#[t,t']⟩,ty,pos,af,g⟩ :: rest) (Fr n s ds) w:=by
 obtain⟨w', a,c,d⟩:=V8 (dd:=dd) (ty:=ty) (pos:=pos) (af:=af) (g:=g) (t' := t') m p ht hi hs h1 l f j hcs h
 exact LX k rfl a (by rw[B2];exact K w' c d)
theorem St.acH{ys:List Int}(h:St bs L w)(hi:L[i]? = some (row v e 1 ys.length (ys.map (.int k))))(hk:∀ y∈ys,gU k y):Ints k (fun b=>b∈iZ L) w v ys:=by
 have f:w.ownsRow 0 e 1 v ys.length (ys.map (.int k)):=h.own _ (ze hi)
 rcases f.2 with ⟨rfl,o⟩|⟨c, l,cur,rfl,_,p,m,n,_⟩
 . grind [Sl.nil]
 . refine⟨_,l,rfl,m,n,fun j y d=>⟨c, 0,[.int k y],rfl,su hi (by simp[row,Value.ownBlock]),rfl,⟨rfl,hk y (ze d)⟩,fun q u a=>?_⟩⟩
   cases q with
   | zero =>
    simp at a
    subst a
    have:=f.cells (g:=c) rfl j (.int k y) (by simp[d])
    rw[Addr.add_lit]at this
    simpa using this
   | succ q=>simp at a
end
abbrev iz(k:IntKind)(v:Value)(e:TypeId)(ys:List Int):fT:=row v e 1 ys.length (ys.map (.int k))
section
variable {r:Option Nat} {P:Program} {ops:Array Oper} {Q:Exit->Act->World->Prop} {rest:List Oper} {n:Nat} {s:List (Nat×Value)} {ds:List Deferred} {w w' w0:World}
variable {d:Nat} {dd:Option Nat} {ty:TypeId} {pos:String} {af:Array Edge} {g:Option (Nat×Bool)} {v u:Value} {x y:Operand} {bs:List (World×List Nat)} {L L' : List fT} {t e:TypeId} {sz by_ m cnt:Nat} {z:Value} {k:IntKind} {ys zs:List Int}
theorem X0(k:IntKind)(zs:List Int):∀ x∈zs.map (Value.int k),x.oneCell' = true:=by
 intro x a
 obtain⟨y,_,rfl⟩:=zq.1 a
 rfl
theorem vZ{LL:Value->List fT}(i:Nat)(h:gI ops n s g=true)(l:ev n s x=v)(m:ev n s y=u)(ht:P.underlying t=some (.slice e))(hi:TI P e 1 by_ z)(o:z.cells.size=1)(j:St bs L w)(c:L[i]? = some (iz k v e ys))(hs:Src w u 1 zs.length (zs.map (.int k)))(hb:(ys.length+zs.length)*by_<=140737488355328)(p:ys.length+zs.length<=9223372036854775807)(f:∀ v', L.set i (iz k v' e (ys++zs))=LL v')(K:∀ v' w', St bs (LL v') w' -> gx v.ownBlock.toList w w' -> WL r P ops Q rest (Fr n ((d,v') :: s) ds) w') :
 WL r P ops Q (⟨some d,.call ⟨.builtin .append,#[x,y],#[t,t]⟩,ty,pos,af,g⟩ :: rest) (Fr n s ds) w:=by
 refine NB i h l m ht hi o d_ j c hs (X0 k zs) hb (by simp only[maxLen];omega) fun v' w' a b=>K v' w' ?_ b
 rw[<-f]
 simpa[iz]using a
theorem St.ER(h:St bs L w)(e:TypeId)(sz:Nat):St bs (row (.slice none 0 0) e sz 0 [] :: L) w :=
 h.add (lo:=w.heap.size) (fun p hp=>(h.base p hp).gA.size) h.lt (fun b hb=>by simp[row,Value.ownBlock]at hb) (by simp[row,Value.ownBlock]) (fun b hb=>by simp[row,Value.ownBlock]at hb) (World.ownsRow_nil w 0 e sz)
end
def Nw(sz:Nat)(v:Value)(i:Nat):Value:=match v with
 | .slice (some ⟨b,o,_⟩) _ _=>.pointer (some ⟨b,o+i*sz,none⟩)
 | _=>.pointer none
def mq(sz:Nat)(v:Value)(l h:Nat):Value:=match v with
 | .slice a _ c=>.slice (if c=l then a else a.map (·.add (l*sz))) (h-l) (c-l)
 | _=>v
section
variable {P:Program} {n:Nat} {s:List (Nat×Value)} {w:World} {dd:Option Nat} {ty:TypeId} {pos:String} {af:Array Edge} {g:Option (Nat×Bool)} {v:Value} {x y:Operand} {t e:TypeId} {sz by_:Nat} {z:Value} {u:TypeDesc}
theorem Sl.mq{α:Type}{sz:Nat}{enc:World->α->List Value->Prop}{w:World}{v:Value}{xs:List α}{l h:Nat}(hs:Sl sz enc ok w v xs)(i:l<=h)(g:h<=xs.length):Sl sz enc ok w (Go.Sx.mq sz v l h) ((xs.take h).drop l):=by
 obtain⟨a,c,rfl,b,d,e⟩:=hs
 have f:Sl sz enc ok w (.slice a xs.length c) xs:=⟨a,c,rfl,b,d,e⟩
 exact f.cut i g
theorem YJ{α:Type}{enc:World->α->List Value->Prop}{ys:List α}(d:ev n s x=v)(ht:P.underlying t=some (.slice e))(b:Sl sz enc ok w0 v ys) :
 (execOp (ev n s) ⟨dd,.call ⟨.builtin .len,#[x],#[t]⟩,ty,pos,af,g⟩).run P w = .ok (.value (.int .i64 ys.length)) w:=by
 obtain⟨a,c,rfl,_⟩:=b
 exact FC d ht
theorem Ya{α:Type}{enc:World->α->List Value->Prop}{ys:List α}{i:Int}{el:α}(k:ev n s x=v)(l:ev n s y = .int k' i)(ht:P.underlying t=some (.slice e))(hi:TI P e sz by_ z)(j:Sl sz enc ok w0 v ys)(f:0<=i)(d:ys[i.toNat]? = some el) :
 (execOp (ev n s) ⟨dd,.indexAddr t x y,ty,pos,af,g⟩).run P w = .ok (.value (Nw sz v i.toNat)) w:=by
 have q:=(zt.1 d).1
 obtain⟨a,c,rfl,_,_,h⟩:=j
 obtain⟨b,o,vs,rfl,_,p,_,m⟩:=h i.toNat el d
 exact JC k l ht hi ⟨f,o_⟩ rfl
theorem ads{α:Type}{enc:World->α->List Value->Prop}{ys:List α}{low high:Option Operand}{l h:Nat}(d:ev n s x=v)(ht:P.underlying t=some (.slice e))(hi:TI P e sz by_ z)(r:Sl sz enc ok w0 v ys)(f:match low with|none=>l=0|some p=>∃ k,ev n s p = .int k (l:Int))(b:match high with|none=>h=ys.length|some p=>∃ k,ev n s p = .int k (h:Int))(y:l<=h)(D:h<=ys.length) :
 (execOp (ev n s) ⟨dd,.slice t x low high none,ty,pos,af,g⟩).run P w = .ok (.value (Go.Sx.mq sz v l h)) w:=by
 obtain⟨a,c,rfl,A,B,C⟩:=r
 have b1:∀ (m:Nat) (j:BoundsCode) (k:IntKind) (q:Nat),q<=m->(Instr.sliceBound (.int k (q:Int)) m j).run P w = .ok q w:=by
  intro m j k q i
  have:(0:Int)<=(q:Int)/\(q:Int)<=(m:Int):=by omega
  simp[Instr.sliceBound,asIntOf,this]
 have o:h<=c:=by omega
 have u:l<=ys.length:=by omega
 cases low with
 | none =>
  simp only at f
  subst f
  cases high with
  | none =>
   simp only at b
   subst b
   simp[execOp,d,Instr.sliceAt,Instr.slice,run_underlying ht,Instr.sliceBounds,hi.size,Go.Sx.mq]
  | some p =>
   obtain⟨k,hp⟩:=b
   simp[execOp,d,hp,Instr.sliceAt,Instr.slice,run_underlying ht,Instr.sliceBounds,hi.size,b1 _ _ _ _ o,Go.Sx.mq]
 | some q =>
  obtain⟨k,i⟩:=f
  cases high with
  | none =>
   simp only at b
   subst b
   simp[execOp,d,i,Instr.sliceAt,Instr.slice,run_underlying ht,Instr.sliceBounds,hi.size,b1 _ _ _ _ u,Go.Sx.mq]
  | some p =>
   obtain⟨k', hp⟩:=b
   simp[execOp,d,i,hp,Instr.sliceAt,Instr.slice,run_underlying ht,Instr.sliceBounds,hi.size,b1 _ _ _ _ o,b1 _ _ _ _ y,Go.Sx.mq]
end
section
variable {w w' w0:World} {bs:List (World×List Nat)} {L:List fT} {b:Nat} {T:TypeId} {cs cs' : List Value}
theorem St.XW(w:World)(h:(blk b T cs).holds w):St [(w,[b])] [blk b T cs] w:=by
 have:=St.O4 w [blk b T cs] (fun R a=>by simp only[k7]at a;subst a;exact h) (by simp[iZ,blk])
  (fun c d=>by
   simp only[iZ,kR,List.flatMap_nil,rJ,blk,k7]at d
   subst d
   exact(rG.1 (show w.heap[c]? = _ from h)).1)
 simpa[iZ,blk]using this
theorem Sl.old{α:Type}{sz:Nat}{enc:World->α->List Value->Prop}{xs:List α}(h:Sl sz enc ok w v xs)(hp:0<sz):Sl sz enc (fun b=>ok b/\b<w.heap.size) w v xs:=by
 obtain⟨a,c,e,g,j,k⟩:=h
 refine⟨a,c,e,g,j,fun i x hi=>?_⟩
 obtain⟨b,o,vs,l,hb,f,m,d⟩:=k i x hi
 refine⟨b,o,vs,l,⟨hb,?_⟩,f,m,d⟩
 cases vs with
 | nil=>simp at f;omega
 | cons u vs=>exact World.block_lt_of_cell? w _ (d 0 u rfl)
theorem St.size(h:St bs L w)(hb:(w0,X)∈bs):w0.heap.size<=w.heap.size:=(h.gA hb).size
end
section
variable {P:Program} {n:Nat} {s:List (Nat×Value)} {w:World} {fn:Func} {bs:List (World×List Nat)} {L:List fT} {x y z:ResultVar} {v v' v'' : Value} {t:TypeId} {u:TypeDesc}
def RV(P:Program)(n:Nat)(s:List (Nat×Value))(w:World)(v:Value):ResultVar->Prop
 | .tmp t=>ev n s (.tmp t)=v
 | .cell a T=>∃ ad,ev n s (.tmp a) = .pointer (some ad)/\(loadVar T ad).run P w = .ok v w
def Gl(tmps:Array Value):ResultVar->Sem Value
 | .tmp t=>pure (tmps.getD t undef)
 | .cell a t=>do loadVar t (<- asAddr (tmps.getD a undef))
theorem KT(h:RV P n s w v x):(Gl (Fr n s []).tmps x).run P w = .ok v w:=by
 cases x with
 | tmp t=>simp only[Gl,jU];rw[qB];rw[show ev n s (.tmp t)=v from h]
 | cell a T =>
  obtain⟨ad,b,c⟩:=h
  simp only[Gl,zx]
  rw[qB,b]
  simp[asAddr,c]
theorem Rq(tmps:Array Value):results fn tmps=(do let vs <- fn.results.mapM (Gl tmps);pure (if h:vs.size=1 then vs[0]else .tuple vs)):=by
 unfold results
 congr 2
theorem KD(b:fn.results = #[x,y])(h1:RV P n s w v x)(a:RV P n s w v' y):(results fn (Fr n s []).tmps).run P w = .ok (.tuple #[v,v']) w:=by
 rw[Rq,b]
 simp[zx,Result.andThen,KT h1,KT a]
theorem o7(b:fn.results = #[x,y])(h1:RV P n s w v x)(a:RV P n s w v' y)(h:R (.tuple #[v,v']) w) :
 bodyPost P fn (fun e w' => ∃ v,e = .returned v/\R v w') .ret (Fr n s []) w:=⟨rfl,_,KD b h1 a,_,rfl,h⟩
theorem pN{t:Nat}(h:ev n s (.tmp t)=v):RV P n s w v (.tmp t):=h
theorem Bq{a:Nat}{T:TypeId}(e:ev n s (.tmp a) = .pointer (some ⟨b,o,none⟩))(d:P.underlying T=some u)(c:kC u=false)(hv:w.cell? ⟨b,o,none⟩=some v):RV P n s w v (.cell a T) :=
 ⟨_,e,by simp only[loadVar,zx,wX d,c,zp];simp[load,Sem.run,hv]⟩
theorem nX{a sz:Nat}{T:TypeId}{z:Value}(g:ev n s (.tmp a) = .pointer (some ⟨b,o,none⟩))(f:P.underlying T=some u)(e:kC u=true)(ht:TI P T sz dl z)(d:cs.length=sz)(hv:∀ j u,cs[j]? = some u->w.cell? ⟨b,o+j,none⟩=some u):RV P n s w (.agg cs.toArray) (.cell a T):=by
 subst d
 have:=run_loadCells_list (P:=P) w ⟨b,o,none⟩ cs (fun j u c=>by rw[Addr.add_lit];exact hv j u c)
 exact⟨_,g,by simp only[loadVar,zx,wX f,e,zp,ht.size,this,if_true,jU]⟩
end
section
variable {P:Program} {n:Nat} {s:List (Nat×Value)} {w:World} {v:Value} {T:TypeId} {sz by_:Nat} {z:Value} {bs:List (World×List Nat)} {L:List fT}
theorem cells_one(h:v.oneCell' = true):v.cells.toList=[v]:=by cases v<;>first|rfl|(simp[Value.oneCell']at h)
theorem Sl.Qu{α:Type}{sz:Nat}{enc:World->α->List Value->Prop}{xs:List α}(h:Sl sz enc ok w v xs):v.oneCell' = true:=by
 obtain⟨a,c,rfl,_⟩:=h
 rfl
theorem aa4{e:TypeId}{m:Nat}{xs:List Value}(h:w.ownsRow 0 e sz v m xs):v.oneCell' = true:=by
 rcases h.2 with ⟨rfl,_⟩|⟨g,a,cur,rfl,_⟩<;>rfl
theorem St.acF{e:TypeId}{m:Nat}{xs:List Value}(h:St bs L w)(hi:L[i]? = some (row v e sz m xs)):v.oneCell' = true:=aa4 (h.own _ (ze hi))
theorem jV:([]:List Value).all (·.oneCell')=true:=rfl
theorem gX{l:List Value}(h:v.oneCell' = true)(k:l.all (·.oneCell')=true):(v :: l).all (·.oneCell')=true:=by simp only[List.all_cons,h,k,Bool.and_self]
theorem St.at{R:fT}(h:St bs L w)(hi:L[i]? = some R):R.holds w:=h.own _ (ze hi)
def AU(pl:List (Nat×Nat)):List Value->List (Nat×List Value)->Option (List Value)
 | cs,[]=>some cs
 | cs,(i,vs) :: rest=>match pl[i]? with
  | none=>none
  | some (off,sz)=>bif Nat.beq vs.length sz&&Nat.ble (off+vs.length) cs.length then AU pl (setAt cs off vs) rest else none
def D9:List (Nat×Value)->List (Nat×List Value)->Prop
 | [],[]=>True
 | (i,v) :: l,(j,vs) :: m=>i=j/\v.cells.toList=vs/\D9 l m
 | _,_=>False
theorem OJ(pl:List (Nat×Nat)):∀ (ps:List (Nat×Value)) (b:List (Nat×List Value)) (cs out:List Value),D9 ps b->AU pl cs b=some out->Instr.fill (pl.toArray[·]?) cs.toArray ps=some out.toArray:=by
 intro ps
 induction ps with
 | nil =>
  intro b cs out h a
  cases b with
  | nil=>simp only[AU,Option.some.injEq]at a;subst a;rfl
  | cons q b=>cases h
 | cons p ps f =>
  intro b cs out h a
  cases b with
  | nil=>cases h
  | cons q b =>
   obtain⟨i,v⟩:=p
   obtain⟨j,vs⟩:=q
   obtain⟨rfl,hv,h⟩:=h
   simp only[AU]at a
   simp only[Instr.fill,BH]
   cases hp:pl[i]? with
   | none=>rw[hp]at a;cases a
   | some p =>
    obtain⟨off,sz⟩:=p
    rw[hp]at a
    simp only at a
    cases hb:(Nat.beq vs.length sz&&Nat.ble (off+vs.length) cs.length)with
    | false=>rw[hb]at a;cases a
    | true =>
     rw[hb]at a
     simp only[cond_true]at a
     rw[nq]at hb
     have g:vs.length=sz:=BI hb.1
     have k:=qv hb.2
     have hs:v.cells.size=vs.length:=by rw[<-hv];simp
     simp only[hs]
     rw[if_neg (by simp;omega)]
     have d:=OQ off v.cells.toList 0 cs.toArray (by simp[hs];omega)
     have e:Array.foldl (fun cs (q:Value×Nat)=>cs.setIfInBounds (off+q.2) q.1) cs.toArray v.cells.zipIdx=(setAt cs off vs).toArray:=by
      rw[<-Array.foldl_toList,Array.toList_zipIdx]
      simp only[tM,uI,hs,hv]at d ⊢
      rw[d]
      simp[setAt]
     rw[show (Array.foldl (fun cs (x:Value×Nat)=>match x with|(c,j)=>cs.setIfInBounds (off+j) c) cs.toArray v.cells.zipIdx)=_ from e]
     simpa only[BH]using f b _ out h a
def j3(P:Program)(T:TypeId)(pl:List (Nat×Nat)):Prop :=
 ∃ fields,P.underlying T=some (.struct fields)/\∀ w,(fields.mapM (fun f=>do pure (f.offset,<-sizeOf f.type):Field->Sem (Nat×Nat))).run P w = .ok pl.toArray w
theorem jj{pl:List (Nat×Nat)}{ps:List (Nat×Value)}(a:List (Nat×List Value))(ht:TI P T sz by_ z)(hp:j3 P T pl)(d:z.cells.toList=cs)(hc:D9 ps a)(b:AU pl cs a=some vs)(w:World) :
 (Instr.build T ps.toArray).run P w = .ok (.agg vs.toArray) w:=by
 obtain⟨fields,c,hm⟩:=hp
 have:=OJ pl ps a cs vs hc b
 subst d
 simp only[Array.toArray_toList]at this
 simp only[Instr.build,zx,ht.BZ,zp,run_underlying c,hm,this,jU]
theorem tY{e:TypeId}{len a f:Nat}{r:Value}{ps:List (Nat×Value)}(c:List (Nat×List Value))(ht:TI P T sz by_ z)(n:P.underlying T=some (.array len e))(j:TI P e a f r)(o:z.cells.toList=cs)(hc:D9 ps c)(k:AU ((List.range len).map fun i=>(i*a,a)) cs c=some vs)(m:∀ p∈ps,p.1<len)(w:World) :
 (Instr.build T ps.toArray).run P w = .ok (.agg vs.toArray) w:=by
 have d:=OJ _ ps c cs vs hc k
 have g:∀ (l:List (Nat×Value)) (b:Array Value),(∀ p∈l,p.1<len)->Instr.fill (fun i=>some (i*a,a)) b l=Instr.fill ((((List.range len).map fun i=>(i*a,a)).toArray)[·]?) b l:=by
  intro l
  induction l with
  | nil=>intro b _;rfl
  | cons p l q =>
   intro b h
   obtain⟨i,v⟩:=p
   have hi:=h (i,v) s_
   simp only at hi
   simp only[Instr.fill,BH,oK,rF hi,Ac]
   split
   . rfl
   . simpa only[BH,oK]using q _ (fun p hp=>h p (by simp[hp]))
 subst o
 simp only[Array.toArray_toList]at d
 simp only[Instr.build,zx,ht.BZ,zp,run_underlying n,j.size,g _ _ m,d,jU]
end
section
variable {w w' w0:World} {bs:List (World×List Nat)} {L:List fT} {R R' : fT}
structure Own (R:fT) (w:World):Prop where
 holds:R.holds w
 nodup:R.gJ.Nodup
 lt:∀ b∈R.gJ,b<w.heap.size
structure fV (R:fT) (w w' : World) (R' : fT):Prop where
 holds:R'.holds w'
 gA:gx R.gJ w w'
 place:∀ b∈R'.gJ,b∈R.gJ\/w.heap.size<=b
 nodup:R'.gJ.Nodup
 lt:∀ b∈R'.gJ,b<w'.heap.size
theorem GA{α β:Type}{f:α->List β}:∀ {l:List α} {x:α},(l.flatMap f).Nodup->x∈l->(f x).Nodup:=by
 intro l
 induction l with
 | nil=>intro x _ h;simp at h
 | cons y l b =>
  intro x h a
  rw[kR]at h
  rcases zg.1 a with rfl|a
  . exact(zr.1 h).1
  . exact b (zr.1 h).2.1 a
theorem St.QC(h:St bs L w)(hi:L[i]? = some R):Own R w :=
 ⟨h.own R (ze hi),GA h.sep (ze hi),fun b hb=>h.lt b (su hi hb)⟩
theorem St.LN{LL:List fT}(i:Nat)(h:St bs L w)(hi:L[i]? = some R)(ht:fV R w w' R')(a:L.set i R' = LL):St bs LL w' := by
 subst a
 exact h.iP hi ht.gA ht.place ht.nodup ht.lt ht.holds
theorem St.Jx(h:Own R w):St [(w,R.gJ)] [R] w:=by
 have:=St.O4 w [R] (fun Q a=>by simp only[k7]at a;subst a;exact h.holds) (by simpa[iZ]using h.nodup) (fun b hb=>h.lt b (by simpa[iZ]using hb))
 simpa[iZ]using this
theorem St.Ff(h:St bs (R' :: L) w')(hb:(w,R.gJ)∈bs):fV R w w' R' := by
 have c:=h.base _ hb
 refine⟨h.own R' s_,c.gA,fun b a => c.mine b (by rw[nw];simp[a]),GA (x:=R') h.sep s_,fun b a => h.lt b (by rw[nw];simp[a])⟩
theorem fV.refl(h:Own R w):fV R w w R:=⟨h.holds,gx.refl _ _,fun b hb=>.inl hb,h.nodup,h.lt⟩
theorem fV.own(h:fV R w w' R'):Own R' w' := ⟨h.holds,h.nodup,h.lt⟩
theorem Ct{T:TypeId}(h:(blk b T cs).holds w)(hv:cs[o]? = some v):w.cell? ⟨b,o,none⟩=some v:=by
 have a:(blk b T cs).holds w:=h
 have:=(St.XW w a).tq (i:=0) (o:=o) rfl hv
 exact this
end
section
variable {P:Program} {n:Nat} {s:List (Nat×Value)} {w:World} {fn:Func} {RR:Ending->World->Prop} {v v' v'' : Value} {x y z:ResultVar}
theorem acd(a:fn.results = #[x])(h1:RV P n s w v x):(results fn (Fr n s []).tmps).run P w = .ok v w:=by
 rw[Rq,a]
 simp[zx,Result.andThen,KT h1]
theorem KF(a:fn.results = #[x])(h1:RV P n s w v x)(h:R v w) :
 bodyPost P fn (fun e w' => ∃ v,e = .returned v/\R v w') .ret (Fr n s []) w:=⟨rfl,_,acd a h1,_,rfl,h⟩
end
theorem St.perm{L':List fT}{w:World}(h:St bs L w)(hp:L.Perm L'):St bs L' w:=by
 have a:(iZ L).Perm (iZ L'):=hp.flatMap_right _
 exact⟨fun p c => ⟨(h.base p c).gA,fun b hb=>(h.base p c).mine b (a.mem_iff.2 hb)⟩,fun X d=>h.own X (hp.mem_iff.2 d),a.nodup_iff.1 h.sep,fun b hb=>h.lt b (a.mem_iff.2 hb)⟩
theorem St.swap{R:fT}(h:St bs (R :: R' :: L) w):St bs (R' :: R :: L) w:=h.perm (List.Perm.swap _ _ _)
def iw(l:Nat)(r:Loop):fT where
 gJ:=[l]
 holds w:=w.heap[l]? = some (.loop r)
 loc w w' h hh:=(h l s_).trans hh
def j6(d:Nat)(o:Option (List Deferred)):fT where
 gJ:=[d]
 holds w:=w.heap[d]? = some (.deferred o)
 loc w w' h hh:=(h d s_).trans hh
theorem gx.putObj(w:World)(r:Nat)(o:Obj):gx [r] w (w.putObj r o) :=
 ⟨rfl,rfl,rfl,s_,fun b _ hb=>World.putObj_heap_other (by simpa using hb)⟩
section
variable {w w' : World} {bs:List (World×List Nat)} {L LL:List fT} {i l d:Nat} {rc:Loop}
theorem St.yH(h:St bs L w)(hi:L[i]? = some (iw l rc)):w.heap[l]? = some (.loop rc):=h.own _ (ze hi)
theorem St.Dc(h:St bs L w)(hi:L[i]? = some (iw l rc))(c:Loop):St bs (L.set i (iw l c)) (w.putObj l (.loop c)):=by
 have a:l<w.heap.size:=h.lt l (su hi (by simp[iw]))
 exact h.iP hi (gx.putObj w l _) (fun b hb=>.inl hb) (by simp[iw]) (fun b hb=>by simp[iw]at hb;subst hb;simpa using a) (World.putObj_heap_same a)
theorem St.abM{o:Option (List Deferred)}(h:St bs L w)(hi:L[i]? = some (j6 d o))(o':Option (List Deferred)):St bs (L.set i (j6 d o')) (w.putObj d (.deferred o')):=by
 have a:d<w.heap.size:=h.lt d (su hi (by simp[j6]))
 exact h.iP hi (gx.putObj w d _) (fun b hb=>.inl hb) (by simp[j6]) (fun b hb=>by simp[j6]at hb;subst hb;simpa using a) (World.putObj_heap_same a)
end
def gh(L:List fT):fT where
 gJ:=iZ L
 holds w:=∀ R∈L,R.holds w
 loc w w' h hh R hR:=R.loc w w' (fun b hb=>h b (pS.2 ⟨R,hR,hb⟩)) (hh R hR)
section
variable {w w0:World} {bs:List (World×List Nat)} {A B:List fT} {R:fT}
theorem Xa(A B:List fT):iZ (A++B)=iZ A++iZ B:=by simp[iZ]
theorem AT(A B:List fT):iZ (gh A :: B)=iZ (A++B):=by rw[nw,Xa];rfl
theorem St.pack(A B:List fT)(h:St bs (A++B) w):St bs (gh A :: B) w :=
 ⟨fun p hp=>⟨(h.base p hp).gA,fun b hb=>(h.base p hp).mine b (by rw[<-AT];exact hb)⟩,fun Q a=>by
  rcases zg.1 a with rfl|a
  . exact fun R c=>h.own R (sN _ c)
  . exact h.own Q (vG _ a),by rw[AT];exact h.sep,fun b hb=>h.lt b (by rw[<-AT];exact hb)⟩
theorem St.unpack(h:St bs (gh A :: B) w):St bs (A++B) w :=
 ⟨fun p hp=>⟨(h.base p hp).gA,fun b hb=>(h.base p hp).mine b (by rw[AT];exact hb)⟩,fun Q a=>by
  rcases zn.1 a with a|a
  . exact h.own (gh A) s_ Q a
  . exact h.own Q (by simp[a]),by rw[<-AT];exact h.sep,fun b hb=>h.lt b (by rw[AT];exact hb)⟩
theorem St.Qo(h:St bs (R :: B) w)(hb:b∈iZ B):b∉R.gJ:=fun a=>by
 have:=h.sep
 rw[nw]at this
 exact(zr.1 this).2.2 b a b hb rfl
end
def YR(P:Program)(l:Nat)(vl:List Value)(w:World)(R:Value->World->Prop):Prop :=
 ∃ f tmps a b,(Instr.yield l vl.toArray).run P w = .ok (.round l f tmps a b) w/\RoundIn (FW none) 0 P l f tmps a b w (fun e w' => ∃ v,e = .returned v/\R v w')
section
variable {P:Program} {ops:Array Oper} {Q:Exit->Act->World->Prop} {rest:List Oper} {n:Nat} {s:List (Nat×Value)} {ds:List Deferred} {w:World}
variable {d:Option Nat} {ty:TypeId} {pos:String} {af:Array Edge} {g:Option (Nat×Bool)} {x:Operand} {l:Nat}
theorem yl{a:List Operand}{T:Array TypeId}(m:gI ops n s g=true)(p:ev n s x = .func (.yield l) #[] #[])(hvs:a.map (ev n s)=vl)(q:YR P l vl w R)(K:∀ v w', R v w' -> WL none P ops Q rest (Fr n (yP d v s) ds) w'):WL none P ops Q (⟨d,.call ⟨.value x,a.toArray,T⟩,ty,pos,af,g⟩ :: rest) (Fr n s ds) w:=by
 obtain⟨f,tmps,b,c,i,j⟩:=q
 refine TB m ?_
 have o:(Oper.semAt none (Fr n s ds).eval (⟨d,.call ⟨.value x,a.toArray,T⟩,ty,pos,af,g⟩:Oper)).run P w = .ok (.round l f tmps b c) w:=by
  rw[Oper.semAt_none,sV]
  simp only[execOp,resolve,Deferred.ofValue,p,FJ, hvs,zx,jU,zp,invoke]
  simpa using i
 rw[o]
 refine⟨fun h=>by simp[FW]at h,RoundIn.mono j ?_⟩
 rintro e w' ⟨v,rfl,k⟩
 have:=(K v w' k).out
 rw[<-B2]at this
 exact this
def yQ:List Nat->List Value->List (Nat×Value)->List (Nat×Value)
 | p :: ps,v :: vs,s=>yQ ps vs ((p,v) :: s)
 | _,_,s=>s
theorem TS(p:Nat)(v:Value):(Fr n s ds).tmps.setIfInBounds p v=(Fr n ((p,v) :: s) ds).tmps:=congrArg Act.tmps (uN n s ds p v)
theorem abU:∀ (ps:List Nat) (vs:List Value) (s:List (Nat×Value)),((ps.zip vs).foldl (fun(t:Array Value) (q:Nat×Value)=>t.setIfInBounds q.1 q.2) (Fr n s ds).tmps)=(Fr n (yQ ps vs s) ds).tmps:=by
 intro ps
 induction ps with
 | nil=>intro vs s;simp[yQ]
 | cons p ps a =>
  intro vs s
  cases vs with
  | nil=>simp[yQ]
  | cons v vs =>
   simp only[List.zip_cons_cons,List.foldl_cons,yQ]
   rw[TS]
   exact a vs _
theorem abT(ps:List Nat)(vs:List Value)(s:List (Nat×Value)):((ps.toArray.zip vs.toArray).foldl (fun(t:Array Value) (q:Nat×Value)=>t.setIfInBounds q.1 q.2) (Fr n s ds).tmps)=(Fr n (yQ ps vs s) ds).tmps:=by
 rw[<-abU,List.zip_toArray,List.foldl_toArray]
variable {bs:List (World×List Nat)} {L LL:List fT} {i:Nat} {rc:Loop}
theorem yU{ps:List Nat}{s':List (Nat×Value)}{fn dd:Nat}{b c:Code}(i:Nat)(g:rc=⟨.ready,none,fn,(Fr n s ds).tmps,ps.toArray,b,c,dd⟩)(j:St bs L w)(hi:L[i]? = some (iw l rc))(f:vl.length=ps.length)(hs:yQ ps vl s=s')(h:WP (some l) P b (Exit.then (fun a k=>∃ d,(Instr.beginRound l).run P k = .ok () d/\WP (some l) P c (roundPost P l (fun e w' => ∃ v,e = .returned v/\R v w')) a d) (fun _ _ _=>False)) (Fr n s' []) w):YR P l vl w R:=by
 subst hs g
 refine⟨_,_,_,_,run_yield (j.yH hi) (by simpa using f),roundIn_of_wpIn trivial ?_⟩
 have e:=abT (n:=n) (ds:=ds) ps vl s
 show b.wpIn (FW (some l)) 0 P _ { tmps:=((ps.toArray.zip vl.toArray).foldl (fun(t:Array Value) (q:Nat×Value)=>t.setIfInBounds q.1 q.2) (Fr n s ds).tmps),defers:=[] } w
 rw[e]
 exact h
theorem AH{B:World->Prop}(i:Nat)(b:St bs L w)(hi:L[i]? = some (iw l rc))(d:rc.state = .ready)(c:L.set i (iw l { rc with state:=.busy })=LL)(K:∀ a,St bs LL a->B a):∃ a,(Instr.beginRound l).run P w = .ok () a/\B a :=
 ⟨_,run_beginRound (b.yH hi) d,K _ (by subst c;exact b.Dc hi _)⟩
theorem u9{R:Ending->World->Prop}{a:Act}(i:Nat)(k:St bs L w)(hi:L[i]? = some (iw l { rc with state:=.busy }))(j:rc.state = .ready)(hp:rc.pending=none)(m:L.set i (iw l rc)=LL)(K:∀ w', St bs LL w' -> R (.returned (.bool true)) w'):roundPost P l R .normal a w:=by
 refine⟨_,_,run_endRound none (k.yH hi),K _ ?_⟩
 subst m
 have:=k.Dc hi rc
 obtain⟨a,b,c,d,e,f,g,h⟩:=rc
 simp only at j hp
 subst j hp
 exact this
theorem rf{f:FuncId}{fi ca:List Value}{ps:List Nat}{a c:Code}{α:Type}(d:α->List fT)(C:α->Prop)(u:St bs L w)(y:ev n s x = .func (.func f) fi.toArray ca.toArray)(q:xA P f)(h1:∀ fn dd l j rc,rc=(⟨.ready,none,fn,(Fr n s ds).tmps,ps.toArray,a,c,dd⟩:Loop)->St bs (iw l rc :: j6 dd (some []) :: L) j ->
  CR P f (fi++[Value.func (.yield l) #[] #[]]++ca).toArray j (fun _ k=>∃ z,C z/\St bs (iw l rc :: j6 dd (some []) :: d z) k))(o:∀ z dd m,C z->St bs (j6 dd (some []) :: d z) m->Q .normal (Fr n s (⟨.collected dd,#[]⟩ :: ds)) m):WP none P (.rangeFunc x ps.toArray a c) Q (Fr n s ds) w:=by
 refine wpIn_rangeFunc fun fn _=>?_
 have r:St bs (j6 w.heap.size (some []) :: L) (w.alloc (.deferred (some []))) :=
  u.rU (gx.alloc [] w _) (fun b hb=>by simp[j6]at hb;omega) (by simp[j6]) (fun b hb=>by simp[j6]at hb;simp;omega) (World.alloc_heap_new w _)
 have t:St bs (iw (w.heap.size+1) ⟨.ready,none,fn,(Fr n s ds).tmps,ps.toArray,a,c,w.heap.size⟩ :: j6 w.heap.size (some []) :: L) ((w.alloc (.deferred (some []))).alloc (.loop ⟨.ready,none,fn,(Fr n s ds).tmps,ps.toArray,a,c,w.heap.size⟩)) :=
  r.rU (gx.alloc [] _ _) (fun b hb=>by simp[iw]at hb;simp;omega) (by simp[iw]) (fun b hb=>by simp[iw]at hb;simp;omega) (by have:=World.alloc_heap_new (w.alloc (.deferred (some []))) (.loop ⟨.ready,none,fn,(Fr n s ds).tmps,ps.toArray,a,c,w.heap.size⟩);simpa[iw]using this)
 refine⟨w.heap.size+1,_,_,⟨.fn (.func f) ca.toArray,(fi++[Value.func (.yield (w.heap.size+1)) #[] #[]]).toArray⟩,((w.alloc (.deferred (some []))).alloc (.loop ⟨.ready,none,fn,(Fr n s ds).tmps,ps.toArray,a,c,w.heap.size⟩)),f,(fi++[Value.func (.yield (w.heap.size+1)) #[] #[]]++ca).toArray,((w.alloc (.deferred (some []))).alloc (.loop ⟨.ready,none,fn,(Fr n s ds).tmps,ps.toArray,a,c,w.heap.size⟩)),run_enterLoop_outer fn _ _ _ _,?_,fun _ _=>trivial,?_,fun h=>by simp[FW]at h,?_⟩
 . rw[sV]
   simp only[resolve,rangeCall,Deferred.ofValue,y]
   simp[ev]
 . have:=q ((fi++[Value.func (.yield (w.heap.size+1)) #[] #[]]++ca).toArray) ((w.alloc (.deferred (some []))).alloc (.loop ⟨.ready,none,fn,(Fr n s ds).tmps,ps.toArray,a,c,w.heap.size⟩))
   simp only[invoke]
   simpa using this
 . refine Cu.2 (Calls.mono (h1 fn w.heap.size (w.heap.size+1) _ _ rfl t) ?_)
   rintro e k ⟨v,rfl,z,p,g⟩
   refine⟨none,_,run_endLoop (g.yH (i:=0) rfl) s_,?_⟩
   refine o z w.heap.size _ p ?_
   exact(g.Dc (i:=0) rfl _).sub (List.sublist_cons_self _ _)
end
section
variable {P:Program} {n:Nat} {s:List (Nat×Value)} {w:World} {fn:Func} {f:FuncId} {c:Code} {vs:List Value} {RR:Ending->World->Prop} {bs:List (World×List Nat)} {L LL:List fT} {d:Nat} {tmps:Array Value}
theorem AR(a:P.funcs[f]? = some fn)(hb:fn.body=some c)(b:fn.ntmps=n)(hs:Nat.ble vs.length n=true)(h:WP none P c (bodyPostM (FW none) 0 P fn RR) (Fr n (v7 vs 0) []) w):Calls P f vs.toArray w RR:=by
 refine Cu.1 (callsIn_of_wp_marks (F:=FW none) (n:=0) a hb trivial ?_)
 rw[b,Ml vs n (qv hs)]
 exact h
theorem yC(i:Nat)(a:St bs L w)(hi:L[i]? = some (j6 d (some [])))(b:L.set i (j6 d none)=LL)(K:∀ w', St bs LL w' -> ∃ v,(results fn tmps).run P w' = .ok v w' /\ RR (.returned v) w') :
 LeavesInM (FW none) 0 P fn tmps RR [⟨.collected d,#[]⟩] .returning w :=
 ⟨s_,.inl ⟨d,_,rfl,run_takeDeferred (a.own _ (ze hi)),K _ (by subst b;exact a.abM hi none)⟩⟩
end
section
variable {P:Program} {w:World} {t e:TypeId} {k:IntKind} {by_:Nat} {z:Value}
theorem Bp(d:Nat)(c:P.underlying e=some (.int k))(a b:Int):(Op.equalIn (d+1) e (.int k a) (.int k b)).run P w = .ok (a==b) w:=by
 simp[Op.equalIn,run_underlying c]
theorem KS(d:Nat)(c:P.underlying t=some .bool)(a b:Bool):(Op.equalIn (d+1) t (.bool a) (.bool b)).run P w = .ok (a==b) w:=by
 simp[Op.equalIn,run_underlying c]
theorem tH(a:P.underlying e=some (.int k))(xs:Array Value)(i:Nat)(v:Value)(h:xs[i]? = some v):(part e xs i).run P w = .ok v w:=by
 simp[part,wX a,kC,h]
theorem acW(ht:P.underlying t=some (.array 4 e))(h:P.underlying e=some (.int k))(hi:TI P e 1 by_ z)(a0 a1 a2 a3 b0 b1 b2 b3:Int) :
 (Op.equal t (.agg #[.int k a0,.int k a1,.int k a2,.int k a3]) (.agg #[.int k b0,.int k b1,.int k b2,.int k b3])).run P w = .ok (decide ([a0,a1,a2,a3]=[b0,b1,b2,b3])) w:=by
 have p:∀ (c d f g:Value),(part e #[c,d,f,g] 0).run P w = .ok c w/\(part e #[c,d,f,g] 1).run P w = .ok d w/\(part e #[c,d,f,g] 2).run P w = .ok f w/\(part e #[c,d,f,g] 3).run P w = .ok g w:=fun c d f g =>
  ⟨tH h _ _ _ rfl,tH h _ _ _ rfl,tH h _ _ _ rfl,tH h _ _ _ rfl⟩
 have q:=fun a b=>Bp (P:=P) (w:=w) 9998 h a b
 simp only[Nat.reduceAdd]at q
 show (Op.equalIn 10000 t _ _).run P w=_
 unfold Op.equalIn
 simp only[zx,run_underlying ht,zp,hi.size,Std.Legacy.Range.forIn_eq_forIn_range', Std.Legacy.Range.size]
 simp only[show List.range' 0 ((4-0+1-1) / 1) 1=[0,1,2,3] from rfl,List.forIn_cons,List.forIn_nil,zx,qO,(p _ _ _ _).1,(p _ _ _ _).2.1,(p _ _ _ _).2.2.1,(p _ _ _ _).2.2.2,zp,q]
 by_cases h0:a0=b0
 . by_cases h1:a1=b1
   . by_cases h2:a2=b2
     . by_cases h3:a3=b3
       . simp[h0,h1,h2,h3,p,q,Result.andThen]
       . simp[h0,h1,h2,h3,p,q,Result.andThen]
     . simp[h0,h1,h2,p,q,Result.andThen]
   . simp[h0,h1,p,q,Result.andThen]
 . simp[h0,p,q,Result.andThen]
end
section
variable {r:Option Nat} {P:Program} {ops:Array Oper} {Q:Exit->Act->World->Prop} {rest:List Oper} {n:Nat} {s:List (Nat×Value)} {ds:List Deferred} {w:World}
variable {d:Nat} {dd:Option Nat} {ty t t' e:TypeId} {pos:String} {af:Array Edge} {g:Option (Nat×Bool)} {x y:Operand} {k:IntKind} {by_:Nat} {z:Value} {a0 a1 a2 a3 b0 b1 b2 b3:Int} {c:Bool}
theorem run_eqGuard_agg(a:BinOp)(b:P.eqGuardType P.depth t=false)(xs ys:Array Value):(eqGuard a t x y (.agg xs) (.agg ys)).run P w = .ok () w:=by
 unfold eqGuard
 cases a<;>simp[b,program,Sem.run]
theorem aaD(d:ev n s x = .agg #[.int k a0,.int k a1,.int k a2,.int k a3])(f:ev n s y = .agg #[.int k b0,.int k b1,.int k b2,.int k b3])(ht:P.underlying t=some (.array 4 e))(a:P.underlying e=some (.int k))(hi:TI P e 1 by_ z)(b:P.eqGuardType P.depth t=false)(hc:(!decide ([a0,a1,a2,a3]=[b0,b1,b2,b3]))=c) :
 (execOp (ev n s) ⟨dd,.binOp .neq t x y t', ty,pos,af,g⟩).run P w = .ok (.value (.bool c)) w:=by
 subst hc
 have h:=acW (P:=P) (w:=w) ht a hi a0 a1 a2 a3 b0 b1 b2 b3
 simp only[execOp,d,f,zx,run_eqGuard_agg .neq b,zp]
 simp only[binOp,zx,h,zp,jU]
theorem aaE{a b:Bool}(f:ev n s x = .bool a)(h:ev n s y = .bool b)(ht:P.underlying t=some .bool)(hc:(!(a==b))=c) :
 (execOp (ev n s) ⟨dd,.binOp .neq t x y t', ty,pos,af,g⟩).run P w = .ok (.value (.bool c)) w:=by
 subst hc
 have d:(Op.equal t (.bool a) (.bool b)).run P w = .ok (a==b) w:=KS 9999 ht a b
 have e:(eqGuard .neq t x y (.bool a) (.bool b)).run P w = .ok () w:=rfl
 simp only[execOp,f,h,zx,e,zp]
 simp only[binOp,zx,d,zp,jU]
theorem CZ{a b:Bool}(e:gI ops n s g=true)(f:ev n s x = .bool a)(h:ev n s y = .bool b)(ht:P.underlying t=some .bool)(hc:(!(a==b))=c)(K:WL r P ops Q rest (Fr n ((d,.bool c) :: s) ds) w) :
 WL r P ops Q (⟨some d,.binOp .neq t x y t', ty,pos,af,g⟩ :: rest) (Fr n s ds) w:=pw e (fun _=>aaE f h ht hc) K
theorem WM{a b:Bool}(f:ev n s x = .bool a)(h:ev n s y = .bool b)(ht:P.underlying t=some .bool)(hc:(a==b)=c) :
 (execOp (ev n s) ⟨dd,.binOp .eql t x y t', ty,pos,af,g⟩).run P w = .ok (.value (.bool c)) w:=by
 subst hc
 have d:(Op.equal t (.bool a) (.bool b)).run P w = .ok (a==b) w:=KS 9999 ht a b
 have e:(eqGuard .eql t x y (.bool a) (.bool b)).run P w = .ok () w:=rfl
 simp only[execOp,f,h,zx,e,zp]
 simp only[binOp,zx,d,zp,jU]
theorem AS{a b:Bool}(e:gI ops n s g=true)(f:ev n s x = .bool a)(h:ev n s y = .bool b)(ht:P.underlying t=some .bool)(hc:(a==b)=c)(K:WL r P ops Q rest (Fr n ((d,.bool c) :: s) ds) w) :
 WL r P ops Q (⟨some d,.binOp .eql t x y t', ty,pos,af,g⟩ :: rest) (Fr n s ds) w:=pw e (fun _=>WM f h ht hc) K
theorem aaC(b:gI ops n s g=true)(h:ev n s x = .agg #[.int k a0,.int k a1,.int k a2,.int k a3])(i:ev n s y = .agg #[.int k b0,.int k b1,.int k b2,.int k b3])(ht:P.underlying t=some (.array 4 e))(a:P.underlying e=some (.int k))(hi:TI P e 1 by_ z)(f:P.eqGuardType P.depth t=false)(hc:(!decide ([a0,a1,a2,a3]=[b0,b1,b2,b3]))=c)(K:WL r P ops Q rest (Fr n ((d,.bool c) :: s) ds) w) :
 WL r P ops Q (⟨some d,.binOp .neq t x y t', ty,pos,af,g⟩ :: rest) (Fr n s ds) w:=pw b (fun _=>aaD h i ht a hi f hc) K
end
section
variable {w w' : World} {bs:List (World×List Nat)} {L:List fT} {b:Nat} {T:TypeId} {cs:List Value}
theorem St.acv(h:St bs L w)(hb:(w0,[])∈bs)(c:(blk b T cs).holds w0)(hv:(cs.drop o).take vs.length=vs):∀ j u,vs[j]? = some u->w.cell? ⟨b,o+j,none⟩=some u:=by
 intro j u a
 refine h.ID hb (Ct c (o:=o+j) ?_) nr
 rw[<-hv,vJ]at a
 split at a
 . simpa using a
 . cases a
theorem St.KJ(h:St bs L w)(hb:(w0,[])∈bs)(a:(blk b T cs).holds w0){o:Nat}{u:Value}(hv:cs[o]? = some u):w.cell? ⟨b,o,none⟩=some u:=h.ID hb (Ct a hv) nr
theorem St.Ns(h:St bs L w)(hc:gx [] w w')(c:w.heap.size<=b)(hb:(blk b T cs).holds w'):St bs (blk b T cs :: L) w' :=
 h.rU hc (fun x a=>by simp[blk]at a;omega) (by simp[blk]) (fun x a=>by
  simp only[blk,k7]at a
  subst a
  exact(rG.1 (show w'.heap[x]? = _ from hb)).1) hb
end
abbrev gY{α:Type}(sz:Nat)(cf:α->List Value)(ok:Nat->Prop)(w:World)(v:Value)(xs:List α):Prop:=Sl sz (fun _ x vs=>vs=cf x) ok w v xs
def lg(sz:Nat)(v:Value)(i off:Nat):Value:=match v with
 | .slice (some ⟨b,o,_⟩) _ _=>.pointer (some ⟨b,o+i*sz+off,none⟩)
 | _=>.pointer none
theorem Ul(sz:Nat)(v:Value)(i:Nat):lg sz v i 0=Nw sz v i:=by
 cases v with
 | slice a m c=>cases a<;>rfl
 | _=>rfl
abbrev fL{α:Type}(cf:α->List Value)(v:Value)(e:TypeId)(sz:Nat)(ys:List α):fT:=row v e sz ys.length (ys.flatMap cf)
theorem oW{α:Type}{l:List α}{k:Nat}(h:k<l.length):∃ y,l[k]? = some y:=⟨l[k],z8 h⟩
section
variable {α:Type} {sz:Nat} {cf:α->List Value} {ok ok' : Nat->Prop} {w w' w0:World} {v:Value} {xs:List α} {bs:List (World×List Nat)} {L:List fT}
theorem gY.to(h:gY sz cf ok w v xs)(hp:0<sz)(hk:∀ b,ok b->b<w.heap.size->w'.heap[b]? = w.heap[b]?):gY sz cf ok w' v xs:=Sl.to h hk (fun _ _ _ h=>h) hp
theorem St.ab3(h:St bs L w)(hb:(w0,X)∈bs)(hp:0<sz)(a:gY sz cf ok w0 v xs)(e:∀ b,ok b->b∉X):gY sz cf ok w v xs:=gY.to a hp fun b c d=>h.keep hb d (e b c)
theorem St.De(h:St bs L w)(hb:(w0,[])∈bs)(hp:0<sz)(a:gY sz cf ok w0 v xs):gY sz cf ok w v xs:=h.ab3 hb hp a fun _ _=>nr
theorem gY.place{k:Nat}{c:α}(h:gY sz cf ok w v xs)(hk:xs[k]? = some c):∃ b o m d,v = .slice (some ⟨b,o,none⟩) m d/\k<m/\ok b/\(cf c).length=sz/\∀ j u,(cf c)[j]? = some u->w.cell? ⟨b,o+k*sz+j,none⟩=some u:=by
 have i:=(zt.1 hk).1
 obtain⟨a,d,rfl,l,n,e⟩:=h
 obtain⟨b,o,vs,rfl,hb,g,rfl,f⟩:=e k c hk
 exact⟨b,o,_,d,rfl,i,hb,g,f⟩
theorem vg(c:∀ x:α,(cf x).length=sz):∀ (xs:List α) (k j:Nat) (x:α) (u:Value),xs[k]? = some x->(cf x)[j]? = some u->(xs.flatMap cf)[k*sz+j]? = some u:=by
 intro xs
 induction xs with
 | nil=>intro k j x u h;simp at h
 | cons e xs d =>
  intro k j x u b a
  rw[kR]
  cases k with
  | zero =>
   grind
  | succ k =>
   grind
theorem St.yW{e:TypeId}(h:St bs L w)(hi:L[i]? = some (fL cf v e sz xs))(c:∀ x:α,(cf x).length=sz):gY sz cf (fun b=>v.ownBlock=some b) w v xs:=by
 have d:w.ownsRow 0 e sz v xs.length (xs.flatMap cf):=h.own _ (ze hi)
 rcases d.2 with ⟨rfl,o⟩|⟨a, f,cur,rfl,_,p,k,l,_⟩
 . grind [Sl.nil]
 . refine⟨_,f,rfl,k,l,fun j y m=>⟨a, 0,cf y,rfl,rfl,c y,rfl,fun q u n=>?_⟩⟩
   have:=d.cells (g:=a) rfl (j*sz+q) u (vg c xs j q y u m n)
   rw[Addr.add_lit]at this
   simpa[lJ]using this
theorem gY.src(h:gY sz cf ok w v xs)(d:∀ x:α,(cf x).length=sz):Src w v sz xs.length (xs.flatMap cf):=by
 obtain⟨a,n,rfl,p,q,e⟩:=h
 have i:(xs.flatMap cf).length=xs.length*sz:=by
  clear p q e
  induction xs with
  | nil=>simp
  | cons x xs y=>rw[kR,zo,d,y,zh,tK];omega
 refine⟨a,n,rfl,i,fun j u f=>?_⟩
 have g := (zt.1 f).1
 rw[i]at g
 have k:0<sz:=by
  grind
 have t:j / sz<xs.length:=(Mh k).2 g
 obtain⟨x,m⟩:=oW t
 obtain⟨b,o,vs,rfl,_,_,rfl,s⟩:=e _ x m
 refine⟨_,rfl,?_⟩
 have hm:j%sz<(cf x).length:=by rw[d];exact Ae _ k
 obtain⟨z, l⟩:=oW hm
 have c:=vg d xs _ _ x z m l
 rw[BU]at c
 rw[f]at c
 cases c
 have r:=s _ u l
 rw[Addr.add_lit,<-BU j sz]
 rw[BU,show o+j=o+j / sz*sz+j%sz by have:=BU j sz;omega]
 exact r
end
section
variable {α:Type} {cf:α->List Value} {ok:Nat->Prop} {ys zs:List α} {k:Nat} {c:α} {off off' : Nat}
variable {r:Option Nat} {P:Program} {ops:Array Oper} {Q:Exit->Act->World->Prop} {rest:List Oper} {n:Nat} {s:List (Nat×Value)} {ds:List Deferred} {w w0:World}
variable {d:Nat} {dd:Option Nat} {ty:TypeId} {pos:String} {af:Array Edge} {g:Option (Nat×Bool)} {v u:Value} {x y:Operand} {bs:List (World×List Nat)} {L L' : List fT} {t e T:TypeId} {sz by_ m cnt szf byf:Nat} {z zf:Value} {i:Int} {k' : IntKind} {ud:TypeDesc} {fields:Array Field} {f:Field} {j:Nat}
theorem JB(f:ev n s x=v)(h:ev n s y = .int k' i)(ht:P.underlying t=some (.slice e))(hi:TI P e sz by_ z)(b:gY sz cf ok w0 v ys)(a:0<=i)(hk:i.toNat=k)(d:ys[k]? = some c) :
 (execOp (ev n s) ⟨dd,.indexAddr t x y,ty,pos,af,g⟩).run P w = .ok (.value (lg sz v k 0)) w:=by
 grind [Ul,Ya]
theorem iY(h:gI ops n s g=true)(j:ev n s x=v)(l:ev n s y = .int k' i)(ht:P.underlying t=some (.slice e))(hi:TI P e sz by_ z)(b:gY sz cf ok w0 v ys)(a:0<=i)(hk:i.toNat=k)(f:ys[k]? = some c)(K:WL r P ops Q rest (Fr n ((d,lg sz v k 0) :: s) ds) w):WL r P ops Q (⟨some d,.indexAddr t x y,ty,pos,af,g⟩ :: rest) (Fr n s ds) w:=pw h (fun _=>JB j l ht hi b a hk f) K
theorem Oy(l:ev n s x=lg sz v k off)(d:P.underlying T=some (.struct fields))(h:fields[j]? = some f)(ht:TI P f.type (szf+1) byf zf)(i:off+f.offset=off')(a:gY sz cf ok w0 v ys)(e:ys[k]? = some c) :
 (execOp (ev n s) ⟨dd,.fieldAddr T x j,ty,pos,af,g⟩).run P w = .ok (.value (lg sz v k off')) w:=by
 obtain⟨b,o,m,p,rfl,_⟩:=a.place e
 subst i
 exact Fh l d h ht (by simp only[lJ])
theorem CN(i:ev n s x=lg sz v k off)(h:P.underlying t=some ud)(f:kC ud=false)(d:gY sz cf ok w v ys)(e:ys[k]? = some c)(hc:(cf c)[off]? = some u) :
 (execOp (ev n s) ⟨dd,.load t x,ty,pos,af,g⟩).run P w = .ok (.value u) w:=by
 obtain⟨b,o,m,j,rfl,_,_,_,a⟩:=d.place e
 exact wJ i h f (a off u hc)
theorem jk(e:gI ops n s g=true)(i:ev n s x=lg sz v k off)(h:P.underlying t=some ud)(f:kC ud=false)(a:gY sz cf ok w v ys)(b:ys[k]? = some c)(hc:(cf c)[off]? = some u)(K:WL r P ops Q rest (Fr n ((d,u) :: s) ds) w):WL r P ops Q (⟨some d,.load t x,ty,pos,af,g⟩ :: rest) (Fr n s ds) w:=pv e rfl (CN i h f a b hc) K
theorem Px{a:Nat}(l:ev n s x=lg sz v k off)(i:P.underlying t=some ud)(h:kC ud=true)(ht:TI P t a by_ z)(d:gY sz cf ok w v ys)(e:ys[k]? = some c)(f:cs.length=a)(hc:((cf c).drop off).take cs.length=cs) :
 (execOp (ev n s) ⟨dd,.load t x,ty,pos,af,g⟩).run P w = .ok (.value (.agg cs.toArray)) w:=by
 obtain⟨b,o,m,p,rfl,_,_,_,q⟩:=d.place e
 refine wG (b:=b) (o:=o+k*sz+off) l i h ht f fun j u r=>?_
 grind
theorem Sl.Si{enc:World->α->List Value->Prop}{h:Nat}(hs:Sl sz enc ok w v ys)(a:h<=ys.length):Sl sz enc ok w (Go.Sx.mq sz v 0 h) (ys.take h):=by
 have:=hs.mq (l:=0) (h:=h) o_ a
 simpa using this
theorem K8{enc:World->α->List Value->Prop}{low high:Option Operand}{l h:Nat}(b:gI ops n s g=true)(m:ev n s x=v)(ht:P.underlying t=some (.slice e))(hi:TI P e sz by_ z)(a:Sl sz enc ok w0 v ys)(j:match low with|none=>l=0|some p=>∃ k,ev n s p = .int k (l:Int))(f:match high with|none=>h=ys.length|some p=>∃ k,ev n s p = .int k (h:Int))(i:l<=h)(c:h<=ys.length)(K:WL r P ops Q rest (Fr n ((d,Go.Sx.mq sz v l h) :: s) ds) w):WL r P ops Q (⟨some d,.slice t x low high none,ty,pos,af,g⟩ :: rest) (Fr n s ds) w:=pv b rfl (ads m ht hi a j f i c) K
theorem lR{LL:Value->List fT}(i:Nat)(f:gI ops n s g=true)(k:ev n s x=v)(l:ev n s y=u)(ht:P.underlying t=some (.slice e))(hi:TI P e sz by_ z)(m:z.cells.size=sz)(j:0<sz)(h:St bs L w)(b:L[i]? = some (fL cf v e sz ys))(hs:Src w u sz zs.length (zs.flatMap cf))(h1:∀ x∈zs.flatMap cf,x.oneCell' = true)(hb:(ys.length+zs.length)*by_<=140737488355328)(o:ys.length+zs.length<=9223372036854775807)(c:∀ v', L.set i (fL cf v' e sz (ys++zs))=LL v')(K:∀ v' w', St bs (LL v') w' -> gx v.ownBlock.toList w w' -> WL r P ops Q rest (Fr n ((d,v') :: s) ds) w') :
 WL r P ops Q (⟨some d,.call ⟨.builtin .append,#[x,y],#[t,t]⟩,ty,pos,af,g⟩ :: rest) (Fr n s ds) w:=by
 refine NB i f k l ht hi m j h b hs h1 hb (by simp only[maxLen];omega) fun v' w' h1 a=>K v' w' ?_ a
 rw[<-c]
 simpa[fL]using h1
end
structure qy {α:Type} (sz:Nat) (cf:α->List Value) (w:World) (w' : World) (r:Value) (e:TypeId) (zs:List α):Prop where
 own:w'.ownsRow 0 e sz r zs.length (zs.flatMap cf)
 place:∀ b,r.ownBlock=some b->w.heap.size<=b
section
variable {α:Type} {sz:Nat} {cf:α->List Value} {w w' w0:World} {r:Value} {zs:List α} {bs:List (World×List Nat)} {L:List fT} {e:TypeId}
theorem St.WG(h:St bs (fL cf r e sz zs :: L) w)(hb:(w0,[])∈bs):qy sz cf w0 w r e zs:=by
 have c:=h.base _ hb
 refine⟨h.own (fL cf r e sz zs) s_,fun b d => ?_⟩
 rcases c.mine b (by rw[nw];simp[row,d])with a|a
 . simp at a
 . exact a
theorem St.Uf(h:St bs L w)(hc:gx [] w w')(a:qy sz cf w w' r e zs):St bs (fL cf r e sz zs :: L) w' :=
 h.rU hc (fun b hb=>a.place b (by simpa[row]using hb)) (by show r.ownBlock.toList.Nodup;cases r.ownBlock<;>simp) (fun b hb=>Kq a.own (by simpa[row]using hb)) a.own
end
section
variable {α:Type} [Inhabited α] {xs:List α} {k j:Nat} {f:α->α} {x:α}
def fJ(xs:List α)(k:Nat):α:=(xs[k]?).getD default
def fO(xs:List α)(k:Nat)(f:α->α):List α:=xs.set k (f (fJ xs k))
theorem gz(h:k<xs.length):xs[k]? = some (fJ xs k):=by
 obtain⟨y,a⟩:=oW h
 simp[fJ,a]
theorem iS(h:xs[k]? = some x):fJ xs k=x:=by simp[fJ,h]
theorem gB:(fO xs k f).length=xs.length:=by simp[fO]
theorem jS(h:k<xs.length):fJ (fO xs k f) k=f (fJ xs k):=by simp[fJ,fO,Ab,h]
theorem kD(h:k≠j):fJ (fO xs k f) j=fJ xs j:=by simp[fJ,fO,Ab,h]
theorem jG(h:k<xs.length):fJ (fO xs k f) j=if k=j then f (fJ xs k)else fJ xs j:=by
 split
 . rename_i e;subst e;exact jS h
 . rename_i e;exact kD e
end
section
variable {α:Type} {cf:α->List Value} {sz:Nat}
theorem qY(a:∀ x:α,(cf x).length=sz)(xs:List α):(xs.flatMap cf).length=xs.length*sz:=by
 induction xs with
 | nil=>simp
 | cons x xs b=>rw[kR,zo,a,b,zh,tK];omega
theorem RH{a b:List Value}:setAt (a++b) (a.length+o) vs=a++setAt b o vs:=by
 unfold setAt
 rw[List.take_append,List.drop_append]
 simp only[Nat.add_sub_cancel_left,z7]
 rw[vF o_,show a.length+o+vs.length-a.length=o+vs.length by omega,Mb o_,pg]
theorem RG{a b:List Value}(h:o+vs.length<=a.length):setAt (a++b) o vs=setAt a o vs++b:=by
 unfold setAt
 rw[L5 o_,List.drop_append_of_le_length o_]
 simp only[z7]
theorem Xk(c:∀ x:α,(cf x).length=sz):∀ (xs:List α) (k off:Nat) (x a : α) (vs:List Value),xs[k]? = some x->cf a = setAt (cf x) off vs->off+vs.length<=sz->setAt (xs.flatMap cf) (k*sz+off) vs=(xs.set k a).flatMap cf:=by
 intro xs
 induction xs with
 | nil=>intro k off x a vs h;simp at h
 | cons f xs e =>
  intro k off x a vs b d hv
  cases k with
  | zero =>
   simp at b
   subst b
   rw[List.set_cons_zero,kR,kR,Nat.zero_mul,tO,RG (by rw[c];exact hv),d]
  | succ k =>
   rw[List.set_cons_succ,kR,kR,show (k+1)*sz+off=(cf f).length+(k*sz+off) by rw[c,tK];omega,RH]
   rw[e k off x a vs (by simpa using b) d hv]
end
section
variable {α:Type} [Inhabited α] {cf:α->List Value} {sz:Nat} {w:World} {bs:List (World×List Nat)} {L:List fT} {xs:List α} {b i k off:Nat} {T:TypeId} {v:Value} {vs:List Value} {f:α->α}
theorem St.Kz(h:St bs L w)(hi:L[i]? = some (blk b T (xs.flatMap cf)))(a:∀ x:α,(cf x).length=sz)(hk:k<xs.length)(hc:(cf (fJ xs k))[off]? = some v):w.cell? ⟨b,k*sz+off,none⟩=some v :=
 h.tq hi (vg a xs k off _ v (gz hk) hc)
theorem St.ab1(h:St bs L w)(hi:L[i]? = some (blk b T (xs.flatMap cf)))(c:∀ x:α,(cf x).length=sz)(hk:k<xs.length)(hc:((cf (fJ xs k)).drop off).take vs.length=vs):∀ j u,vs[j]? = some u->w.cell? ⟨b,k*sz+off+j,none⟩=some u:=by
 intro j u a
 rw[<-hc,vJ]at a
 split at a
 . rw[HC]at a
   rw[lJ]
   exact h.Kz hi c hk a
 . cases a
theorem Gc(a:∀ x:α,(cf x).length=sz)(hk:k<xs.length)(b:cf (f (fJ xs k))=setAt (cf (fJ xs k)) off vs)(hv:off+vs.length<=sz):setAt (xs.flatMap cf) (k*sz+off) vs=(fO xs k f).flatMap cf :=
 Xk a xs k off _ _ vs (gz hk) b hv
theorem KA(a:∀ x:α,(cf x).length=sz)(hk:k<xs.length){n:Nat}(hv:off+n<=sz):k*sz+off+n<=(xs.flatMap cf).length:=by
 rw[qY a]
 have:(k+1)*sz<=xs.length*sz:=DS _ hk
 rw[tK]at this
 omega
end
section
variable {α:Type} [Inhabited α] {cf:α->List Value} {sz:Nat} {w w0:World} {bs:List (World×List Nat)} {L:List fT} {xs:List α} {b k off:Nat} {T:TypeId} {v:Value} {vs:List Value}
theorem St.Rs(h:St bs L w)(hb:(w0,[])∈bs)(a:(blk b T (xs.flatMap cf)).holds w0)(c:∀ x:α,(cf x).length=sz)(hk:k<xs.length)(hc:(cf (fJ xs k))[off]? = some v):w.cell? ⟨b,k*sz+off,none⟩=some v :=
 h.KJ hb a (vg c xs k off _ v (gz hk) hc)
theorem St.acw(h:St bs L w)(hb:(w0,[])∈bs)(c:(blk b T (xs.flatMap cf)).holds w0)(d:∀ x:α,(cf x).length=sz)(hk:k<xs.length)(hc:((cf (fJ xs k)).drop off).take vs.length=vs):∀ j u,vs[j]? = some u->w.cell? ⟨b,k*sz+off+j,none⟩=some u:=by
 intro j u a
 rw[<-hc,vJ]at a
 split at a
 . rw[HC]at a
   rw[lJ]
   exact h.Rs hb c d hk a
 . cases a
end
section
variable {r:Option Nat} {P:Program} {ops:Array Oper} {Q:Exit->Act->World->Prop} {rest:List Oper} {n:Nat} {s:List (Nat×Value)} {ds:List Deferred} {w:World}
variable {d:Nat} {dd:Option Nat} {ty t e:TypeId} {pos:String} {af:Array Edge} {g:Option (Nat×Bool)} {x y:Operand} {cs:Array Value} {k:IntKind} {i:Int} {len by_:Nat} {u:TypeDesc} {v z:Value}
theorem XQ(d:ev n s x = .agg cs)(f:ev n s y = .int k i)(ht:P.underlying t=some (.array len e))(b:P.underlying e=some u)(c:kC u=false)(hi:TI P e 1 by_ z)(a:0<=i/\i<(len:Int))(hv:cs[i.toNat]? = some v) :
 (execOp (ev n s) ⟨dd,.index t x y,ty,pos,af,g⟩).run P w = .ok (.value v) w:=by
 simp[execOp,d,f,Instr.index,asIntOf,run_underlying ht,a,hi.size,part,wX b,c,hv]
theorem mw(c:gI ops n s g=true)(h:ev n s x = .agg cs)(j:ev n s y = .int k i)(ht:P.underlying t=some (.array len e))(b:P.underlying e=some u)(f:kC u=false)(hi:TI P e 1 by_ z)(a:0<=i/\i<(len:Int))(hv:cs[i.toNat]? = some v)(K:WL r P ops Q rest (Fr n ((d,v) :: s) ds) w):WL r P ops Q (⟨some d,.index t x y,ty,pos,af,g⟩ :: rest) (Fr n s ds) w:=pw c (fun _=>XQ h j ht b f hi a hv) K
end
section
variable {α:Type} {cf:α->List Value} {sz:Nat} {w:World} {bs:List (World×List Nat)} {L:List fT} {ys:List α} {b i:Nat} {v:Value} {e:TypeId}
theorem St.acN(h:St bs L w)(hi:L[i]? = some (fL cf v e sz ys))(o:0<ys.length) :
 ∃ b a ex,v = .slice (some ⟨b,0,none⟩) ys.length a/\ys.length<=a/\a<=maxLen/\(ys.flatMap cf++ex).length=a*sz/\St bs (L.set i (blk b e (ys.flatMap cf++ex))) w:=by
 have m:w.ownsRow 0 e sz v ys.length (ys.flatMap cf):=h.own _ (ze hi)
 rcases m.2 with ⟨_,n⟩|⟨c, a,cur,rfl,_,l,f,g,j,k⟩
 . omega
 . have e1:cur.toList=ys.flatMap cf++cur.toList.drop (ys.length*sz):=by
    rw[<-k,zY]
   refine⟨c, a,cur.toList.drop (ys.length*sz),rfl,f,g,by rw[<-e1];simpa using j,?_⟩
   refine h.iP hi (gx.refl _ _) (fun x d=>.inl (by simpa[row,Value.ownBlock,blk]using d)) (by simp[blk]) (fun x d=>?_) ?_
   . grind [blk]
   . show w.heap[c]? = some (.cells (ys.flatMap cf++cur.toList.drop (ys.length*sz)).toArray e (0,0))
     rw[<-e1]
     simpa using l
theorem St.Iu{ex:List Value}{cap:Nat}(h:St bs L w)(hi:L[i]? = some (blk b e (ys.flatMap cf++ex)))(c:∀ x:α,(cf x).length=sz)(hc:ys.length<=cap)(hm:cap<=maxLen)(a:(ys.flatMap cf++ex).length=cap*sz) :
 St bs (L.set i (fL cf (.slice (some ⟨b,0,none⟩) ys.length cap) e sz ys)) w:=by
 have:=h.Td hi a hc hm
 grind [qY]
theorem St.acM{m:Nat}(h:St bs L w)(hi:L[i]? = some (fL cf v e sz ys))(o:∀ x:α,(cf x).length=sz)(hm:m<=ys.length):St bs (L.set i (fL cf (mq sz v 0 m) e sz (ys.take m))) w:=by
 have p:w.ownsRow 0 e sz v ys.length (ys.flatMap cf):=h.own _ (ze hi)
 have d:(ys.take m).length=m:=by rw[k8];omega
 have l:(ys.take m).flatMap cf=(ys.flatMap cf).take (m*sz):=by
  have e1:ys.flatMap cf=(ys.take m).flatMap cf++(ys.drop m).flatMap cf:=by rw[<-List.flatMap_append,zY]
  grind [qY]
 rcases p.2 with ⟨rfl,q⟩|⟨c, b,cur,rfl,_,n,r,f,g,j⟩
 . have k:m=0:=by omega
   subst k
   refine h.iP hi (gx.refl _ _) (fun x a=>.inl (by simp[row,Value.ownBlock,mq]at a)) (by simp[row,Value.ownBlock,mq]) (fun x a=>by simp[row,Value.ownBlock,mq]at a) ?_
   exact⟨s_,.inl ⟨by simp[mq],s_⟩⟩
 . have hv:mq sz (.slice (some ⟨c, 0,none⟩) ys.length b) 0 m = .slice (some ⟨c, 0,none⟩) m b:=by
    simp only[mq,Nat.sub_zero,Nat.zero_mul,Ac,Addr.add_lit,tM]
    split<;>rfl
   rw[hv]
   refine h.iP hi (gx.refl _ _) (fun x a=>.inl (by simpa[row,Value.ownBlock]using a)) (by simp[row,Value.ownBlock]) (fun x a=>?_) ?_
   . simp[row,Value.ownBlock]at a
     grind
   . refine⟨by rw[qY o],.inr ⟨c, b,cur,by rw[d],mE _,n,by rw[d];omega,f,g,?_⟩⟩
     rw[d,l,<-j,List.take_take,vM (DS _ hm)]
end
section
variable {α:Type} [Inhabited α] {cf:α->List Value} {sz:Nat} {w:World} {bs:List (World×List Nat)} {L L' : List fT} {ys:List α} {b i k off:Nat} {v u:Value} {e:TypeId} {vs:List Value} {f:α->α}
variable {r:Option Nat} {P:Program} {ops:Array Oper} {Q:Exit->Act->World->Prop} {rest l:List Oper} {n:Nat} {s s0:List (Nat×Value)} {ds:List Deferred} {Nx:Value->World->Prop}
variable {d:Nat} {dd:Option Nat} {ty t:TypeId} {pos:String} {af:Array Edge} {g:Option (Nat×Bool)} {x y:Operand} {szt by_:Nat} {z:Value}
theorem adO(i:Nat)(C:ev n s x=lg sz v k off)(E:ev n s y=u)(hvs:u.cells.toList=vs)(ht:TI P t szt by_ z)(B:vs.length=szt)(h1:vs.all (·.oneCell')=true)(A:St bs L w)(hi:L[i]? = some (fL cf v e sz ys))(a:∀ x:α,(cf x).length=sz)(hk:k<ys.length)(c:Nat.ble (off+vs.length) sz=true)(l:cf (f (fJ ys k))=setAt (cf (fJ ys k)) off vs)(h:L.set i (fL cf v e sz (fO ys k f))=L') :
 ∃ w', (execOp (ev n s) ⟨dd,.store t x y,ty,pos,af,g⟩).run P w = .ok .skip w' /\ St bs L' w' := by
 have c:=qv c
 have d:=(zt.1 hi).1
 obtain⟨b,cap,ex,rfl,j,hm,o,hs⟩:=A.acN hi o_
 have D : ev n s x = .pointer (some ⟨b,k*sz+off,none⟩):=by rw[C];simp[lg]
 have m:=KA a hk (n:=vs.length) c
 have hb:(L.set i (blk b e (ys.flatMap cf++ex)))[i]? = some (blk b e (ys.flatMap cf++ex)):=by simp[d]
 obtain⟨w', q,r, _⟩:=RW (dd:=dd) (ty:=ty) (pos:=pos) (af:=af) (g:=g) (cs' := (fO ys k f).flatMap cf++ex) i D E hvs ht B h1 hs hb (by rw[zo];omega) (by rw[RG m,Gc a hk l c]) rfl
 refine⟨w', q,?_⟩
 have p : ((fO ys k f).flatMap cf++ex).length=cap*sz:=by rw[<-o,zo,zo,qY a,qY a,gB]
 have:=r.Iu (ys:=fO ys k f) (ex:=ex) (cap:=cap) (i:=i) (b:=b) (e:=e) (by simp[d]) a (by rw[gB];exact j) hm p
 subst h
 simpa[gB]using this
theorem adN(i:Nat)(h:gI ops n s g=true)(p:ev n s x=lg sz v k off)(q:ev n s y=u)(hvs:u.cells.toList=vs)(ht:TI P t szt by_ z)(o:vs.length=szt)(h1:vs.all (·.oneCell')=true)(m:St bs L w)(hi:L[i]? = some (fL cf v e sz ys))(j:∀ x:α,(cf x).length=sz)(hk:k<ys.length)(l:Nat.ble (off+vs.length) sz=true)(d:cf (f (fJ ys k))=setAt (cf (fJ ys k)) off vs)(c:L.set i (fL cf v e sz (fO ys k f))=L')(K:∀ w', St bs L' w' -> WL r P ops Q rest (Fr n s ds) w'):WL r P ops Q (⟨none,.store t x y,ty,pos,af,g⟩ :: rest) (Fr n s ds) w:=by
 obtain⟨w', a,b⟩:=adO (dd:=none) (ty:=ty) (pos:=pos) (af:=af) (g:=g) i p q hvs ht o h1 m hi j hk l d c
 exact DD h rfl a (K w' b)
end
section
variable {α:Type}
def gN(cf:α->List Value)(T:TypeId)(B:Nat)(ps:List (Option Nat))(xs:List α):fT where
 gJ:=ps.filterMap id
 holds w:=∀ (j b:Nat),ps[j]? = some (some b)->w.heap[b]? = some (.cells (((xs.drop (B*j)).take B).flatMap cf).toArray T (0,0))
 loc w w' h hh j b hb:=by
  rw[h b (List.mem_filterMap.2 ⟨some b,ze hb,rfl⟩)]
  exact hh j b hb
def iI(p:Option Nat):List Value:=[.pointer (p.map fun b=>⟨b,0,none⟩)]
variable [Inhabited α] {cf:α->List Value} {sz B:Nat} {w:World} {bs:List (World×List Nat)} {L:List fT} {xs C:List α} {b i k off j:Nat} {v:Value} {T:TypeId} {vs:List Value} {f:α->α} {ps:List (Option Nat)}
theorem mem_some{ps:List (Option Nat)}{j b:Nat}(h:ps[j]? = some (some b)):b∈ps.filterMap id:=List.mem_filterMap.2 ⟨some b,ze h,rfl⟩
theorem IL(a:0<B)(hk:k<xs.length):fJ ((xs.drop (B*(k / B))).take B) (k%B)=fJ xs k/\k%B<((xs.drop (B*(k / B))).take B).length:=by
 have b:=Ae k a
 have c:=Nat.div_add_mod k B
 constructor
 . grind [fJ]
 . grind
theorem St.Vp(h:St bs L w)(hi:L[i]? = some (gN cf T B ps xs))(f:∀ x:α,(cf x).length=sz)(d:0<B)(hk:k<xs.length)(hp:ps[k / B]? = some (some b))(hc:(cf (fJ xs k))[off]? = some v):w.cell? ⟨b,k%B*sz+off,none⟩=some v:=by
 have e:=h.own _ (ze hi) _ _ hp
 rw[cell_of_row w b _ _ T (0,0) e]
 obtain⟨a,c⟩:=IL d hk
 have:=vg f _ (k%B) off _ v (gz c) (by rw[a];exact hc)
 simpa using this
theorem Vu(a:0<B)(hk:k<xs.length):((fO xs k f).drop (B*(k / B))).take B=fO ((xs.drop (B*(k / B))).take B) (k%B) f:=by
 obtain⟨b,c⟩:=IL a hk
 have d:=Ae k a
 have e:=Nat.div_add_mod k B
 unfold fO
 rw[b,List.drop_set,if_neg o_,List.take_set]
 congr 1
 omega
theorem Vt(a:0<B){j:Nat}(d:j≠k / B):((fO xs k f).drop (B*j)).take B=(xs.drop (B*j)).take B:=by
 have b:=Ae k a
 have c:=Nat.div_add_mod k B
 unfold fO
 rw[List.drop_set]
 split
 . rfl
 . rename_i e
   rw[List.take_set_of_le]
   rcases BY j (k / B)with h|h
   . have:B*(j+1)<=B*(k / B):=BR _ h
     rw[Nat.mul_add]at this
     omega
   . have:B*(k / B+1)<=B*j:=BR _ o_
     rw[Nat.mul_add]at this
     omega
end
section
variable {α:Type} [Inhabited α] {cf:α->List Value} {sz B:Nat} {w:World} {bs:List (World×List Nat)} {L L' : List fT} {xs C:List α} {b i k off j:Nat} {v u:Value} {T:TypeId} {vs:List Value} {f:α->α} {ps:List (Option Nat)}
variable {r:Option Nat} {P:Program} {ops:Array Oper} {Q:Exit->Act->World->Prop} {rest l:List Oper} {n:Nat} {s s0:List (Nat×Value)} {ds:List Deferred} {Nx:Value->World->Prop}
variable {d:Nat} {dd:Option Nat} {ty t:TypeId} {pos:String} {af:Array Edge} {g:Option (Nat×Bool)} {x y:Operand} {szt by_:Nat} {z:Value}
theorem adM(i:Nat)(a:ev n s x = .pointer (some ⟨b,k%B*sz+off,none⟩))(V:ev n s y=u)(hvs:u.cells.toList=vs)(ht:TI P t szt by_ z)(U:vs.length=szt)(h1:vs.all (·.oneCell')=true)(l:St bs L w)(hi:L[i]? = some (gN cf T B ps xs))(D:∀ x:α,(cf x).length=sz)(o:0<B)(hk:k<xs.length)(hp:ps[k / B]? = some (some b))(d:Nat.ble (off+vs.length) sz=true)(K:cf (f (fJ xs k))=setAt (cf (fJ xs k)) off vs)(I:L.set i (gN cf T B ps (fO xs k f))=L') :
 ∃ w', (execOp (ev n s) ⟨dd,.store t x y,ty,pos,af,g⟩).run P w = .ok .skip w' /\ St bs L' w' := by
 have d:=qv d
 obtain⟨A,m⟩:=IL (xs:=xs) o hk
 have F:=l.own _ (ze hi)
 have v:=F _ _ hp
 obtain⟨ch,C⟩:∃ ch,ch=(xs.drop (B*(k / B))).take B:=⟨_,rfl⟩
 rw[<-C]at A m v
 have M:=KA D m (n:=vs.length) d
 have G:=run_storeCells_at P b (k%B*sz+off) T vs 0 (ch.flatMap cf).toArray w v (by simpa using M) (by simpa using h1)
 have O:u.cells.size=szt:=by rw[<-U,<-hvs];simp
 have S:setAt (ch.flatMap cf) (k%B*sz+off) vs=(fO ch (k%B) f).flatMap cf:=Gc D m (by rw[A];exact K) d
 have N:∀ x∈(gN cf T B ps xs).gJ,x<w.heap.size:=fun x a=>l.lt x (su hi a)
 have E:(ps.filterMap id).Nodup:=sublist_nodup' l.sep (ze hi)
 refine⟨w.setRow b ((setAt (ch.flatMap cf) (k%B*sz+off) vs).toArray),?_,?_⟩
 . simp only[execOp,a,V,Instr.storeAt,Instr.sureAddr,storeVar,zx,jU,zp,ht.size,O,ne_eq,not_true,if_false,hvs]
   simp only[tM]at G
   simp[G,setAt]
 . subst I
   refine l.iP hi ((gx.setRow w b _).mono (fun x a=>?_)) (fun c r=>.inl r) E (fun c r=>?_) ?_
   . simp only[k7]at a
     subst a
     exact mem_some hp
   . have:=N c r
     simpa using this
   . intro q c e
     by_cases hqk:q=k / B
     . subst hqk
       rw[hp]at e
       cases e
       rw[Vu o hk,<-C,<-S]
       exact setRow_heap w b (ch.flatMap cf).toArray _ T (0,0) v
     . rw[Vt o hqk]
       have Q:c≠b:=by
        intro e'
        subst e'
        exact hqk (some_inj E e hp)
       have H:(w.setRow b ((setAt (ch.flatMap cf) (k%B*sz+off) vs).toArray)).heap[c]? = w.heap[c]? := setRow_other w b c _ Q
       rw[H]
       exact F q c e
where
 sublist_nodup' {L:List fT} {R:fT} (h:(iZ L).Nodup) (J:R∈L):R.gJ.Nodup:=GA h J
 some_inj {ps:List (Option Nat)} {b:Nat}:∀ {i j:Nat},(ps.filterMap id).Nodup->ps[i]? = some (some b)->ps[j]? = some (some b)->i=j:=by
  induction ps with
  | nil=>intro i j _ h;simp at h
  | cons p ps W =>
   grind
theorem rC(i:Nat)(j:gI ops n s g=true)(q:ev n s x = .pointer (some ⟨b,k%B*sz+off,none⟩))(v:ev n s y=u)(hvs:u.cells.toList=vs)(ht:TI P t szt by_ z)(p:vs.length=szt)(h1:vs.all (·.oneCell')=true)(o:St bs L w)(hi:L[i]? = some (gN cf T B ps xs))(l:∀ x:α,(cf x).length=sz)(d:0<B)(hk:k<xs.length)(hp:ps[k / B]? = some (some b))(m:Nat.ble (off+vs.length) sz=true)(h:cf (f (fJ xs k))=setAt (cf (fJ xs k)) off vs)(e:L.set i (gN cf T B ps (fO xs k f))=L')(K:∀ w', St bs L' w' -> WL r P ops Q rest (Fr n s ds) w'):WL r P ops Q (⟨none,.store t x y,ty,pos,af,g⟩ :: rest) (Fr n s ds) w:=by
 obtain⟨w', a,c⟩:=adM (dd:=none) (ty:=ty) (pos:=pos) (af:=af) (g:=g) i q v hvs ht p h1 o hi l d hk hp m h e
 exact DD j rfl a (K w' c)
end
section
variable {α:Type} {cf:α->List Value} {sz B:Nat} {w:World} {bs:List (World×List Nat)} {L:List fT} {xs C:List α} {b j:Nat} {T:TypeId} {ps:List (Option Nat)}
theorem St.Pf{R a:fT}(h:St bs (R :: R' :: L) w)(f:a.gJ.Perm (R.gJ++R'.gJ))(e:R.holds w->R'.holds w->a.holds w):St bs (a :: L) w:=by
 have hp:(iZ (a :: L)).Perm (iZ (R :: R' :: L)):=by
  grind [nw]
 refine⟨fun p d => ⟨(h.base p d).gA,fun b hb=>(h.base p d).mine b (hp.mem_iff.1 hb)⟩,fun Q c=>?_,hp.nodup_iff.2 h.sep,fun b hb=>h.lt b (hp.mem_iff.1 hb)⟩
 rcases zg.1 c with rfl|c
 . exact e (h.own R s_) (h.own R' s_)
 . exact h.own Q (by simp[c])
theorem abe{ps:List (Option Nat)}{b:Nat}:∀ {j:Nat},ps[j]? = some none->((ps.set j (some b)).filterMap id).Perm (b :: ps.filterMap id):=by
 induction ps with
 | nil=>intro j h;simp at h
 | cons p ps a =>
  intro j h
  cases j with
  | zero =>
   simp at h
   subst h
   simp
  | succ j =>
   grind
theorem St.N1(h:St bs (blk b T cs :: gN cf T B ps xs :: L) w)(d:ps[j]? = some none)(g:cs=((xs.drop (B*j)).take B).flatMap cf):St bs (gN cf T B (ps.set j (some b)) xs :: L) w:=by
 have i:=(zt.1 d).1
 refine h.Pf (by simpa[gN,blk]using abe d) fun e f q c a=>?_
 rw[Ab]at a
 split at a
 . rename_i e'
   subst e'
   cases a
   rw[<-g]
   exact e
 . exact f q c a
theorem St.N2(h:St bs (blk b T cs :: gN cf T B ps xs :: L) w)(j:xs.length=B*ps.length)(l:C.length=B)(f:cs=C.flatMap cf):St bs (gN cf T B (ps++[some b]) (xs++C) :: L) w:=by
 refine h.Pf (by simp only[gN,blk,Me];exact qM) fun d e q c a=>?_
 rw[Mi]at a
 split at a
 . rename_i g
   have:B*(q+1)<=B*ps.length:=BR _ g
   rw[Nat.mul_add]at this
   rw[List.drop_append_of_le_length o_,L5 (by rw[DM];omega)]
   exact e q c a
 . rename_i k
   have i : q=ps.length:=by
    grind
   subst i
   simp at a
   subst a
   rw[<-j,List.drop_left,vF o_,<-f]
   exact d
theorem St.E4(h:St bs L w)(m:Nat):St bs (gN cf T B (List.replicate m none) xs :: L) w:=by
 refine h.add (lo:=w.heap.size) (fun p hp=>(h.base p hp).gA.size) h.lt (fun b hb=>?_) ?_ (fun b hb=>?_) ?_
 . simp[gN]at hb
 . simp[gN]
 . simp[gN]at hb
 . intro j b hb
   grind
end
section
variable {α:Type} {cf:α->List Value} {z0:α}
theorem ZO{sz:Nat}(k:v.cells.toList=cf z0)(a:∀ x:α,(cf x).length=sz)(f:0<sz)(c:Nat):madeCells v.cells (c*sz)=((List.replicate c z0).flatMap cf).toArray:=by
 have l:v.cells.size=sz:=by rw[<-uI,k,a]
 apply Array.ext'
 apply oc
 intro i
 by_cases hi:i<c*sz
 . have b:i / sz<c:=(Mh f).2 hi
   have d:i%sz<(cf z0).length:=by rw[a];exact Ae _ f
   obtain⟨u,j⟩:=oW d
   have e:=vg a (List.replicate c z0) (i / sz) (i%sz) z0 u (by rw[uH,if_pos b]) j
   rw[BU]at e
   have g:v.cells[i%v.cells.size]! = u:=by
    grind
   have h:(madeCells v.cells (c*sz)).toList[i]? = some (v.cells[i%v.cells.size]!):=by simp[madeCells,hi]
   rw[h,g]
   simpa using e.symm
 . have b:(madeCells v.cells (c*sz)).toList[i]? = none:=by rw[rH];simp[madeCells];omega
   have d:((List.replicate c z0).flatMap cf).length=c*sz:=by rw[qY a,qL]
   grind
end
section
variable {α:Type} {cf:α->List Value} {z0:α}
variable {r:Option Nat} {P:Program} {ops:Array Oper} {Q:Exit->Act->World->Prop} {rest l:List Oper} {n:Nat} {s s0:List (Nat×Value)} {ds:List Deferred} {w:World} {Nx:Value->World->Prop}
variable {d:Nat} {dd:Option Nat} {ty t e:TypeId} {pos:String} {af:Array Edge} {g:Option (Nat×Bool)} {x y:Operand} {sz by_:Nat} {z:Value} {bs:List (World×List Nat)} {L:List fT}
theorem aak{c m:Nat}(o:ev n s x = .int k (m:Int))(p:ev n s y = .int k' (c:Int))(ht:P.underlying t=some (.slice e))(hi:TI P e sz by_ z)(q:z.cells.toList=cf z0)(j:∀ x:α,(cf x).length=sz)(l:0<sz)(hm:m<=c)(hb:by_*c<=281474976710656)(r:c<=9223372036854775807) :
 (execOp (ev n s) ⟨dd,.makeSlice t x y,ty,pos,af,g⟩).run P w = .ok (.value (.slice (some ⟨w.heap.size,0,none⟩) m c)) (w.alloc (.cells ((List.replicate c z0).flatMap cf).toArray e)):=by
 obtain⟨i,h,b,d,f⟩:=hi.get
 subst d
 have a:=run_make (P:=P) w t e i z ht h f k k' m c o_ o_ (by rw[<-Int.natCast_mul];omega) o_
 simp only[nG,b]at a
 rw[ZO q j l]at a
 simp only[execOp,o,p,zx,a,zp,jU]
theorem lN{c m:Nat}(f:gI ops n s g=true)(l:ev n s x = .int k (m:Int))(o:ev n s y = .int k' (c:Int))(ht:P.underlying t=some (.slice e))(hi:TI P e sz by_ z)(p:z.cells.toList=cf z0)(h:∀ x:α,(cf x).length=sz)(j:0<sz)(hm:m<=c)(hb:by_*c<=281474976710656)(a:c<=9223372036854775807)(i:St bs L w)(K:∀ b w', w.heap.size<=b->gx [] w w' -> St bs (blk b e ((List.replicate c z0).flatMap cf) :: L) w' -> WL r P ops Q rest (Fr n ((d,.slice (some ⟨b,0,none⟩) m c) :: s) ds) w') :
 WL r P ops Q (⟨some d,.makeSlice t x y,ty,pos,af,g⟩ :: rest) (Fr n s ds) w :=
 pv f rfl (aak l o ht hi p h j hm hb a) (K _ _ (zm _) (gx.alloc [] w _) (FV i e _))
theorem St.U0{c m i:Nat}(h:St bs L w)(hi:L[i]? = some (blk b e ((List.replicate c z0).flatMap cf)))(a:∀ x:α,(cf x).length=sz)(hm:m<=c)(hc:c<=maxLen):St bs (L.set i (fL cf (.slice (some ⟨b,0,none⟩) m c) e sz (List.replicate m z0))) w:=by
 have e1:(List.replicate c z0).flatMap cf=(List.replicate m z0).flatMap cf++(List.replicate (c-m) z0).flatMap cf:=by
  rw[<-List.flatMap_append,List.replicate_append_replicate]
  congr 2
  omega
 rw[e1]at hi
 have:=h.Iu (cf:=cf) (ys:=List.replicate m z0) (cap:=c) hi a (by simpa using hm) hc (by rw[<-e1,qY a,qL])
 simpa using this
end
theorem St.made{w':World}{bs:List (World×List Nat)}{L:List fT}{R:fT}(h:St bs L w)(ht:fV (gh []) w w' R):St bs (R :: L) w' :=
 h.rU (by simpa[gh,iZ]using ht.gA) (fun b hb=>(ht.place b hb).elim (fun h=>by simp[gh,iZ]at h) id) ht.nodup ht.lt ht.holds
theorem St.Oo{w':World}{bs:List (World×List Nat)}{L:List fT}{R:fT}(h:St bs (R :: L) w')(hb:(w,[])∈bs):fV (gh []) w w' R:=h.Ff (R:=gh []) hb
theorem Bi{e:Option Nat}(h:e=some b):Value.pointer (e.map fun b=>(⟨b,0,none⟩:Addr)) = .pointer (some ⟨b,0,none⟩):=by rw[h];rfl
def wM:Value->Bool
 | .slice none _ _=>true
 | _=>false
section
variable {r:Option Nat} {P:Program} {ops:Array Oper} {Q:Exit->Act->World->Prop} {rest:List Oper} {n:Nat} {s:List (Nat×Value)} {ds:List Deferred} {w w0 w' : World} {d:Nat} {ty t t' e:TypeId} {pos:String} {af:Array Edge} {g:Option (Nat×Bool)} {v:Value} {x y:Operand}
theorem CC{α:Type}{sz:Nat}{enc:World->α->List Value->Prop}{ys:List α}(f:gI ops n s g=true)(h:ev n s x=v)(i:ev n s y = .slice none 0 0)(ht:P.underlying t=some (.slice e))(b:Sl sz enc ok w0 v ys)(K:WL r P ops Q rest (Fr n ((d,.bool (wM v)) :: s) ds) w):WL r P ops Q (⟨some d,.binOp .eql t x y t', ty,pos,af,g⟩ :: rest) (Fr n s ds) w:=by
 obtain⟨a,c,rfl,_⟩:=b
 have:wM (.slice a ys.length c)=a.isNone:=by cases a<;>rfl
 rw[this]at K
 exact WO f h i ht K
theorem C1{α:Type}{sz:Nat}{enc:World->α->List Value->Prop}{ys:List α}(h:wM v=true)(e:Sl sz enc ok w0 v ys):ys=[]:=by
 obtain⟨a,c,rfl,g,i,d⟩:=e
 cases ys with
 | nil=>rfl
 | cons y ys =>
  obtain⟨b,o,vs,f,_⟩:=d 0 y rfl
  subst f
  cases h
theorem qy.C0{α:Type}{sz:Nat}{cf:α->List Value}{e:TypeId}:qy sz cf w w' (.slice none 0 0) e ([]:List α):=⟨⟨s_,.inl ⟨rfl,rfl⟩⟩,fun b hb=>by simp[Value.ownBlock]at hb⟩
end
section
variable {α:Type} {cf:α->List Value} {w:World} {bs:List (World×List Nat)} {L:List fT} {xs:List α} {b i j B:Nat} {T:TypeId} {ps:List (Option Nat)}
theorem St.N0(h:St bs L w)(hi:L[i]? = some (gN cf T B ps xs))(hp:ps[j]? = some (some b)):∀ q u,(((xs.drop (B*j)).take B).flatMap cf)[q]? = some u->w.cell? ⟨b,0+q,none⟩=some u:=by
 intro q u c
 have a:=h.own _ (ze hi) _ _ hp
 rw[cell_of_row w b _ _ T (0,0) a]
 simpa using c
theorem N6{sz:Nat}(b:∀ x:α,(cf x).length=sz)(c:xs.length=B*ps.length)(a:j<ps.length):(((xs.drop (B*j)).take B).flatMap cf).length=B*sz:=by
 rw[qY b,k8,DM]
 have:B*(j+1)<=B*ps.length:=BR _ a
 grind
theorem RF(h:vs.length=cs.length):setAt cs 0 vs=vs:=by
 grind [setAt]
end
theorem xY{α:Type}{cf:α->List Value}(h:∀ a,(cf a).all (·.oneCell')=true)(xs:List α):∀ x∈xs.flatMap cf,x.oneCell' = true:=by
 grind
structure qP (ps qs:List (Option Nat)) (k:Nat):Prop where
 len:qs.length=ps.length
 rest:∀ j,k<=j->j<ps.length->qs[j]? = some none
 done:∀ j,j<k->qs[j]? = some none->ps[j]? = some none
theorem qP.start(ps:List (Option Nat)):qP ps (List.replicate ps.length none) 0 :=
 ⟨s_,fun j _ a=>by rw[uH,if_pos a],fun j a=>absurd a o_⟩
theorem qP.skip{ps b:List (Option Nat)}{k:Nat}(h:qP ps b k)(hk:ps[k]? = some none):qP ps b (k+1) :=
 ⟨h.len,fun j c a=>h.rest j o_ a,fun j c a=>by
  by_cases e:j=k
  . subst e;exact hk
  . exact h.done j o_ a⟩
theorem qP.set{ps c:List (Option Nat)}{k:Nat}(h:qP ps c k)(hk:k<ps.length):qP ps (fO c k (fun _=>some b)) (k+1):=by
 have f:=h.len
 refine⟨by rw[gB];exact f,fun j d a=>?_,fun j d a=>?_⟩
 . unfold fO
   rw[List.getElem?_set_ne o_]
   exact h.rest j o_ a
 . unfold fO at a
   by_cases e:k=j
   . grind
   . rw[List.getElem?_set_ne e]at a
     exact h.done j o_ a
theorem qP.next{ps a:List (Option Nat)}{k:Nat}(h:qP ps a k)(hk:k<ps.length):a[k]? = some none:=h.rest k (zm _) hk
def lq(p:Prop)(R:fT):fT where
 gJ:=R.gJ
 holds w:=p/\R.holds w
 loc w w' h hh:=⟨hh.1,R.loc w w' h hh.2⟩
section
variable {w w' w0:World} {bs:List (World×List Nat)} {L LL:List fT} {R R' : fT} {p p' : Prop}
theorem Own.fact(h:Own (lq p R) w):p:=h.holds.1
theorem Own.un(h:Own (lq p R) w):Own R w:=⟨h.holds.2,h.nodup,h.lt⟩
theorem fV.rD(h:fV R w w' R')(hp:p'):fV (lq p R) w w' (lq p' R'):=⟨⟨hp,h.holds⟩,h.gA,h.place,h.nodup,h.lt⟩
theorem fV.LU(h:fV R w w' R')(hp:p'):fV R w w' (lq p' R'):=⟨⟨hp,h.holds⟩,h.gA,h.place,h.nodup,h.lt⟩
theorem fV.LP(h:fV R w w' R'):fV (lq p R) w w' R' := ⟨h.holds,h.gA,h.place,h.nodup,h.lt⟩
theorem St.un(h:St bs (lq p R :: L) w):St bs (R :: L) w :=
 ⟨fun q b=>⟨(h.base q b).gA,(h.base q b).mine⟩,fun Q a=>by
  rcases zg.1 a with rfl|a
  . exact(h.own (lq p Q) s_).2
  . exact h.own Q (by simp[a]),h.sep,h.lt⟩
theorem St.rD(h:St bs (R :: L) w)(hp:p):St bs (lq p R :: L) w :=
 ⟨fun q b=>⟨(h.base q b).gA,(h.base q b).mine⟩,fun Q a=>by
  rcases zg.1 a with rfl|a
  . exact⟨hp,h.own R s_⟩
  . exact h.own Q (by simp[a]),h.sep,h.lt⟩
theorem St.fact(h:St bs (lq p R :: L) w):p:=(h.own (lq p R) s_).1
theorem St.W2(h:St bs L w)(hi:L[i]? = some (lq p R)):p:=(h.own (lq p R) (ze hi)).1
theorem Own.of{L:List fT}(h:Own (gh L) w):St [(w,(gh L).gJ)] L w:=by
 have a:=(St.Jx h).unpack
 rwa [rJ]at a
theorem St.WE(h:St bs L w')(hb:(w,R.gJ)∈bs):fV R w w' (gh L):=by
 have a:St bs (L++[]) w' := by rwa [rJ]
 exact(St.pack L [] a).Ff hb
theorem fV.Fi{A B:List fT}(h:fV R w w' (gh (A++B))):fV R w w' (gh [gh A,gh B]):=by
 have c:(gh [gh A,gh B]).gJ=(gh (A++B)).gJ:=by simp[gh,iZ]
 refine⟨fun Q d=>?_,h.gA,fun b hb=>h.place b (c▸hb),c▸h.nodup,fun b hb=>h.lt b (c▸hb)⟩
 simp only[zg,nr,or_false]at d
 rcases d with rfl|rfl
 . exact fun S a=>h.holds S (sN _ a)
 . exact fun S a=>h.holds S (vG _ a)
theorem fV.CS{a:fT}(h:fV R w w' R')(c:a.gJ=R'.gJ)(d:R'.holds w' -> a.holds w'):fV R w w' a :=
 ⟨d h.holds,h.gA,fun b hb=>h.place b (c▸hb),c▸h.nodup,fun b hb=>h.lt b (c▸hb)⟩
end
def Dj(L:List fT):List Nat->List fT
 | []=>[]
 | i :: r=>match L[i]? with
  | some x=>x :: Dj L r
  | none=>Dj L r
theorem RD(L:List fT):∀ ix,Dj L ix=ix.filterMap fun i=>L[i]?
 | []=>rfl
 | i :: r=>by
  simp only[Dj,DT]
  cases L[i]? <;> simp[RD L r]
theorem ac5(L:List fT):(List.range L.length).filterMap (fun i=>L[i]?)=L:=by
 apply oc
 intro j
 have h:∀ (n:Nat),n<=L.length->(List.range n).filterMap (fun i=>L[i]?)=L.take n:=by
  intro n
  induction n with
  | zero=>intro _;rfl
  | succ n a =>
   intro b
   rw[sP,Me,a o_,qu]
   simp only[DT,List.filterMap_nil]
   cases L[n]? <;> simp
 rw[h _ (zm _),vL]
theorem KX(L:List fT):∀ ix:List Nat,(ix.filter fun i=>decide (i<L.length)).filterMap (fun i=>L[i]?)=ix.filterMap fun i=>L[i]?
 | []=>rfl
 | i :: r=>by
  by_cases h:i<L.length
  . rw[BN (by simpa using h),DT,DT,KX L r]
  . rw[BM (by simpa using h),DT,KX L r,rH o_]
theorem St.re{w:World}(S:List Nat)(h:St bs L w)(f:S.Nodup:=by decide):St bs (Dj L S) w:=by
 have hp:((S.filter fun i=>decide (i<L.length))++((List.range L.length).filter fun i=>decide (i∉S))).Perm (List.range L.length):=by
  rw[List.perm_ext_iff_of_nodup]
  . intro a
    simp only[zn,zy,l8,decide_eq_true_eq]
    by_cases c:a∈S<;>simp[c]
  . rw[zr]
    refine⟨f.sublist oI,rI.sublist oI,fun a c b hb e=>?_⟩
    subst e
    simp only[zy,decide_eq_true_eq]at c hb
    exact hb.2 c.1
  . exact rI
 have d:=hp.filterMap fun i=>L[i]?
 rw[ac5,Me,KX,<-RD]at d
 exact(h.perm d.symm).sub (uG _ _)
end Go.Sx
namespace Go.Ex
open Go
variable{Q:Exit->Act->World->Prop}
section
variable {P:Program} {w:World}
theorem ac1{F:Fence}{m:Nat}{c:Code}{a:Act}(h:c.wpIn F m P (fun e a w=>(∀ l,e ≠ .goto l)/\Q e a w) a w):(Code.scope c).wpIn F m P Q a w:=by
 intro b k cs s hb o
 have d:(lone (b.atR a (.code (.scope c) :: k)) cs w).fenced P F:=fenced_calm hb o rfl
 have s0:Go.step P (lone (b.atR a (.code (.scope c) :: k)) cs w) = .next (lone (b.atR a (.code c :: .inScope c :: k)) cs w):=step_lone_go (by simp[stepG,stepG.exec,Frame.atR])
 have s1:∀ a w,Go.step P (lone (b.atR a (.inScope c :: k)) cs w) = .next (lone (b.atR a k) cs w):=fun a w=>step_lone_go (by simp[stepG,stepG.exec,Frame.atR])
 obtain⟨e,g,j,⟨q,i⟩,f⟩:=h b (.inScope c :: k) cs s hb o
 cases e with
 | normal=>exact⟨.normal,g,j,i,.head d s0 (StepsIn.trans f (.one (fenced_calm hb o rfl) (s1 _ _)))⟩
 | exit id =>
  have p:exitTo id (.inScope c :: k)=exitTo id k:=by simp[exitTo]
  exact⟨.exit id,g,j,i,fun k' n=>.head d s0 (f.1 k' (by rw[p];exact n)),
   fun r n=>let ⟨k₁,h1,h2⟩:=f.2 r (by rw[p];exact n);⟨k₁,h1,.head d s0 h2⟩⟩
 | goto l=>exact absurd rfl (q l)
 | ret=>exact⟨_,g,j,i,.of_steps (.one d s0) f⟩
 | panic ch=>exact⟨_,g,j,i,.of_steps (.one d s0) f⟩
 | outgrown=>exact⟨_,g,j,i,.of_steps (.one d s0) f⟩
end
end Go.Ex
namespace Go.Sx
open Go
def yN(Q:Exit->Act->World->Prop):Exit->Act->World->Prop:=fun e a w=>(∀ l,e ≠ .goto l)/\Q e a w
section
variable {r:Option Nat} {P:Program} {Q:Exit->Act->World->Prop} {c:Code} {a:Act} {w:World} {id:Nat}
theorem scp(h:WP r P c (yN Q) a w):WP r P (.scope c) Q a w:=Go.Ex.ac1 h
theorem KV(h:Q .normal a w):yN Q .normal a w:=⟨fun _ e=>(by cases e),h⟩
theorem KW(h:Q .ret a w):yN Q .ret a w:=⟨fun _ e=>(by cases e),h⟩
theorem JM{l:Nat}(h:Q .normal a w):WP r P (.label l) Q a w:=wpIn_label h
end
class NP (Q:Exit->Act->World->Prop):Prop where
 np:∀ c a w,¬ Q (.panic c) a w
 no:∀ a w,¬ Q .outgrown a w
instance NP.thn {K:Act->World->Prop} {Q:Exit->Act->World->Prop} [h:NP Q]:NP (Exit.then K Q):=⟨fun c a w=>h.np c a w,fun a w=>h.no a w⟩
instance NP.blk {i:Nat} {Q:Exit->Act->World->Prop} [h:NP Q]:NP (Exit.inBlock i Q):=⟨fun c a w=>h.np c a w,fun a w=>h.no a w⟩
instance NP.scp {Q:Exit->Act->World->Prop} [h:NP Q]:NP (yN Q):=⟨fun c a w x=>h.np c a w x.2,fun a w x=>h.no a w x.2⟩
instance NP.yU {P:Program} {l:Nat} {R:Ending->World->Prop}:NP (roundPost P l R):=⟨fun _ _ _ h=>h,fun _ _ h=>h⟩
instance NP.fls:NP (fun _ _ _=>False):=⟨fun _ _ _ h=>h,fun _ _ h=>h⟩
instance NP.bdy {P:Program} {fn:Func} {R:Value->World->Prop}:NP (bodyPost P fn (fun e w' => ∃ v,e = .returned v/\R v w')) where
 np c a w x:=by
  have x:a.defers=[]/\∃ v,Ending.panicked c = .returned v/\R v w:=x
  obtain⟨_,v,h,_⟩:=x
  cases h
 no a w x:=by
  have x:∃ v,Ending.outgrown = .returned v/\R v w:=x
  obtain⟨v,h,_⟩:=x
  cases h
section
variable {r:Option Nat} {P:Program} {ops:Array Oper} {Q:Exit->Act->World->Prop} {o x y:Oper} {a:Act} {w:World} {K K' : Act->World->Prop} {v u:Value}
def wn(ops:Array Oper)(o:Oper)(a:Act):Bool:=Region.wanted o (yielded ops a.tmps)
def iA(r:Option Nat)(P:Program)(ops:Array Oper)(Q:Exit->Act->World->Prop)(o:Oper)(K:Act->World->Prop)(a:Act)(w:World):Prop :=
 if wn ops o a=true then ku r P Q o K a w else K (a.put o.dst undef) w
theorem LV{rest:List Oper}:wl r P ops Q (o :: rest) a w=iA r P ops Q o (wl r P ops Q rest) a w:=rfl
theorem iA.mono(h:∀ a w,K a w->K' a w)(b:iA r P ops Q o K a w):iA r P ops Q o K' a w:=by
 unfold iA at *
 split<;>rename_i c
 . rw[if_pos c]at b;exact b.mono h
 . rw[if_neg c]at b;exact h _ _ b
def Y0(P:Program)(ops:Array Oper)(o:Oper)(v:Value)(a:Act):Prop:=(wn ops o a=true/\cat o.op=0/\∀ w,(execOp a.eval o).run P w = .ok (.value v) w)\/(wn ops o a=false/\v=undef)
def Y1(P:Program)(ops:Array Oper)(o:Oper)(v:Value)(a:Act)(w:World):Prop:=wn ops o a=true/\cat o.op=1/\(execOp a.eval o).run P w = .ok (.value v) w
theorem iA.get(hc:cat o.op=0\/cat o.op=1)(h:iA r P ops Q o K a w):∃ v,(Y0 P ops o v a\/Y1 P ops o v a w)/\K (a.put o.dst v) w:=by
 unfold iA at h
 cases hw:wn ops o a with
 | false=>rw[if_neg (by rw[hw];decide)]at h;exact⟨undef,.inl (.inr ⟨hw,rfl⟩),h⟩
 | true =>
  rw[if_pos hw]at h
  unfold ku at h
  rcases hc with hc|hc<;>rw[hc]at h<;>obtain⟨v,b,c⟩:=h
  . exact⟨v,.inl (.inl ⟨hw,hc,b⟩),c⟩
  . exact⟨v,.inr ⟨hw,hc,b⟩,c⟩
theorem iA.mk(h:Y0 P ops o v a\/Y1 P ops o v a w)(k:K (a.put o.dst v) w):iA r P ops Q o K a w:=by
 unfold iA
 rcases h with (⟨b,c,h⟩|⟨b,rfl⟩)|⟨b,c,h⟩
 . rw[if_pos b];unfold ku;rw[c];exact⟨v,h,k⟩
 . rw[if_neg (by rw[b];decide)];exact k
 . rw[if_pos b];unfold ku;rw[c];exact⟨v,h,k⟩
theorem Y0.wg(i:Y0 P ops o v a)(h:iA r P ops Q o K a w):K (a.put o.dst v) w:=by
 unfold iA at h
 rcases i with ⟨b,g,c⟩|⟨b,rfl⟩
 . rw[if_pos b]at h
   unfold ku at h
   rw[g]at h
   obtain⟨u,d,f⟩:=h
   have e:=(c w).symm.trans (d w)
   simp only[Result.ok.injEq,Next.value.injEq,and_true]at e
   rw[e];exact f
 . rw[if_neg (by rw[b];decide)]at h;exact h
def rj:Op->Bool
 | .select _ _=>false
 | _=>true
theorem Ki{a:Op}(h:rj a=true):∀ cs b,a ≠ .select cs b:=by intro cs b e;subst e;cases h
structure Ap (ops:Array Oper) (x y:Oper):Prop where
 xy:∀ d,x.dst=some d->d∉y.looksAt ops
 ne:∀ d,x.dst=some d->y.dst≠some d
 yx:∀ d,y.dst=some d->d∉x.looksAt ops
 sx:rj x.op=true
 sy:rj y.op=true
 dx:qE x.op=true
 dy:qE y.op=true
theorem Ap.symm(h:Ap ops x y):Ap ops y x:=⟨h.yx,fun d hd e=>h.ne d e hd,h.xy,h.sy,h.sx,h.dy,h.dx⟩
theorem Ap.wn(h:Ap ops x y)(v:Value):wn ops y (a.put x.dst v)=wn ops y a:=by unfold Go.Sx.wn;rw[wanted_put y a x.dst v h.xy]
theorem Ap.ex(h:Ap ops x y)(v:Value):execOp (a.put x.dst v).eval y=execOp a.eval y:=execOp_put y (Ki h.sy) a x.dst v h.xy
theorem Ap.lH(h:Ap ops x y)(v u:Value):(a.put x.dst v).put y.dst u=(a.put y.dst u).put x.dst v:=Act.put_comm a v u h.ne
theorem Ap.y0(h:Ap ops x y):Y0 P ops y u (a.put x.dst v)↔Y0 P ops y u a:=by unfold Y0;rw[h.wn,h.ex]
theorem Ap.y1(h:Ap ops x y):Y1 P ops y u (a.put x.dst v) w↔Y1 P ops y u a w:=by unfold Y1;rw[h.wn,h.ex]
theorem Gn{ρ:Operand->Value}(h:qE o.op=true):o.semAt r ρ=execOp ρ o:=semAt_eq (FZ h)
theorem E3(a:Op):cat a=0\/cat a=1\/cat a=2\/cat a=3:=by
 unfold cat
 split<;>simp
def Ei(P:Program)(ops:Array Oper)(x:Oper)(a a' : Act):Prop:=(∀ v,Y0 P ops x v a↔Y0 P ops x v a')/\wn ops x a' = wn ops x a
theorem Ap.upon(h:Ap ops x y)(i:NP Q){z:Result Next}(b:y.uponIn (FW r) 0 P (a.put x.dst v) K Q z):y.uponIn (FW r) 0 P a (fun a' w' => K (a'.put x.dst v) w' /\ Ei P ops x a a') Q z:=by
 have kp:∀ u,Ei P ops x a (a.put y.dst u):=fun u=>⟨fun v=>(h.symm.y0).symm,h.symm.wn u⟩
 cases z with
 | ok nx w' =>
  cases nx<;>simp only[Oper.uponIn]at b ⊢
  case value u=>exact⟨by rw[<-h.lH];exact b,kp u⟩
  case skip=>exact⟨by rw[<-h.lH];exact b,kp _⟩
  case defer d =>
   refine⟨?_,fun v=>?_,?_⟩
   . rw[Act.put_defers a x.dst v d]at b
     rw[<-h.lH];exact b
   . rw[h.symm.y0];exact Iff.rfl
   . rw[h.symm.wn];rfl
  case enter f args =>
   refine⟨b.1,CallsIn.mono b.2 fun e j g=>?_⟩
   cases e with
   | returned u=>exact⟨by rw[<-h.lH];exact g,kp u⟩
   | panicked c=>exact absurd g (i.np _ _ _)
   | outgrown=>exact g
  case row row args=>exact⟨b.1,RowsIn.mono b.2 fun u j g=>⟨by rw[<-h.lH];exact g,kp u⟩⟩
  case round l f tmps assign body =>
   refine⟨b.1,RoundIn.mono b.2 fun e j g=>?_⟩
   cases e with
   | returned u=>exact⟨by rw[<-h.lH];exact g,kp u⟩
   | panicked c=>exact absurd g (i.np _ _ _)
   | outgrown=>exact g
 | halt z w' => cases z<;>simp only[Oper.uponIn]at b ⊢ <;> exact absurd b (i.np _ _ _)
theorem Ap.act(h:Ap ops x y)(f:cat y.op=2->NP Q)(b:cat y.op=2\/cat y.op=3)(c:ku r P Q y K (a.put x.dst v) w):ku r P Q y (fun a' w' => K (a'.put x.dst v) w' /\ Ei P ops x a a') a w:=by
 have kp:∀ u,Ei P ops x a (a.put y.dst u):=fun u=>⟨fun v=>(h.symm.y0).symm,h.symm.wn u⟩
 unfold ku at *
 rcases b with b|b<;>rw[b]at c<;>rw[b]
 . rw[Gn h.dy,h.ex]at c
   rw[Gn h.dy]
   exact h.upon (f b) c
 . rw[h.ex]at c
   obtain⟨z,w', e,⟨u,rfl,d⟩|⟨rfl,d⟩⟩:=c
   . exact⟨_,w', e,.inl ⟨u,rfl,by rw[<-h.lH];exact d,kp u⟩⟩
   . exact⟨_,w', e,.inr ⟨rfl,by rw[<-h.lH];exact d,kp _⟩⟩
theorem Ap.back(h:Ap ops x y)(j:cat y.op=2->NP Q)(i:cat y.op=2\/cat y.op=3)(n:Y0 P ops x v a)(b:ku r P Q y (iA r P ops Q x K) a w):ku r P Q y K (a.put x.dst v) w:=by
 have kp:∀ u,Y0 P ops x v (a.put y.dst u):=fun u=>(h.symm.y0).2 n
 unfold ku at *
 rcases i with i|i<;>rw[i]at b<;>rw[i]
 . rw[Gn h.dy]at b
   rw[Gn h.dy,h.ex]
   have j:=j i
   generalize (execOp a.eval y).run P w=z at *
   cases z with
   | ok nx w' =>
    cases nx<;>simp only[Oper.uponIn]at b ⊢
    case value u=>rw[h.lH];exact(kp u).wg b
    case skip=>rw[h.lH];exact(kp _).wg b
    case defer d =>
     rw[Act.put_defers a x.dst v d,h.lH]
     refine Y0.wg ?_ b
     exact(h.symm.y0 (a:={ a with defers:=d :: a.defers })).2 n
    case enter f args =>
     refine⟨b.1,CallsIn.mono b.2 fun e o g=>?_⟩
     cases e with
     | returned u=>show K _ _;rw[h.lH];exact(kp u).wg g
     | panicked c=>exact absurd g (j.np _ _ _)
     | outgrown=>exact g
    case row row args=>exact⟨b.1,RowsIn.mono b.2 fun u o g=>by rw[h.lH];exact(kp u).wg g⟩
    case round l f tmps assign body =>
     refine⟨b.1,RoundIn.mono b.2 fun e o g=>?_⟩
     cases e with
     | returned u=>show K _ _;rw[h.lH];exact(kp u).wg g
     | panicked c=>exact absurd g (j.np _ _ _)
     | outgrown=>exact g
   | halt z w' => cases z<;>simp only[Oper.uponIn]at b ⊢ <;> exact absurd b (j.np _ _ _)
 . rw[h.ex]
   obtain⟨z,w', m,⟨u,rfl,k⟩|⟨rfl,k⟩⟩:=b
   . exact⟨_,w', m,.inl ⟨u,rfl,by rw[h.lH];exact(kp u).wg k⟩⟩
   . exact⟨_,w', m,.inr ⟨rfl,by rw[h.lH];exact(kp _).wg k⟩⟩
theorem ku.ends(h:cat y.op=2->NP Q)(hd:qE y.op=true)(i:cat y.op=2\/cat y.op=3)(g:ku r P Q y K a w):∃ a' w', K a' w' /\ (∃ u,a' = a.put y.dst u\/∃ d,a' = { a with defers:=d :: a.defers }.put y.dst u):=by
 unfold ku at *
 rcases i with i|i<;>rw[i]at g
 . have h:=h i
   generalize (y.semAt r a.eval).run P w=z at *
   cases z with
   | ok nx w' =>
    cases nx<;>simp only[Oper.uponIn]at g
    case value u=>exact⟨_,_,g,u,.inl rfl⟩
    case skip=>exact⟨_,_,g,_,.inl rfl⟩
    case defer d=>exact⟨_,_,g,_,.inr ⟨d,rfl⟩⟩
    case enter f args =>
     obtain⟨e,k, fr,b,_⟩:=g.2.2 [] (HK _ _)
     cases e with
     | returned u=>exact⟨_,_,b,u,.inl rfl⟩
     | panicked c=>exact absurd b (h.np _ _ _)
     | outgrown=>obtain⟨a,w,b⟩:=b;exact absurd b (h.no _ _)
    case row row args =>
     obtain⟨u,k, b,_⟩:=g.2 default [] (HK _ _)
     exact⟨_,_,b,u,.inl rfl⟩
    case round l f tmps assign body =>
     obtain⟨e,k, b,_⟩:=g.2.2 default [] (HK _ _)
     cases e with
     | returned u=>exact⟨_,_,b,u,.inl rfl⟩
     | panicked c=>exact absurd b (h.np _ _ _)
     | outgrown=>obtain⟨a,w,b⟩:=b;exact absurd b (h.no _ _)
   | halt z w' => cases z<;>simp only[Oper.uponIn]at g<;>exact absurd g (h.np _ _ _)
 . obtain⟨z,w', m,⟨u,rfl,j⟩|⟨rfl,j⟩⟩:=g
   . exact⟨_,_,j,u,.inl rfl⟩
   . exact⟨_,_,j,_,.inl rfl⟩
def xP(x y:Op):Bool:=bif Nat.ble (cat x) 1 then(Nat.ble (cat y) 1||Nat.beq (cat x) 0)else Nat.beq (cat y) 0
theorem swap(h:Ap ops x y)(hk:xP x.op y.op=true)(l:cat x.op=2->NP Q)(q:cat y.op=2->NP Q)(f:iA r P ops Q x (iA r P ops Q y K) a w):iA r P ops Q y (iA r P ops Q x K) a w:=by
 have s:∀ o:Oper,Nat.ble (cat o.op) 1=true->cat o.op=0\/cat o.op=1:=fun o h=>by have:=qv h;omega
 have j:∀ o:Oper,¬ (cat o.op=0\/cat o.op=1)->cat o.op=2\/cat o.op=3:=fun o h=>by rcases E3 o.op with b|b|b|b<;>simp_all
 by_cases hx:cat x.op=0\/cat x.op=1
 . obtain⟨v,hv,c⟩:=f.get hx
   by_cases i:cat y.op=0\/cat y.op=1
   . obtain⟨u,e,k⟩:=c.get i
     refine iA.mk (v:=u) ?_ (iA.mk (v:=v) ?_ (by rw[<-h.lH];exact k))
     . rw[h.y0,h.y1]at e;exact e
     . rw[h.symm.y0,h.symm.y1];exact hv
   . have n:Y0 P ops x v a:=by
      rcases hv with hv|hv
      . exact hv
      . exfalso
        have b:=hv.2.1
        rcases j y i with c|c<;>simp[xP,b,c]at hk
     unfold iA at c
     rw[h.wn]at c
     unfold iA
     split<;>rename_i g
     . rw[if_pos g]at c
       refine(h.act q (j y i) c).mono fun a' w' ⟨k,p⟩=>?_
       exact iA.mk (.inl ((p.1 v).1 n)) k
     . rw[if_neg g]at c
       exact iA.mk (.inl ((h.symm.y0).2 n)) (by rw[<-h.lH];exact c)
 . have i:cat y.op=0:=by
    rcases j x hx with b|b<;>simpa[xP,b]using hk
   unfold iA at f
   cases g:wn ops x a with
   | false =>
    rw[if_neg (by rw[g];decide)]at f
    obtain⟨u,e,k⟩:=iA.get (.inl i) f
    rw[h.y0,h.y1]at e
    refine iA.mk e (iA.mk (v:=undef) (.inl (.inr ⟨?_,rfl⟩)) (by rw[<-h.lH];exact k))
    rw[h.symm.wn];exact g
   | true =>
    rw[if_pos g]at f
    obtain⟨a', w', b,t,c⟩:=f.ends l h.dx (j x hx)
    have b:iA r P ops Q y K a' w' := b
    obtain⟨u,e,_⟩:=b.get (.inl i)
    have m:Y0 P ops y u a:=by
     have:Y0 P ops y u a' := by
      rcases e with e|e
      . exact e
      . exact absurd (e.2.1.symm.trans i) d_
     rcases c with rfl|⟨d,rfl⟩
     . exact h.y0.1 this
     . exact(h.y0 (a:={ a with defers:=d :: a.defers })).1 this
    refine iA.mk (.inl m) ?_
    unfold iA
    rw[h.symm.wn,if_pos g]
    exact h.symm.back l (j x hx) m f
end
def Ui(s t:List Nat):List Nat:=t.foldl (fun s i=>bif s.contains i then s else i :: s) s
def oD:List Oper->List (List Nat)->List (List Nat)
 | [],acc=>acc
 | o :: l,acc=>oD l (acc++[o.after.toList.foldl (fun s e=>bif Region.binds .any e then Ui s (e.on :: acc.getD e.on [])else s) []])
variable{i:Nat}{ks:List Nat}{bs:List (World×List Nat)}{v:Value}{s:List (Nat×Value)}{M K:Act->World->Prop}{L:List fT}{l':List Oper}{np:Bool}
section
variable {r:Option Nat} {P:Program} {ops:Array Oper} {Q:Exit->Act->World->Prop} {o x y:Oper} {a:Act} {w:World} {K K' : Act->World->Prop} {v u:Value}
def qH(P:Program)(ops:Array Oper)(o:Oper)(a:Act)(w:World):Prop:=wn ops o a=false\/∃ v,(execOp a.eval o).run P w = .ok (.value v) w/\a.put o.dst v=a
theorem abS(a:Act)(d:Option Tmp)(v u:Value):(a.put d v).put d u=a.put d u:=by
 cases d with
 | none=>rfl
 | some d=>simp[Act.put]
theorem abR{a:Act}{d e:Option Tmp}{v u:Value}(h:∀ i,d=some i->e≠some i)(f:(a.put d v).put e u=a.put d v):a.put e u=a:=by
 cases e with
 | none=>rfl
 | some e =>
  cases d with
  | none=>exact f
  | some d =>
   have l:d≠e:=fun c=>h d rfl (c▸rfl)
   simp only[Act.put]at f ⊢
   have j:=congrArg Act.tmps f
   simp only at j
   have k:a.tmps.setIfInBounds e u=a.tmps:=by
    apply Array.ext
    . simp
    . intro i m g
      rw[Array.getElem_setIfInBounds (by simpa using g)]
      split
      . rename_i c
        subst c
        have b:=congrArg (fun t:Array Value=>t[e]?) j
        simp only[L6,Array.size_setIfInBounds]at b
        rw[if_pos trivial,if_pos (by simpa using g),if_neg l]at b
        rw[uF (by simpa using g)]at b
        exact Option.some.inj b
      . rfl
   rw[k]
structure Aw (ops:Array Oper) (x k:Oper):Prop where
 xk:∀ d,x.dst=some d->d∉k.looksAt ops
 ne:∀ d,x.dst=some d->k.dst≠some d
 sk:rj k.op=true
theorem qH.put(h:Aw ops x o):qH P ops o (a.put x.dst v) w↔qH P ops o a w:=by
 have e:wn ops o (a.put x.dst v)=wn ops o a:=by unfold Go.Sx.wn;rw[wanted_put o a x.dst v h.xk]
 have d:execOp (a.put x.dst v).eval o=execOp a.eval o:=execOp_put o (Ki h.sk) a x.dst v h.xk
 unfold qH
 rw[e,d]
 constructor
 . rintro(b|⟨u,b,c⟩)
   . exact .inl b
   . exact .inr ⟨u,b,abR h.ne c⟩
 . rintro(b|⟨u,b,c⟩)
   . exact .inl b
   . exact .inr ⟨u,b,by rw[Act.put_comm a v u h.ne,c]⟩
def EV(ops:Array Oper)(x k:Oper):Bool:=rj k.op&&match x.dst with
 | none=>true
 | some d => !(k.looksAt ops).contains d && !(k.dst==some d)
theorem NI{x k:Oper}(h:EV ops x k=true):Aw ops x k:=by
 simp only[EV,nq]at h
 refine⟨fun d hd=>?_,fun d hd=>?_,h.1⟩<;>rw[hd]at h<;>simp at h
 . exact h.2.1
 . exact h.2.2
def tW(ops:Array Oper)(x k:Nat):Bool:=match ops[x]?,ops[k]? with
 | some x,some k=>EV ops x k
 | _,_=>true
theorem NJ{k:Nat}(h:tW ops i k=true)(hi:ops[i]? = some x)(hk:ops[k]? = some o):Aw ops x o:=by
 unfold tW at h;rw[hi,hk]at h;exact NI h
def jD(P:Program)(ops:Array Oper):List Nat->Act->World->Prop
 | [],_,_=>True
 | k :: ks,a,w=>(∀ o,ops[k]? = some o->qH P ops o a w)/\jD P ops ks a w
theorem vr:jD P ops ks a w↔∀ k∈ks,∀ o,ops[k]? = some o->qH P ops o a w:=by
 induction ks with
 | nil=>simp[jD]
 | cons k ks b=>simp[jD,b]
theorem jD.put(h:∀ k∈ks,∀ o,ops[k]? = some o->Aw ops x o):jD P ops ks (a.put x.dst v) w↔jD P ops ks a w:=by
 rw[vr,vr]
 exact⟨fun d k b o c=>(qH.put (h k b o c)).1 (d k b o c),fun d k b o c=>(qH.put (h k b o c)).2 (d k b o c)⟩
theorem adU{cs:List Nat}(h:Ap ops x y)(u:cat x.op=1)(hs:∀ d,x.dst=some d->d∉x.looksAt ops)(E:cat y.op=2\/cat y.op=3)(A:cat y.op=2->NP Q)(hi:ops[i]? = some x)(hc:i∈cs)(C:iA r P ops Q x (iA r P ops Q y (fun a w=>jD P ops cs a w/\K a w)) a w) :
 iA r P ops Q y (fun a w=>jD P ops (cs.filter fun k => !(k==i)&&tW ops i k) a w/\iA r P ops Q x K a w) a w:=by
 obtain⟨v,hv,f⟩:=C.get (.inr u)
 have B : ∀ k∈cs.filter (fun k => !(k==i)&&tW ops i k),∀ o,ops[k]? = some o->Aw ops x o:=fun k g o D=>by
  have g:=zy.1 g
  exact NJ (Bool.and_eq_true_iff.1 g.2).2 hi D
 have sub:∀ a' w', jD P ops cs (a'.put x.dst v) w' -> jD P ops (cs.filter fun k => !(k==i)&&tW ops i k) a' w' := fun a' w' q => by
  rw[<-jD.put (v:=v) B, vr]
  rw[vr]at q
  exact fun k g=>q k (zy.1 g).1
 have G:∀ a' : Act,wn ops x (a'.put x.dst v)=wn ops x a' := fun a' => by unfold Go.Sx.wn;rw[wanted_put x a' x.dst v hs]
 have F:∀ a' : Act,execOp (a'.put x.dst v).eval x=execOp a'.eval x:=fun a' => execOp_put x (Ki h.sx) a' x.dst v hs
 unfold iA at f
 rw[h.wn]at f
 have s:wn ops x a=false->Y0 P ops x v a:=fun e=>by
  rcases hv with hv|hv
  . exact hv
  . rw[hv.1]at e;cases e
 unfold iA
 split<;>rename_i t
 . rw[if_pos t]at f
   refine(h.act A E f).mono fun a' w' ⟨⟨m,j⟩,n⟩=>⟨sub a' w' m,?_⟩
   have c:=(vr.1 m) i hc x hi
   show iA r P ops Q x K a' w'
   rcases c with c|⟨v', c,p⟩
   . rw[G]at c
     have z:Y0 P ops x undef a' := .inr ⟨c,rfl⟩
     refine iA.mk (.inl z) ?_
     have b:wn ops x a=false:=n.2▸c
     rcases s b with ⟨l,_⟩|⟨_,rfl⟩
     . rw[l]at b;cases b
     . exact j
   . rw[F]at c
     cases b:wn ops x a' with
     | false =>
      refine iA.mk (v:=undef) (.inl (.inr ⟨b,rfl⟩)) ?_
      rw[n.2]at b
      rcases s b with ⟨l,_⟩|⟨_,rfl⟩
      . rw[l]at b;cases b
      . exact j
     | true =>
      refine iA.mk (v:=v') (.inr ⟨b,u,c⟩) ?_
      rw[abS]at p;rw[p];exact j
 . rw[if_neg t]at f
   refine⟨sub _ _ (by rw[<-h.lH];exact f.1),?_⟩
   refine iA.mk (v:=v) ?_ (by rw[<-h.lH];exact f.2)
   rw[h.symm.y0,h.symm.y1];exact hv
def lP(r:Option Nat)(P:Program)(ops:Array Oper)(Q:Exit->Act->World->Prop)(b:Nat×List Nat)(K:Act->World->Prop)(a:Act)(w:World):Prop :=
 match ops[b.1]? with
 | none=>K a w
 | some o=>iA r P ops Q o (fun a w=>jD P ops b.2 a w/\K a w) a w
def uC(r:Option Nat)(P:Program)(ops:Array Oper)(Q:Exit->Act->World->Prop):List (Nat×List Nat)->Act->World->Prop
 | [],a,w=>Q .normal a w
 | it :: l,a,w=>lP r P ops Q it (uC r P ops Q l) a w
theorem lP.mono{c:Nat×List Nat}(h:∀ a w,K a w->K' a w)(b:lP r P ops Q c K a w):lP r P ops Q c K' a w:=by
 unfold lP at *
 split<;>rename_i f<;>rw[f]at b
 . exact h _ _ b
 . exact b.mono fun a w ⟨d,e⟩=>⟨d,h _ _ e⟩
structure Cm (ops:Array Oper) (i:Nat) (ci:List Nat) (x:Oper) (c:List Nat) (y:Oper):Prop where
 ap:Ap ops x y
 k:(xP x.op y.op=true/\(Nat.ble (cat x.op) 1=true->ci=[])/\(Nat.ble (cat y.op) 1=true->c=[])/\(∀ k∈ci,∀ o,ops[k]? = some o->Aw ops y o)) \/
  (cat x.op=1/\(cat y.op=2\/cat y.op=3)/\i∈c/\(∀ d,x.dst=some d->d∉x.looksAt ops)/\ci=[])
theorem adT{l c:List Nat}(hc:Cm ops i l x c y)(hi:ops[i]? = some x)(t:cat x.op=2->NP Q)(q:cat y.op=2->NP Q)(s:iA r P ops Q x (fun a w=>jD P ops l a w/\iA r P ops Q y (fun a w=>jD P ops c a w/\K a w) a w) a w) :
 iA r P ops Q y (fun a w=>jD P ops (c.filter fun k => !(k==i)&&tW ops i k) a w/\iA r P ops Q x (fun a w=>jD P ops l a w/\K a w) a w) a w:=by
 obtain⟨h,j⟩:=hc
 rcases j with ⟨d,m,n,B⟩|⟨d,m,n,A,rfl⟩
 . have E:∀ o:Oper,Nat.ble (cat o.op) 1=true->cat o.op=0\/cat o.op=1:=fun o h=>by have:=qv h;omega
   by_cases hx:Nat.ble (cat x.op) 1=true
   . obtain rfl:=m hx
     have g:iA r P ops Q x (iA r P ops Q y (fun a w=>jD P ops c a w/\K a w)) a w:=s.mono fun a w h=>h.2
     refine(swap h d t q g).mono fun a w b=>?_
     obtain⟨v,hv,f,p⟩:=b.get (E x hx)
     refine⟨?_,iA.mk hv ⟨trivial,p⟩⟩
     rw[<-jD.put (x:=x) (v:=v) (fun k j o C=>NJ (Bool.and_eq_true_iff.1 (zy.1 j).2).2 hi C),vr]
     exact fun k j=>(vr.1 f) k (zy.1 j).1
   . have z:cat y.op=0:=by
      rcases E3 x.op with e|e|e|e<;>simp[xP,e]at d hx<;>exact d
     obtain rfl:=n (by rw[z];rfl)
     have g:iA r P ops Q x (iA r P ops Q y (fun a w=>jD P ops l a w/\K a w)) a w:=s.mono fun a w ⟨b,f⟩=>by
      obtain⟨u,D,_,p⟩:=f.get (.inl z)
      exact iA.mk D ⟨(jD.put B).2 b,p⟩
     exact(swap h d t q g).mono fun a w b=>⟨trivial,b⟩
 . have g:iA r P ops Q x (iA r P ops Q y (fun a w=>jD P ops c a w/\K a w)) a w:=s.mono fun a w h=>h.2
   exact(adU h d A m q hi n g).mono fun a w ⟨b,f⟩=>⟨b,f.mono fun a w h=>⟨trivial,h⟩⟩
theorem Cm.sub{g c c':List Nat}(h:Cm ops i g x c y)(hs:∀ k∈c', k∈c)(hi:cat x.op=1->i∈c->i∈c'):Cm ops i g x c' y:=by
 refine⟨h.ap,?_⟩
 rcases h.k with ⟨a,b,d,f⟩|⟨a,b,d,j,f⟩
 . refine .inl ⟨a,b,fun e=>?_,f⟩
   have:=d e
   subst this
   cases c' with
   | nil=>rfl
   | cons k c' => exact absurd (hs k zd) nr
 . exact .inr ⟨a,b,hi a d,j,f⟩
def CO(ops:Array Oper)(L:List (Nat×List Nat))(c:List Nat):List Nat:=c.filter fun k=>L.all fun z => !(k==z.1)&&tW ops z.1 k
theorem YL{a:Nat×List Nat}{L:List (Nat×List Nat)}{c:List Nat}:CO ops (a :: L) c=(CO ops L c).filter fun k => !(k==a.1)&&tW ops a.1 k:=by
 unfold CO
 rw[DV]
 refine uJ fun k _=>?_
 rw[List.all_cons]
def Kx(ops:Array Oper)(x z:Nat×List Nat):Prop:=(∀ o,ops[x.1]? = some o->cat o.op=1->tW ops z.1 x.1=true)
end
def Iq(ops:Array Oper)(x y:Oper):Bool:=rj x.op&&rj y.op&&qE x.op&&qE y.op&&x.apart ops y
theorem Uy{ops:Array Oper}{x y:Oper}(h:Iq ops x y=true):Ap ops x y:=by
 simp only[Iq,nq]at h
 obtain⟨⟨⟨⟨d,e⟩,f⟩,g⟩,i⟩:=h
 obtain⟨a,b,c⟩:=Oper.apart_spec i
 exact⟨a,b,c,d,e,f,g⟩
def NH(ops:Array Oper)(x:Oper)(c:List Nat):Bool:=c.all fun k=>match ops[k]? with|some o=>EV ops x o|none=>true
theorem UB{ops:Array Oper}{x:Oper}{c:List Nat}(h:NH ops x c=true):∀ k∈c,∀ o,ops[k]? = some o->Aw ops x o:=fun k a o b=>by
 have:=z6.1 h k a
 rw[b]at this
 exact NI this
def KY(ops:Array Oper)(x:Oper):Bool:=match x.dst with|some d => !(x.looksAt ops).contains d|none=>true
theorem ac6{ops:Array Oper}{x:Oper}(h:KY ops x=true):∀ d,x.dst=some d->d∉x.looksAt ops:=fun d hd=>by
 unfold KY at h;rw[hd]at h;simpa using h
def IT(ops:Array Oper)(i:Nat)(a:List Nat)(x:Oper)(c:List Nat)(y:Oper):Bool:=Iq ops x y&&bif xP x.op y.op then(!Nat.ble (cat x.op) 1||a.isEmpty)&&(!Nat.ble (cat y.op) 1||c.isEmpty)&&NH ops y a
 else Nat.beq (cat x.op) 1 && !Nat.ble (cat y.op) 1&&c.contains i&&KY ops x&&a.isEmpty
theorem VH{ops:Array Oper}{f c:List Nat}{x y:Oper}(h:IT ops i f x c y=true):Cm ops i f x c y:=by
 simp only[IT,nq]at h
 obtain⟨g,h⟩:=h
 refine⟨Uy g,?_⟩
 cases hk:xP x.op y.op with
 | true =>
  rw[hk]at h
  simp only[cond_true,nq,HI,Aa,List.isEmpty_iff]at h
  obtain⟨⟨a,b⟩,d⟩:=h
  refine .inl ⟨rfl,fun e=>?_,fun e=>?_,UB d⟩
  . rcases a with a|a
    . rw[e]at a;cases a
    . exact a
  . rcases b with a|a
    . rw[e]at a;cases a
    . exact a
 | false =>
  rw[hk]at h
  simp only[cond_false,nq,Aa,List.isEmpty_iff]at h
  obtain⟨⟨⟨⟨a,b⟩,j⟩,d⟩,k⟩:=h
  refine .inr ⟨BI a,?_,by simpa using j,ac6 d,k⟩
  rcases E3 y.op with e|e|e|e
  . rw[e]at b;cases b
  . rw[e]at b;cases b
  . exact .inl e
  . exact .inr e
def Gb(ops:Array Oper):List (Nat×List Nat)->Bool
 | []=>true
 | x :: l=>(match ops[x.1]? with
  | some o => !Nat.beq (cat o.op) 1||l.all fun z=>tW ops z.1 x.1
  | none=>true)&&Gb ops l
theorem Re{ops:Array Oper}:∀ (l:List (Nat×List Nat)),Gb ops l=true->l.Pairwise (Kx ops)
 | [],_=>List.Pairwise.nil
 | x :: l,h=>by
  simp only[Gb,nq]at h
  refine pn.2 ⟨fun z d o c b=>?_,Re l h.2⟩
  have a:=h.1
  rw[c]at a
  simp only[b,HI]at a
  rcases a with a|a
  . cases a
  . exact z6.1 a z d
theorem RY{α:Type}{x y:α}:∀ (l:List α),List.Sublist [x,y] l->∃ A B,l=A++y :: B/\x∈A
 | [],h=>by cases h
 | z :: l,h=>by
  cases h with
  | cons _ h =>
   obtain⟨A,B,rfl,a⟩:=RY l h
   exact⟨z :: A,B,rfl,zw _ a⟩
  | cons_cons _ h =>
   obtain⟨A,B,rfl⟩:=vI (tJ.1 h)
   exact⟨x :: A,B,rfl,zd⟩
section
variable {r:Option Nat} {P:Program} {ops:Array Oper} {Q:Exit->Act->World->Prop} {o x y:Oper} {a:Act} {w:World} {K K' : Act->World->Prop} {v u:Value}
def kQ(r:Option Nat)(P:Program)(ops:Array Oper)(Q:Exit->Act->World->Prop):List (Nat×List Nat)->(Act->World->Prop)->Act->World->Prop
 | [],K=>K
 | it :: l,K=>lP r P ops Q it (kQ r P ops Q l K)
theorem kQ.mono(h:∀ a w,K a w->K' a w):∀ (L:List (Nat×List Nat)) (a:Act) (w:World),kQ r P ops Q L K a w->kQ r P ops Q L K' a w
 | [],a,w,h1=>h a w h1
 | it :: L,a,w,h1=>lP.mono (kQ.mono h L) h1
theorem sI(L2:List (Nat×List Nat)):∀ (a:List (Nat×List Nat)),kQ r P ops Q (a++L2) K=kQ r P ops Q a (kQ r P ops Q L2 K)
 | []=>rfl
 | it :: a=>by
  show lP r P ops Q it (kQ r P ops Q (a++L2) K)=lP r P ops Q it _
  rw[sI L2 a]
theorem xe:∀ (L:List (Nat×List Nat)),uC r P ops Q L=kQ r P ops Q L (Q .normal)
 | []=>rfl
 | it :: L=>by
  funext a w
  show lP r P ops Q it (uC r P ops Q L) a w=lP r P ops Q it _ a w
  rw[xe L]
theorem Bj{j:Nat}{c:List Nat}(A:ops[j]? = some y):∀ (b:List (Nat×List Nat)) (a:Act) (w:World),(b.map (·.1)).Nodup->(c=[]\/b.Pairwise (Kx ops)) ->
 (∀ i∈b,∀ x,ops[i.1]? = some x->Cm ops i.1 i.2 x c y/\((cat x.op=2\/cat y.op=2)->NP Q)) ->
 kQ r P ops Q (b++[(j,c)]) K a w->iA r P ops Q y (fun a w=>jD P ops (CO ops b c) a w/\kQ r P ops Q b K a w) a w:=by
 intro b
 induction b with
 | nil =>
  intro a w _ _ _ h
  simp only[pg]at h ⊢
  unfold kQ lP at h
  simp only[A]at h
  refine h.mono fun a w ⟨d,g⟩=>⟨?_,g⟩
  rw[vr]at d ⊢
  exact fun k f=>d k (zy.1 f).1
 | cons i b C =>
  intro a w o m p h
  rw[l9,zz]at o
  have t := fun k f=>p k (zw _ f)
  simp only[nH]at h ⊢
  unfold kQ at h
  have d:=h.mono fun a w h=>C a w o.2 (m.imp_right fun h=>(pn.1 h).2) t h
  rw[YL]
  unfold lP at d
  split at d<;>rename_i l
  . refine d.mono fun a w ⟨g,n⟩=>⟨?_,?_⟩
    . rw[vr]at g ⊢
      exact fun k f=>g k (zy.1 f).1
    . unfold kQ lP;simp only[l];exact n
  . rename_i x
    obtain⟨v,q⟩:=p i zd x l
    have u:=v.sub (c' := CO ops b c) (fun k f=>(zy.1 f).1) (fun B hi=>zy.2 ⟨hi,z6.2 fun z s=>by
     have m:=m.resolve_left (fun e=>by rw[e]at hi;cases hi)
     rw[(pn.1 m).1 z s x l B,Bool.and_true]
     have:i.1≠z.1:=fun e=>o.1 (zq.2 ⟨z,s,e.symm⟩)
     simpa using this⟩)
    refine(adT u l (fun e=>q (.inl e)) (fun e=>q (.inr e)) d).mono fun a w ⟨g,n⟩=>⟨g,?_⟩
    unfold kQ lP;simp only[l];exact n
theorem T3(h:Y0 P ops o v a\/Y1 P ops o v a w)(b:Y0 P ops o u a\/Y1 P ops o u a w):v=u:=by
 have e:∀ {x y:Value},(Result.ok (Next.value x) w:Result Next) = .ok (.value y) w->x=y:=fun h=>by simpa using h
 rcases h with (⟨a1,a2,a3⟩|⟨a1,rfl⟩)|⟨a1,a2,a3⟩<;>rcases b with (⟨b1,b2,b3⟩|⟨b1,rfl⟩)|⟨b1,b2,b3⟩
 . exact e ((a3 w).symm.trans (b3 w))
 . rw[a1]at b1;cases b1
 . rw[a2]at b2;cases b2
 . rw[a1]at b1;cases b1
 . rfl
 . rw[a1]at b1;cases b1
 . rw[a2]at b2;cases b2
 . rw[a1]at b1;cases b1
 . exact e (a3.symm.trans b3)
theorem iA.all{ι:Type}{p:ι->Prop}{F:ι->Act->World->Prop}(hc:cat o.op=0\/cat o.op=1)(b:ι)(c:p b)(h:∀ t,p t->iA r P ops Q o (F t) a w):iA r P ops Q o (fun a w=>∀ t,p t->F t a w) a w:=by
 obtain⟨v,hv,_⟩:=(h b c).get hc
 refine iA.mk hv fun t ht=>?_
 obtain⟨u,e,d⟩:=(h t ht).get hc
 rw[T3 hv e]
 exact d
def WA(r:Option Nat)(P:Program)(ops:Array Oper)(Q:Exit->Act->World->Prop)(C:Nat->List Nat)(pre:List (List Nat))(I1:List (Nat×List Nat)):Nat->List Nat->Act->World->Prop
 | 0,_=>uC r P ops Q I1
 | k+1,A=>fun a w=>∀ f,f∈A/\(∀ g∈A,(pre.getD f []).contains g=false)->lP r P ops Q (f,C f) (WA r P ops Q C pre I1 k (A.filter fun g => !(g==f))) a w
theorem Q5{C:Nat->List Nat}{pre:List (List Nat)}{i:Nat}(hi:ops[i]? = some y)(v:cat y.op=0){c L2:List (Nat×List Nat)}(t:(c.map (·.1)).Nodup)
 (h1:∀ m∈c,∀ x,ops[m.1]? = some x->Cm ops m.1 m.2 x [] y/\((cat x.op=2\/cat y.op=2)->NP Q)) :
 ∀ (k:Nat) (A:List Nat) (a:Act) (w:World),A.length=k->A.Nodup->(∀ f∈A,∀ g∈(pre.getD f []),g<f)->(∀ f∈A,f≠i/\∀ x,ops[f]? = some x->Cm ops f (C f) x [] y/\((cat x.op=2\/cat y.op=2)->NP Q)) ->
 WA r P ops Q C pre (c++(i,[]) :: L2) k A a w->iA r P ops Q y (WA r P ops Q C pre (c++L2) k A) a w
 | 0,A,a,w,_,_,_,_,h=>by
  unfold WA at h ⊢
  rw[xe,show c++(i,[]) :: L2=(c++[(i,[])])++L2 by simp,sI]at h
  refine(Bj hi c a w t (.inl rfl) h1 h).mono fun a w h=>?_
  rw[xe,sI]
  exact h.2
 | k+1,A,a,w,hk,hA,hp,hc,h=>by
  unfold WA at h ⊢
  -- a least one
  obtain⟨d,p,E⟩:∃ d∈A,∀ g∈A,d<=g:=by
   have:∀ l:List Nat,l≠[]->∃ d∈l,∀ g∈l,d<=g:=by
    intro l
    induction l with
    | nil=>intro h;exact absurd rfl h
    | cons z l o =>
     intro _
     by_cases e:l=[]
     . subst e;exact⟨z,zd,fun g b=>by rw[k7.1 b];exact zm _⟩
     . obtain⟨f,h1,j⟩:=o e
       by_cases q:z<=f
       . exact⟨z,zd,fun g b=>(zg.1 b).elim (fun e=>by rw[e];exact zm _) fun b=>mF q (j g b)⟩
       . exact⟨f,zw _ h1,fun g b=>(zg.1 b).elim (fun e=>by omega) (j g)⟩
   exact this A (fun e=>by rw[e]at hk;cases hk)
  refine iA.all (.inl v) d ⟨p,fun g b=>?_⟩ fun f n=>?_
  . cases hb:(pre.getD d []).contains g with
    | false=>rfl
    | true=>have:=hp d p g (by simpa using hb);have:=E g b;omega
  . have j:=h f n
    have D:(A.filter fun g => !(g==f)).length=k:=by
     have:(A.filter fun g => !(g==f))=A.erase f:=by rw[List.Nodup.erase_eq_filter hA];rfl
     rw[this,DL n.1];omega
    have u:∀ g∈A.filter (fun g => !(g==f)),g∈A:=fun g b=>(zy.1 b).1
    have o:=fun a w=>Q5 (L2:=L2) hi v t h1 k (A.filter fun g => !(g==f)) a w D (hA.sublist oI) (fun g b=>hp g (u g b)) (fun g b=>hc g (u g b))
    have B:=j.mono o
    have F:kQ r P ops Q ([(f,C f)]++[(i,[])]) (WA r P ops Q C pre (c++L2) k (A.filter fun g => !(g==f))) a w:=by
     refine B.mono fun a w h=>?_
     show lP r P ops Q (i,[]) _ a w
     unfold lP
     simp only[hi]
     exact h.mono fun a w h=>⟨trivial,h⟩
    refine(Bj hi [(f,C f)] a w s_ (.inl rfl) (fun m s x G=>?_) F).mono fun a w h=>h.2
    rw[k7]at s
    subst s
    exact(hc f n.1).2 x G
end
def Fv(np:Bool)(ops:Array Oper)(pre:List (List Nat))(A:List Nat):List (Nat×List Nat)->List (Nat×List Nat)->Bool
 | _,[]=>true
 | before,it :: l=>(match ops[it.1]? with
  | none=>true
  | some y=>before.all fun a=>(A.contains a.1&&A.contains it.1)||(pre.getD it.1 []).contains a.1||match ops[a.1]? with
   | none=>true
   | some x=>IT ops a.1 a.2 x it.2 y&&(np || !(Nat.beq (cat x.op) 2||Nat.beq (cat y.op) 2)))&&Fv np ops pre A (before++[it]) l
theorem O7{np:Bool}{ops:Array Oper}{pre:List (List Nat)}{A:List Nat}:∀ (l before:List (Nat×List Nat)),Fv np ops pre A before l=true->∀ c b g,l=c++b :: g->∀ a∈before++c,∀ x y,ops[a.1]? = some x->ops[b.1]? = some y ->
 ((a.1∈A/\b.1∈A)\/(pre.getD b.1 []).contains a.1=true)\/Cm ops a.1 a.2 x b.2 y/\((cat x.op=2\/cat y.op=2)->np=true)
 | [],before,_,c,b,g,e,a,hxi,x,y,hx,hy=>by simp at e
 | z :: l,before,h,c,b,g,e,a,hxi,x,y,hx,hy=>by
  simp only[Fv,nq]at h
  cases c with
  | nil =>
   simp only[pg,List.cons.injEq]at e
   obtain⟨rfl,rfl⟩:=e
   have i:=h.1
   rw[hy]at i
   have j:=z6.1 i a (by simpa using hxi)
   rw[hx]at j
   rcases BQ.1 j with d|d
   . rcases BQ.1 d with f|f
     . rw[nq]at f
       exact .inl (.inl ⟨by simpa using f.1,by simpa using f.2⟩)
     . exact .inl (.inr f)
   . rw[nq]at d
     refine .inr ⟨VH d.1,fun e=>?_⟩
     cases np with
     | true=>rfl
     | false=>rcases e with e|e<;>simp[e]at d
  | cons k c =>
   simp only[nH,List.cons.injEq]at e
   obtain⟨rfl,rfl⟩:=e
   exact O7 _ (before++[z]) h.2 c b g rfl a (by simpa using hxi) x y hx hy
def C4(np:Bool)(l:List Oper)(b:List (Nat×List Nat))(A:List Nat)(C:Nat->List Nat)(I1:List (Nat×List Nat)):Bool :=
 let p:=oD l [];let fQ:=b++(A.map fun f=>(f,C f))++I1
 Q2 l p&&(l.zipIdx.all fun q=>q.1.after.toList.all fun e => !Region.binds .any e||decide (e.on<q.2))&&Fv np l.toArray p A [] fQ&&decide ((fQ.map (·.1)).Nodup)&&((List.range l.length).all fun i=>(fQ.map (·.1)).contains i)&&Nat.ble fQ.length l.length&&(fQ.all fun a=>decide (a.1<l.length))&&((fQ.all fun a=>a.2.isEmpty)||Gb l.toArray (b++I1)) &&
  (A.all fun f=>(p.getD f []).all fun g=>decide (g<f))&&(I1.all fun a=>A.isEmpty||(A.all fun f=>(p.getD a.1 []).contains f)||(a.2.isEmpty&&match l[a.1]? with|some o=>Nat.beq (cat o.op) 0|none=>false))
section
variable {r:Option Nat} {P:Program} {Q:Exit->Act->World->Prop} {l:List Oper} {a:Act} {w:World}
theorem KG{id:Nat}(s:List (Nat×List Nat))(A:List Nat)(C:Nat->List Nat)(I1:List (Nat×List Nat))(hm:P.follows .mixedOrders=true)(aG:C4 np l s A C I1=true)(hN:np=false\/NP Q)(h:kQ r P l.toArray Q s (WA r P l.toArray Q C (oD l []) I1 A.length A) a w.drew):WP r P (.region id l.toArray true) Q a w:=by
 simp only[C4,nq]at aG
 obtain⟨⟨⟨⟨⟨⟨⟨⟨⟨ba,aT⟩,a9⟩,ah⟩,aU⟩,aV⟩,am⟩,bc⟩,a8⟩,aP⟩:=aG
 have ah:=of_decide_eq_true ah
 have aQ : np=true->NP Q:=fun e=>hN.elim (fun h=>by rw[h]at e;cases e) fun h=>h
 have u6:∀ (j:Nat) (o:Oper),l[j]? = some o->∀ e∈o.after,Region.binds .any e=true->e.on<j:=by
  intro j o O e T hb
  have u:=z6.1 aT (o,j) (by rw[List.mem_zipIdx_iff_getElem?];exact O)
  have F:=z6.1 u e (by simpa using T)
  simpa[hb]using F
 have aI:∀ f∈A,∀ g∈(oD l []).getD f [],g<f:=fun f G g hg=>by
  have:=z6.1 (z6.1 a8 f G) g hg
  exact of_decide_eq_true this
 have aN:(s++(A.map fun f=>(f,C f))++I1).map (·.1)=s.map (·.1)++A++I1.map (·.1):=by
  rw[nt,nt,xw]
  congr 2
  exact List.map_id'' (fun _=>rfl) A
 generalize ab:s++(A.map fun f=>(f,C f))++I1=fQ at *
 rw[aN]at ah
 have ad:=zr.1 ah
 have ag:=zr.1 ad.1
 have nA:=ag.2.1
 have aa:∀ m∈s,m.1∉A:=fun m t hA=>ag.2.2 m.1 (zq.2 ⟨m,t,rfl⟩) m.1 hA rfl
 have ay:∀ m∈I1,m.1∉A:=fun m t hA=>ad.2.2 m.1 (zn.2 (.inr hA)) m.1 (zq.2 ⟨m,t,rfl⟩) rfl
 have ae:∀ x∈s,∀ z∈I1,x.1≠z.1:=fun x E z J=>ad.2.2 x.1 (zn.2 (.inl (zq.2 ⟨x,E,rfl⟩))) z.1 (zq.2 ⟨z,J,rfl⟩)
 have s0:List.Sublist s fQ:=ab▸(uG s _).trans (uG _ I1)
 have au:List.Sublist (s++I1) fQ:=ab▸(uG s _).append (List.Sublist.refl I1)
 have av:List.Sublist (s++A.map fun f=>(f,C f)) fQ:=ab▸uG _ I1
 have bj:List.Sublist ((A.map fun f=>(f,C f))++I1) fQ:=by rw[<-ab,z7];exact Ma _ _
 refine wpIn_region_any hm ?_
 have bk:l.toArray.size=l.length:=by simp
 let B:Array Bool->Nat->Bool:=fun b i=>b.getD i false
 let n:Array Bool->List (Nat×List Nat)->List (Nat×List Nat):=fun b L=>L.filter fun m => !B b m.1
 let y:Array Bool->List Nat:=fun b=>A.filter fun f => !B b f
 have bg:∀ (fuel:Nat) (b:Array Bool) (a:Act) (w:World),b.size=l.length->(n b fQ).length<=fuel->Down l (B b) ->
  kQ r P l.toArray Q (n b s) (WA r P l.toArray Q C (oD l []) (n b I1) (y b).length (y b)) a w ->
  wpAnyIn (FW r) 0 P .any l.toArray Q fuel b a w:=by
  intro fuel
  have has:∀ (b:Array Bool),b.size=l.length->∀ i,i∈Region.ready .any l.toArray b->B b i=false/\∃ c,(i,c)∈n b fQ:=by
   intro b hs i hi
   obtain⟨u,o,I,_⟩:=mem_ready.1 hi
   have al:i<l.length:=by simpa using(rG.1 I).1
   have F:=z6.1 aU i (l8.2 al)
   obtain⟨m,H,h4⟩:=zq.1 (show i∈fQ.map (·.1) by simpa using F)
   have a0 : i<b.size:=by omega
   have hS:B b i=false:=by
    simp only[B]
    simp[a0]at u ⊢
    exact u
   refine⟨hS,m.2,?_⟩
   subst h4
   exact zy.2 ⟨H,by rw[hS];rfl⟩
  have bi:∀ (b:Array Bool),b.size=l.length->Region.ready .any l.toArray b=[]->∀ i,i<l.length->B b i=true:=by
   intro b hs M i
   induction i using Nat.strongRecOn with
   | _ i ih =>
    intro hi
    cases S:B b i with
    | true=>rfl
    | false =>
     exfalso
     have:i∈Region.ready .any l.toArray b:=by
      rw[mem_ready]
      refine⟨?_,l[i],by simp[hi],fun e T hb=>?_⟩
      . have:i<b.size:=by omega
        simp only[B]at S
        simp[this]at S ⊢
        exact S
      . have F:=u6 i l[i] (z8 hi) e T hb
        exact ih e.on F o_
     rw[M]at this
     cases this
  have az:∀ (b:Array Bool) (a:Act) (w:World),b.size=l.length->Region.ready .any l.toArray b=[] ->
   kQ r P l.toArray Q (n b s) (WA r P l.toArray Q C (oD l []) (n b I1) (y b).length (y b)) a w->Q .normal a w:=by
   intro b a w hs M h
   have u:=bi b hs M
   have lt:∀ m∈fQ,m.1<l.length:=fun m t=>of_decide_eq_true (z6.1 am m t)
   have e0:n b s=[]:=DO.2 fun m t=>by rw[u m.1 (lt m (s0.subset t))];decide
   have e1:n b I1=[]:=DO.2 fun m t=>by rw[u m.1 (lt m (au.subset (zn.2 (.inr t))))];decide
   have eA:y b=[]:=DO.2 fun f G=>by rw[u f (lt (f,C f) (av.subset (zn.2 (.inr (zq.2 ⟨f,G,rfl⟩)))))];decide
   rw[e0,e1,eA]at h
   exact h
  induction fuel with
  | zero =>
   intro b a w hs S hd h
   have T:n b fQ=[]:=vD o_
   have M:Region.ready .any l.toArray b=[]:=by
    cases M:Region.ready .any l.toArray b with
    | nil=>rfl
    | cons i rs =>
     exfalso
     obtain⟨_,c,S⟩:=has b hs i (by rw[M];simp)
     rw[T]at S
     cases S
   exact⟨M,az b a w hs M h⟩
  | succ fuel ih =>
   intro b a w hs S hd h
   refine⟨fun M=>az b a w hs M h,fun i hi=>?_⟩
   obtain⟨ai,c,aE⟩:=has b hs i hi
   obtain⟨bl,o,I,aX⟩:=mem_ready.1 hi
   have aq : l[i]? = some o:=by simpa using I
   have al:i<l.length:=(zt.1 aq).1
   have a2 : i<b.size:=by omega
   have R : ∀ j,B (b.setIfInBounds i true) j=(B b j||j==i):=fun j=>Xu b i j a2
   have aB : Down l (B (b.setIfInBounds i true)):=⟨fun j oj O aA e T hb=>by
    rw[R]at aA ⊢
    rcases BQ.1 aA with h|h
    . rw[show B b e.on=true from hd.closed j oj O h e T hb];rfl
    . have:j=i:=by simpa using h
      subst this
      have:oj=o:=Option.some.inj (O.symm.trans aq)
      subst this
      rw[show B b e.on=true from aX e T hb];rfl⟩
   have a7:(n (b.setIfInBounds i true) fQ).length<=fuel:=by
    obtain⟨v,L2,D⟩:=vI aE
    have e1:n (b.setIfInBounds i true) fQ=(n b fQ).filter fun m => !(m.1==i):=by
     simp only[n,DV]
     refine uJ fun m _=>?_
     rw[R]
     cases B b m.1<;>cases (m.1==i)<;>rfl
    have:(n (b.setIfInBounds i true) fQ).length<(n b fQ).length:=by
     rw[e1,D,zT,tL]
     simp only[BEq.rfl,Bool.not_true,HB,if_false,zo,zh]
     have u:=zW (fun m:Nat×List Nat => !(m.1==i)) v
     have F:=zW (fun m:Nat×List Nat => !(m.1==i)) L2
     omega
    omega
   -- what is ahead of m must not be b
   have free:∀ j,(oD l []).getD i [] |>.contains j->j≠i->B b j=true:=fun j O a5=>by
    have:=abJ ba aB i (by rw[R];simp) al j O
    rw[R]at this
    rcases BQ.1 this with h|h
    . exact h
    . exact absurd (by simpa using h) a5
   have lH:∀ (N:Nat×List Nat) (d:List Nat),List.Sublist [N,(i,d)] fQ->B b N.1=false->¬ (N.1∈A/\i∈A)->N.1≠i->∀ x,l.toArray[N.1]? = some x->Cm l.toArray N.1 N.2 x d o/\((cat x.op=2\/cat o.op=2)->NP Q):=by
    intro N d bd aR aO bf x E
    obtain⟨X,Y,aS,am⟩:=RY fQ bd
    rcases O7 fQ [] a9 X (i,d) Y aS N (by simpa using am) x o E I with (u|u)|u
    . exact absurd u aO
    . have:=free N.1 u bf
      rw[aR]at this
      cases this
    . exact⟨u.1,fun e=>aQ (u.2 e)⟩
   have pw:∀ (d:List Nat) (L:List (Nat×List Nat)),(i,d)∈fQ->List.Sublist L (s++I1)->d=[]\/L.Pairwise (Kx l.toArray):=fun d L hd D=>by
    rcases BQ.1 bc with h0|h0
    . exact .inl (by simpa using z6.1 h0 (i,d) hd)
    . exact .inr ((Re (s++I1) h0).sublist D)
   have key:iA r P l.toArray Q o (kQ r P l.toArray Q (n (b.setIfInBounds i true) s) (WA r P l.toArray Q C (oD l []) (n (b.setIfInBounds i true) I1) (y (b.setIfInBounds i true)).length (y (b.setIfInBounds i true)))) a w:=by
    have same:∀ L:List (Nat×List Nat),(∀ m∈L,m.1≠i)->n (b.setIfInBounds i true) L=n b L:=fun L D=>uJ fun m t=>by
     rw[R]
     have:(m.1==i)=false:=by simpa using D m t
     rw[this,Bool.or_false]
    have aM:i∉A->y (b.setIfInBounds i true)=y b:=fun hA=>uJ fun f G=>by
     rw[R]
     have:(f==i)=false:=by simpa using fun e:f=i=>hA (e▸G)
     rw[this,Bool.or_false]
    have cut:∀ (L v L2:List (Nat×List Nat)) (d:List Nat),(L.map (·.1)).Nodup->n b L=v++(i,d) :: L2->n (b.setIfInBounds i true) L=v++L2/\∀ m∈v,m.1≠i:=fun L v L2 d hn D=>by
     have ao:((n b L).map (·.1)).Nodup:=(oI.map _).nodup hn
     rw[D]at ao
     simp only[nt,l9]at ao
     have aF:=zr.1 ao
     have aD:∀ m∈v,m.1≠i:=fun m t e=>aF.2.2 m.1 (zq.2 ⟨m,t,rfl⟩) i zd e
     have a1:∀ m∈L2,m.1≠i:=fun m t e=>(zz.1 aF.2.1).1 (zq.2 ⟨m,t,e⟩)
     refine⟨?_,aD⟩
     have e1:n (b.setIfInBounds i true) L=(n b L).filter fun m => !(m.1==i):=by
      simp only[n,DV]
      refine uJ fun m _=>?_
      rw[R]
      cases B b m.1<;>cases (m.1==i)<;>rfl
     rw[e1,D,zT,tL]
     simp only[BEq.rfl,Bool.not_true,HB,if_false]
     rw[qN.2 (fun m t=>by have:=aD m t;simpa using this),qN.2 (fun m t=>by have:=a1 m t;simpa using this)]
    have V:∀ {L:List (Nat×List Nat)} {m:Nat×List Nat},m∈n b L->m∈L/\B b m.1=false:=fun h=>⟨(zy.1 h).1,by simpa using(zy.1 h).2⟩
    have pL:((n b s).map (·.1)).Nodup:=(oI.map _).nodup ag.1
    have aJ:((n b I1).map (·.1)).Nodup:=(oI.map _).nodup ad.2.1
    have af:=(V aE).1
    rw[<-ab]at af
    rcases zn.1 af with af|U
    . rcases zn.1 af with ac|an
      . -- ahead of all
        have G:(i,c)∈n b s:=zy.2 ⟨ac,by rw[ai];rfl⟩
        obtain⟨v,L2,D⟩:=vI G
        obtain⟨aj,ap⟩:=cut s v L2 c ag.1 D
        have aH:List.Sublist (v++(i,c) :: L2) s:=D▸oI
        rw[D,show v++(i,c) :: L2=(v++[(i,c)])++L2 by simp,sI]at h
        refine(Bj I v a w ?_ (pw c v (s0.subset ac) (((uG v _).trans aH).trans (uG s I1))) (fun m t x E=>?_) h).mono fun a w h=>?_
        . rw[D]at pL
          rw[nt]at pL
          exact(zr.1 pL).1
        . have a3:m∈n b s:=by rw[D];exact sN _ t
          refine lH m c (List.Sublist.trans ?_ (aH.trans s0)) (V a3).2 (fun e=>aa (i,c) ac e.2) (ap m t) x E
          exact List.Sublist.append (tJ.2 t) (tJ.2 zd)
        . rw[aj,same I1 (fun z J=>(ae (i,c) ac z J).symm),aM (aa (i,c) ac),sI]
          exact h.2
      . -- one of those in any order
        obtain⟨f,K,aY⟩:=zq.1 an
        obtain⟨rfl,rfl⟩:f=i/\C f=c:=by simpa using aY
        have ak:f∈y b:=zy.2 ⟨K,by rw[ai];rfl⟩
        obtain⟨k,hk⟩:∃ k,(y b).length=k+1:=⟨(y b).length-1,by have:=Hq ak;omega⟩
        have eA:y (b.setIfInBounds f true)=(y b).filter fun g => !(g==f):=by
         simp only[y,DV]
         refine uJ fun g _=>?_
         rw[R]
         cases B b g<;>cases (g==f)<;>rfl
        have a6:((y b).filter fun g => !(g==f)).length=k:=by
         have e:((y b).filter fun g => !(g==f))=(y b).erase f:=by rw[List.Nodup.erase_eq_filter (nA.sublist oI)];rfl
         rw[e,DL ak,hk]
         rfl
        rw[hk]at h
        have F:kQ r P l.toArray Q (n b s++[(f,C f)]) (WA r P l.toArray Q C (oD l []) (n b I1) k ((y b).filter fun g => !(g==f))) a w:=by
         rw[sI]
         refine kQ.mono (fun a w h=>?_) _ _ _ h
         unfold WA at h
         refine h f ⟨ak,fun g hg=>?_⟩
         cases hb:((oD l []).getD f []).contains g with
         | false=>rfl
         | true =>
          have u:=aI f K g (by simpa using hb)
          have F:=free g hb o_
          have H:=(zy.1 hg).2
          rw[F]at H
          cases H
        refine(Bj I (n b s) a w pL (pw (C f) _ (av.subset (zn.2 (.inr an))) (oI.trans (uG s I1))) (fun m t x E=>?_) F).mono fun a w h=>?_
        . have Z:=(V t).1
          refine lH m (C f) (List.Sublist.trans ?_ av) (V t).2 (fun e=>aa m Z e.1) (fun e=>aa m Z (e▸K)) x E
          exact List.Sublist.append (tJ.2 Z) (tJ.2 an)
        . rw[same s (fun z J e=>aa z J (e▸K)),same I1 (fun z J e=>ay z J (e▸K)),eA,a6]
          exact h.2
    . -- behind them
      have G:(i,c)∈n b I1:=zy.2 ⟨U,by rw[ai];rfl⟩
      obtain⟨v,L2,D⟩:=vI G
      obtain⟨aj,ap⟩:=cut I1 v L2 c ad.2.1 D
      have W:i∉A:=ay (i,c) U
      have ar:List.Sublist (v++(i,c) :: L2) I1:=D▸oI
      have aK:(v.map (·.1)).Nodup:=by
       rw[D,nt]at aJ
       exact(zr.1 aJ).1
      have aL:List.Sublist I1 fQ:=(Ma s I1).trans au
      have ax:∀ m∈v,∀ x,l.toArray[m.1]? = some x->Cm l.toArray m.1 m.2 x c o/\((cat x.op=2\/cat o.op=2)->NP Q):=fun m t x E=>by
       have a4:m∈n b I1:=by rw[D];exact sN _ t
       refine lH m c (List.Sublist.trans ?_ (ar.trans aL)) (V a4).2 (fun e=>W e.2) (ap m t) x E
       exact List.Sublist.append (tJ.2 t) (tJ.2 zd)
      have aw:∀ m∈n b s,∀ x,l.toArray[m.1]? = some x->Cm l.toArray m.1 m.2 x c o/\((cat x.op=2\/cat o.op=2)->NP Q):=fun m t x E=>by
       have Z:=(V t).1
       refine lH m c (List.Sublist.trans ?_ au) (V t).2 (fun e=>W e.2) (ae m Z (i,c) U) x E
       exact List.Sublist.append (tJ.2 Z) (tJ.2 U)
      rw[same s (fun z J=>ae z J (i,c) U),aM W,aj]
      by_cases hA0:y b=[]
      . rw[hA0]at h ⊢
        change kQ r P l.toArray Q (n b s) (uC r P l.toArray Q (n b I1)) a w at h
        show iA r P l.toArray Q o (kQ r P l.toArray Q (n b s) (uC r P l.toArray Q (v++L2))) a w
        rw[D,xe,<-sI,show n b s++(v++(i,c) :: L2)=((n b s++v)++[(i,c)])++L2 by simp,sI]at h
        refine(Bj I (n b s++v) a w ?_ (pw c _ (aL.subset U) (oI.append ((uG v _).trans ar))) (fun m t x E=>(zn.1 t).elim (fun h=>aw m h x E) fun h=>ax m h x E) h).mono fun a w h=>?_
        . rw[nt]
          refine zr.2 ⟨pL,aK,fun x E z J e=>?_⟩
          obtain⟨p,hp,rfl⟩:=zq.1 E
          obtain⟨q,hq,rfl⟩:=zq.1 J
          exact ae p (V hp).1 q (ar.subset (sN _ hq)) e
        . rw[xe,<-sI,<-z7,sI]
          exact h.2
      . obtain⟨f,aC⟩:=Hx _ hA0
        have K:=(zy.1 aC).1
        have bb:c=[]/\cat o.op=0:=by
         have u:=z6.1 aP (i,c) U
         simp only[HI]at u
         rcases u with (u|u)|u
         . rw[List.isEmpty_iff]at u
           rw[u]at K
           cases K
         . exfalso
           have F:=z6.1 u f K
           have H:=free f F (fun e=>W (e▸K))
           have h4:=(zy.1 aC).2
           rw[H]at h4
           cases h4
         . rw[nq]at u
           have F:=u.2
           simp only[aq]at F
           exact⟨by simpa using u.1,BI F⟩
        obtain⟨rfl,aW⟩:=bb
        rw[D]at h
        have F:kQ r P l.toArray Q (n b s++[(i,[])]) (WA r P l.toArray Q C (oD l []) (v++L2) (y b).length (y b)) a w:=by
         rw[sI]
         refine kQ.mono (fun a w h=>?_) _ _ _ h
         show lP r P l.toArray Q (i,[]) _ a w
         unfold lP
         simp only[I]
         refine(Q5 (L2:=L2) I aW aK ax (y b).length (y b) a w rfl (nA.sublist oI) (fun f G=>aI f (zy.1 G).1) (fun f G=>⟨fun e=>W (e▸(zy.1 G).1),fun x E=>?_⟩) h).mono fun a w h=>⟨trivial,h⟩
         have aZ:(f,C f)∈A.map fun f=>(f,C f):=zq.2 ⟨f,(zy.1 G).1,rfl⟩
         refine lH (f,C f) [] (List.Sublist.trans ?_ bj) (by simpa using(zy.1 G).2) (fun e=>W e.2) (fun e=>W (e▸(zy.1 G).1)) x E
         exact List.Sublist.append (tJ.2 aZ) (tJ.2 U)
        exact(Bj I (n b s) a w pL (.inl rfl) aw F).mono fun a w h=>h.2
   have H:iA r P l.toArray Q o (wpAnyIn (FW r) 0 P .any l.toArray Q fuel (b.setIfInBounds i true)) a w :=
    key.mono fun a' w' h=>ih (b.setIfInBounds i true) a' w' (by simpa using hs) a7 aB h
   unfold wpOpIn
   rw[I]
   unfold iA at H
   show if Region.wanted o (yielded l.toArray a.tmps)=true then _ else _
   split<;>rename_i hw
   . rw[if_pos (show wn l.toArray o a=true from hw)]at H
     exact⟨fun _ _=>trivial,H.upon⟩
   . rw[if_neg (show ¬ wn l.toArray o a=true from hw)]at H
     exact⟨fun _ _=>trivial,H⟩
 have none:∀ L:List (Nat×List Nat),n (Array.replicate l.toArray.size false) L=L:=fun L=>by
  simp only[n,qN]
  intro m _
  show (!B (Array.replicate l.toArray.size false) m.1)=true
  simp only[B,Jh]
  rfl
 have bh:y (Array.replicate l.toArray.size false)=A:=by
  simp only[y,qN]
  intro f _
  show (!B (Array.replicate l.toArray.size false) f)=true
  simp only[B,Jh]
  rfl
 refine bg _ _ a _ s_ (by rw[none];simpa using qv aV) ⟨fun j o _ O=>?_⟩ (by rw[none,none,bh];exact h)
 simp only[B,Jh]at O
 cases O
end
abbrev okF(np:Bool)(l:List Oper)(fQ:List (Nat×List Nat)):Bool:=C4 np l fQ [] (fun _=>[]) []
section
variable {r:Option Nat} {P:Program} {Q:Exit->Act->World->Prop} {l:List Oper} {a:Act} {w:World}
def vo:List Oper->Nat->Option Oper
 | [],_=>none
 | o :: _,0=>some o
 | _ :: l,n+1=>vo l n
theorem F1:∀ (l:List Oper) (n:Nat),vo l n=l[n]?
 | [],n=>by simp[vo]
 | o :: l,0=>rfl
 | o :: l,n+1=>by simpa[vo]using F1 l n
def pick(l:List Oper):List Nat->List Oper
 | []=>[]
 | i :: is=>match vo l i with
  | some o=>o :: pick l is
  | none=>pick l is
def ng(c:List Nat):List Nat->List (Nat×List Nat)
 | []=>[]
 | [i]=>[(i,c)]
 | i :: is=>(i,[]) :: ng c is
def yX(last:List Nat):List (List Nat×List Nat)->List (Nat×List Nat)
 | []=>ng [] last
 | (is,c) :: rest=>ng c is++yX last rest
def WS(r:Option Nat)(P:Program)(l:List Oper)(Q:Exit->Act->World->Prop)(last:List Nat):List (List Nat×List Nat)->Act->World->Prop
 | [],a,w=>WL r P l.toArray Q (pick l last) a w
 | (is,c) :: rest,a,w=>WL r P l.toArray (Exit.then (fun a w=>jD P l.toArray c a w/\WS r P l Q last rest a w) Q) (pick l is) a w
theorem RX{ops:Array Oper}{o:Oper}(h:ku r P (Exit.then M Q) o K a w):ku r P Q o K a w:=by
 unfold ku at h ⊢
 split<;>rename_i f<;>simp only[f]at h
 . exact h
 . exact h
 . exact h
 . revert h
   generalize (o.semAt r a.eval).run P w=res
   intro b
   have d:LetsOut (Exit.then M Q)->LetsOut Q:=fun⟨a,w,h⟩=>⟨a,w,h⟩
   cases res with
   | ok nx w' =>
    cases nx<;>simp only[Oper.uponIn]at b ⊢ <;> first
     | exact b
     | exact⟨b.1,CallsIn.mono b.2 (fun e g c=>by cases e<;>first|exact c|exact d c)⟩
     | exact⟨b.1,RoundIn.mono b.2 (fun e g c=>by cases e<;>first|exact c|exact d c)⟩
   | halt x w' => cases x<;>simp only[Oper.uponIn]at b ⊢ <;> exact b
theorem Gm{c:List Nat}:∀ (is:List Nat) (a:Act) (w:World),wl r P l.toArray (Exit.then (fun a w=>jD P l.toArray c a w/\M a w) Q) (pick l is) a w->kQ r P l.toArray Q (ng c is) M a w:=by
 intro is
 induction is with
 | nil=>intro a w h;exact h.2
 | cons i is d =>
  intro a w h
  have e:l.toArray[i]? = vo l i:=by rw[F1];simp
  cases is with
  | nil =>
   simp only[ng]
   unfold kQ lP
   simp only[e]
   unfold pick at h
   cases ho:vo l i with
   | none=>rw[ho]at h;exact h.2
   | some o =>
    simp only[ho]at h
    rw[LV]at h
    show iA r P l.toArray Q o _ a w
    unfold iA at h ⊢
    split<;>rename_i b
    . rw[if_pos b]at h
      exact(RX (ops:=l.toArray) h).mono fun a w h=>⟨h.1,h.2⟩
    . rw[if_neg b]at h
      exact⟨h.1,h.2⟩
  | cons f is =>
   simp only[ng]
   unfold kQ lP
   simp only[e]
   unfold pick at h
   cases ho:vo l i with
   | none=>rw[ho]at h;exact d a w h
   | some o =>
    simp only[ho]at h
    rw[LV]at h
    show iA r P l.toArray Q o _ a w
    unfold iA at h ⊢
    split<;>rename_i b
    . rw[if_pos b]at h
      exact(RX (ops:=l.toArray) h).mono fun a w h=>⟨trivial,d a w h⟩
    . rw[if_neg b]at h
      exact⟨trivial,d _ w h⟩
theorem RC{c:List Nat}{rest:List (Nat×List Nat)}(b:∀ a w,M a w->uC r P l.toArray Q rest a w)(is:List Nat)(a:Act)(w:World)(h:wl r P l.toArray (Exit.then (fun a w=>jD P l.toArray c a w/\M a w) Q) (pick l is) a w):uC r P l.toArray Q (ng c is++rest) a w:=by
 rw[xe,sI]
 exact kQ.mono (fun a w h=>by have:=b a w h;rw[xe]at this;exact this) _ _ _ (Gm is a w h)
theorem Sn{r:Option Nat}{ops:Array Oper}:∀ (l:List Oper) (a:Act) (w:World),wl r P ops Q l a w->wl r P ops (Exit.then (fun a w=>jD P ops [] a w/\Q .normal a w) Q) l a w
 | [],a,w,h=>⟨trivial,h⟩
 | o :: l,a,w,h=>by
  rw[LV]at h ⊢
  have h:=h.mono (Sn l)
  unfold iA at h ⊢
  split<;>rename_i f
  . rw[if_pos f]at h
    unfold ku at h ⊢
    split<;>rename_i g<;>simp only[g]at h
    . exact h
    . exact h
    . exact h
    . revert h
      generalize (o.semAt r a.eval).run P w=res
      intro b
      have d:LetsOut Q->LetsOut (Exit.then (fun a w=>jD P ops [] a w/\Q .normal a w) Q):=fun⟨a,w,h⟩=>⟨a,w,h⟩
      cases res with
      | ok nx w' =>
       cases nx<;>simp only[Oper.uponIn]at b ⊢ <;> first
        | exact b
        | exact⟨b.1,CallsIn.mono b.2 (fun e i c=>by cases e<;>first|exact c|exact d c)⟩
        | exact⟨b.1,RoundIn.mono b.2 (fun e i c=>by cases e<;>first|exact c|exact d c)⟩
      | halt x w' => cases x<;>simp only[Oper.uponIn]at b ⊢ <;> exact b
  . rw[if_neg f]at h
    exact h
theorem HL(last:List Nat):∀ (b:List (List Nat×List Nat)) (a:Act) (w:World),WS r P l Q last b a w->uC r P l.toArray Q (yX last b) a w
 | [],a,w,h=>by
  have:=RC (r:=r) (P:=P) (Q:=Q) (l:=l) (M:=fun a w=>Q .normal a w) (c:=[]) (rest:=[]) (fun a w h=>h) last a w (Sn _ _ _ h.out)
  simpa[yX]using this
 | (is,c) :: rest,a,w,h=>RC (HL last rest) is a w h.out
theorem kq{id n:Nat}{ds:List Deferred}(hm:P.follows .mixedOrders=true)(a:List (List Nat×List Nat))(last:List Nat)(d:St bs L w)(K:∀ w', St bs L w' -> WS r P l Q last a (Fr n s ds) w')(b:∃ np,(np=false\/NP Q)/\okF np l (yX last a)=true:=by first|exact⟨true,.inr inferInstance,by kernel_rfl⟩|exact⟨false,.inl rfl,by kernel_rfl⟩) :
 WP r P (.region id l.toArray true) Q (Fr n s ds) w:=b.elim fun _ ⟨c,b⟩=>KG (yX last a) [] (fun _=>[]) [] hm b c (by have:=HL last a _ _ (K _ (d.grow (gx.drew [] w)));rw[xe]at this;exact this)
theorem QM:∀ (a l1:List Oper),pick (l1++a) (List.range' l1.length a.length)=a
 | [],l1=>rfl
 | o :: a,l1=>by
  rw[zh,List.range'_succ]
  unfold pick
  rw[F1,Hv (zm _)]
  have:=QM a (l1++[o])
  simpa using this
theorem KH{id n:Nat}{ds:List Deferred}(hm:P.follows .mixedOrders=true)(b:St bs L w)(K:∀ w', St bs L w' -> WL r P l.toArray Q l (Fr n s ds) w')(a:∃ np,(np=false\/NP Q)/\okF np l (yX (List.range' 0 l.length) [])=true) :
 WP r P (.region id l.toArray true) Q (Fr n s ds) w:=kq hm [] (List.range' 0 l.length) b (fun w' h=>by
 have:=QM l []
 show WL r P l.toArray Q (pick l (List.range' 0 l.length)) _ _
 rw[show pick l (List.range' 0 l.length)=l from this]
 exact K w' h) a
variable {n:Nat} {s:List (Nat×Value)} {ds:List Deferred} {is c last:List Nat} {rest:List (List Nat×List Nat)}
theorem jx(h:WL r P l.toArray (Exit.then (fun a w=>jD P l.toArray c a w/\WS r P l Q last rest a w) Q) l' (Fr n s ds) w)(b:pick l is=l' := by rfl):WS r P l Q last ((is,c) :: rest) (Fr n s ds) w:=by subst b;exact h
theorem kE(h:WL r P l.toArray Q l' (Fr n s ds) w)(a:pick l last=l' := by rfl):WS r P l Q last [] (Fr n s ds) w:=by subst a;exact h
theorem pe{ops:Array Oper}(hc:jD P ops c (Fr n s ds) w)(h:M (Fr n s ds) w):Exit.then (fun a w=>jD P ops c a w/\M a w) Q .normal (Fr n s ds) w:=⟨hc,h⟩
theorem qo{ops:Array Oper}{o:Oper}{d:Nat}(h:(execOp (ev n s) o).run P w = .ok (.value v) w)(hd:o.dst=some d)(hv:look s d=v):qH P ops o (Fr n s ds) w:=by
 refine .inr ⟨v,by rw[sV, h],?_⟩
 rw[hd,uN]
 refine Eg ds fun t=>?_
 rw[ug]
 split
 . rename_i e;subst e;exact hv.symm
 . rfl
theorem kZ{ops:Array Oper}{k:Nat}{o:Oper}(hk:vo ops.toList k=some o)(h:qH P ops o (Fr n s ds) w)(hs:jD P ops ks (Fr n s ds) w):jD P ops (k :: ks) (Fr n s ds) w :=
 ⟨fun b a=>by rw[F1]at hk;simp at hk;rw[hk]at a;cases a;exact h,hs⟩
def yF:List (Nat×List Nat)->Nat->List Nat
 | [],_=>[]
 | (i,c) :: l,f=>bif Nat.beq i f then c else yF l f
theorem yT{id:Nat}(hm:P.follows .mixedOrders=true)(b A:List Nat)(C:List (Nat×List Nat))(last:List Nat)(e:St bs L w)(K:∀ w', St bs L w' -> WL r P l.toArray (Exit.then (fun a w=>jD P l.toArray [] a w/\WA r P l.toArray Q (yF C) (oD l []) (ng [] last) A.length A a w) Q) (pick l b) (Fr n s ds) w')
 (c:∃ np,(np=false\/NP Q)/\C4 np l (ng [] b) A (yF C) (ng [] last)=true:=by first|exact⟨true,.inr inferInstance,by kernel_rfl⟩|exact⟨false,.inl rfl,by kernel_rfl⟩):WP r P (.region id l.toArray true) Q (Fr n s ds) w :=
 c.elim fun _ ⟨d,c⟩=>KG (ng [] b) A (yF C) (ng [] last) hm c d (Gm b _ _ (K _ (e.grow (gx.drew [] w))).out)
theorem zJ(h:WL r P l.toArray (Exit.then M Q) l' (Fr n s ds) w)(a:pick l is=l' := by rfl):WL r P l.toArray (Exit.then M Q) (pick l is) (Fr n s ds) w:=by subst a;exact h
theorem stI{f:Nat}(h:WL r P l.toArray (Exit.then (fun a w=>jD P l.toArray c a w/\M a w) Q) l' (Fr n s ds) w)(b:pick l [f]=l' := by rfl):lP r P l.toArray Q (f,c) M (Fr n s ds) w:=by
 subst b
 exact Gm [f] _ _ h.out
theorem Tq{C:Nat->List Nat}{pre:List (List Nat)}{A:List Nat}(h:WL r P l.toArray Q l' (Fr n s ds) w)(a:pick l last=l' := by rfl):WA r P l.toArray Q C pre (ng [] last) 0 A (Fr n s ds) w:=by
 subst a
 exact HL (r:=r) (P:=P) (Q:=Q) (l:=l) last [] (Fr n s ds) w h
end
section
variable {r:Option Nat} {P:Program} {ops:Array Oper} {Q:Exit->Act->World->Prop} {rest:List Oper} {n:Nat} {s:List (Nat×Value)} {ds:List Deferred} {w:World}
variable {d:Nat} {dd:Option Nat} {ty t:TypeId} {pos:String} {af:Array Edge} {g:Option (Nat×Bool)} {x:Operand} {cs:Array Value} {v:Value} {i:Nat} {u:TypeDesc}
theorem Xl{a:Array Field}{f:Field}(e:ev n s x = .agg cs)(ht:P.underlying t=some (.struct a))(c:a[i]? = some f)(b:P.underlying f.type=some u)(d:kC u=false)(hv:cs[f.offset]? = some v) :
 (execOp (ev n s) ⟨dd,.field t x i,ty,pos,af,g⟩).run P w = .ok (.value v) w:=by
 simp[execOp,e,Instr.field,asAgg,run_underlying ht,c,part,wX b,d,hv]
theorem Jg{a:Array Field}{f:Field}(e:gI ops n s g=true)(j:ev n s x = .agg cs)(ht:P.underlying t=some (.struct a))(c:a[i]? = some f)(b:P.underlying f.type=some u)(h:kC u=false)(hv:cs[f.offset]? = some v)(K:WL r P ops Q rest (Fr n ((d,v) :: s) ds) w):WL r P ops Q (⟨some d,.field t x i,ty,pos,af,g⟩ :: rest) (Fr n s ds) w:=pw e (fun _=>Xl j ht c b h hv) K
end
section
variable {r:Option Nat} {P:Program} {ops:Array Oper} {Q:Exit->Act->World->Prop} {rest:List Oper} {n:Nat} {s:List (Nat×Value)} {ds:List Deferred} {w:World}
variable {d:Nat} {dd:Option Nat} {ty t t' e:TypeId} {pos:String} {af:Array Edge} {g:Option (Nat×Bool)} {x y:Operand} {a:Option Addr} {c:Bool}
theorem Ry(k:Nat)(ht:P.underlying t=some (.pointer e)):(Op.equalIn (k+1) t (.pointer a) (.pointer none)).run P w = .ok a.isNone w:=by
 cases a<;>simp[Op.equalIn,run_underlying ht]
theorem WU(b:ev n s x = .pointer a)(d:ev n s y = .pointer none)(ht:P.underlying t=some (.pointer e))(hc:a.isNone=c) :
 (execOp (ev n s) ⟨dd,.binOp .eql t x y t', ty,pos,af,g⟩).run P w = .ok (.value (.bool c)) w:=by
 subst hc
 simp[execOp,b,d,eqGuard,binOp,Op.equal,Op.maxDepth,Ry 9999 ht]
theorem mc(b:gI ops n s g=true)(f:ev n s x = .pointer a)(h:ev n s y = .pointer none)(ht:P.underlying t=some (.pointer e))(hc:a.isNone=c)(K:WL r P ops Q rest (Fr n ((d,.bool c) :: s) ds) w):WL r P ops Q (⟨some d,.binOp .eql t x y t', ty,pos,af,g⟩ :: rest) (Fr n s ds) w:=pw b (fun _=>WU f h ht hc) K
theorem aaG(b:ev n s x = .pointer a)(d:ev n s y = .pointer none)(ht:P.underlying t=some (.pointer e))(hc:(!a.isNone)=c) :
 (execOp (ev n s) ⟨dd,.binOp .neq t x y t', ty,pos,af,g⟩).run P w = .ok (.value (.bool c)) w:=by
 subst hc
 simp[execOp,b,d,eqGuard,binOp,Op.equal,Op.maxDepth,Ry 9999 ht]
theorem lI(b:gI ops n s g=true)(f:ev n s x = .pointer a)(h:ev n s y = .pointer none)(ht:P.underlying t=some (.pointer e))(hc:(!a.isNone)=c)(K:WL r P ops Q rest (Fr n ((d,.bool c) :: s) ds) w):WL r P ops Q (⟨some d,.binOp .neq t x y t', ty,pos,af,g⟩ :: rest) (Fr n s ds) w:=pw b (fun _=>aaG f h ht hc) K
end
section
variable {P:Program} {n:Nat} {s:List (Nat×Value)} {w w0:World} {fn:Func} {bs:List (World×List Nat)} {L:List fT} {x:ResultVar} {v:Value} {b:Nat} {T:TypeId} {cs:List Value}
theorem St.KI(h:St bs L w)(hb:(w0,[])∈bs)(a:(blk b T cs).holds w0):(blk b T cs).holds w :=
 (h.keep hb (rG.1 a).1 s_).trans a
end
end Go.Sx
