/- Plain lemmas: rules for walking through code, one for each operation, over any program; an evaluator of closed calls with its soundness; and plain mathematics. No conditions. -/
import Derived.WalkKit
import Derived.TacticsIn
import Derived.RangeFuncIn
import Derived.Shelf.Abstract
import Derived.Laws.CopyOwn
import Derived.OrdersIn
import Derived.WalkSpells
import Derived.Lib.SliceRun
import Derived.RecoverIn
import Derived.WideLaws
import Derived.RangeFuncRecord
import Derived.ControlIn
set_option linter.unusedVariables false
set_option linter.unusedSectionVars false
set_option linter.unusedSimpArgs false
namespace Go.Sx
open Go
abbrev za:=@List.mem_cons_self
abbrev zb:=@List.mem_cons
abbrev zd:=@List.mem_of_getElem?
abbrev ze:=@List.length_cons
abbrev zg:=@List.getElem?_eq_some_iff
abbrev zh:=@List.length_nil
abbrev zj:=@List.getElem?_eq_getElem
abbrev zk:=@Nat.le_refl
abbrev zm:=@List.mem_append
abbrev zn:=@List.all_eq_true
abbrev zo:=@List.length_map
abbrev zp:=@Result.andThen_ok
abbrev zq:=@List.length_append
abbrev zr:=@List.nodup_append
abbrev zt:=@List.getElem?_eq_none
abbrev zu:=@List.nodup_cons
abbrev zw:=@Sem.run_bind
abbrev zx:=@List.length_take
abbrev zy:=@List.flatMap_cons
abbrev zz:=@List.mem_singleton
abbrev z6:=@List.mem_range
abbrev z7:=@List.mem_map
abbrev z8:=@List.mem_filter
abbrev nW:=@Array.getElem?_eq_some_iff
abbrev jV:=@List.map_cons
abbrev lV:=@List.mem_cons_of_mem
abbrev kR:=@List.getElem?_map
abbrev jK:=@Sem.run_pure
abbrev kD:=@Nat.add_assoc
abbrev mj:=@Int.toNat_natCast
abbrev lW:=@Bool.and_eq_true
abbrev mL:=@List.append_assoc
abbrev mM:=@List.ext_getElem?
abbrev oV:=@Nat.le_of_ble_eq_true
abbrev rm:=@List.getElem?_append_left
abbrev kS:=@Nat.le_trans
abbrev nX:=@Nat.lt_of_lt_of_le
abbrev ng:=@List.cons_append
abbrev nY:=@List.take_add_one
abbrev oW:=@List.filterMap_cons
abbrev nI:=@List.not_mem_nil
abbrev lD:=@Nat.zero_add
abbrev qB:=@List.perm_append_comm
abbrev tT:=@List.eq_nil_of_length_eq_zero
abbrev pX:=@List.getElem?_range
abbrev sj:=@List.getElem?_replicate
abbrev pY:=@List.length_range
abbrev tU:=@Array.getElem?_eq_getElem
abbrev oZ:=@Nat.min_eq_left
abbrev sY:=@List.length_replicate
abbrev r8:=@Array.length_toList
abbrev u5:=@List.pairwise_iff_getElem
abbrev qx:=@List.filter_cons
abbrev qy:=@List.mem_flatMap
abbrev qz:=@List.take_length
abbrev mZ:=@Nat.zero_le
abbrev r9:=@List.getElem?_take
abbrev qA:=@List.append_nil
abbrev si:=@List.getElem?_set
abbrev sZ:=@List.pairwise_cons
abbrev u6:=@List.take_of_length_le
abbrev rq:=@List.nil_append
abbrev tV:=@List.filter_eq_self
abbrev u7:=@List.length_filter_le
abbrev u9:=@List.take_append_drop
abbrev sw:=@List.map_append
abbrev sB:=@List.range_succ
abbrev ve:=@Bool.or_eq_true_iff
abbrev vg:=@List.getElem_of_mem
abbrev wV:=@Array.getElem?_toList
abbrev wW:=@List.mem_append_right
abbrev qC:=@Nat.add_zero
abbrev vh:=@List.filter_append
abbrev wX:=@List.mem_append_left
abbrev tW:=@List.nodup_range
abbrev tY:=@List.perm_middle
abbrev tZ:=@Nat.max_eq_right
abbrev ru:=@Nat.le_total
abbrev wY:=@List.filter_sublist
abbrev Bt:=@List.drop_eq_getElem_cons
abbrev yZ:=@Array.getElem?_modify
abbrev vi:=@Nat.min_eq_right
abbrev wZ:=@List.filter_congr
abbrev vj:=@List.count_cons
abbrev vk:=@Nat.max_eq_left
abbrev yX:=@List.map_congr_left
abbrev sn:=@Nat.add_mul
abbrev su:=@Nat.mul_one
abbrev Dr:=@Array.getElem?_append_left
abbrev Dt:=@List.getElem?_append_right
abbrev wU:=@List.countP_cons
abbrev Bq:=@List.getElem?_toArray
abbrev Br:=@Nat.eq_of_beq_eq_true
abbrev yY:=@Nat.eq_zero_or_pos
abbrev GC:=@List.eraseIdx_eq_take_drop_succ
abbrev Bu:=@List.getElem?_append
abbrev w5:=@Option.map_some
abbrev GG:=@List.take_append_of_le_length
abbrev Dy:=@List.filter_cons_of_neg
abbrev Dz:=@List.filter_cons_of_pos
abbrev Bv:=@List.countP_eq_zero
abbrev Bw:=@Nat.mul_le_mul_left
abbrev zA:=@List.length_drop
abbrev w6:=@List.nodup_nil
abbrev zB:=@Bool.or_eq_true
abbrev GH:=@Int.tmod_eq_emod_of_nonneg
abbrev DB:=@Nat.mul_le_mul_right
abbrev LB:=@List.set_eq_take_append_cons_drop
abbrev Bx:=@Nat.div_add_mod'
abbrev xd:=@Nat.lt_or_ge
abbrev GI:=@List.length_eq_zero_iff
abbrev DD:=@List.append_of_mem
abbrev DE:=@List.getElem?_drop
abbrev DG:=@List.getLast?_cons
abbrev GJ:=@List.drop_of_length_le
abbrev GK:=@List.filter_eq_nil_iff
abbrev GL:=@List.pairwise_lt_range
abbrev DH:=@List.count_append
abbrev LC:=@Array.getElem?_setIfInBounds
abbrev DI:=@List.any_eq_true
abbrev GM:=@List.mem_iff_getElem
abbrev GD:=@List.mem_of_getLast?
abbrev Du:=@Nat.testBit_succ
abbrev Dv:=@Option.getD_some
abbrev Lx:=@Array.toList_setIfInBounds
abbrev Dw:=@Int.emod_nonneg
abbrev Ly:=@List.exists_mem_of_ne_nil
abbrev Lz:=@List.getLast?_eq_none_iff
abbrev Dx:=@Nat.one_ne_zero
abbrev GF:=@Array.extract_size
abbrev LA:=@List.getElem?_take_of_lt
abbrev LD:=@List.length_erase_of_mem
abbrev GN:=@List.mem_filterMap
abbrev DJ:=@Bool.xor_false
abbrev GO:=@Bool.not_eq_true'
abbrev GP:=@List.foldl_append
abbrev GQ:=@List.pairwise_map
abbrev GR:=@List.reverse_cons
abbrev GS:=@Nat.lt_trichotomy
abbrev LF:=@List.length_pos_of_mem
abbrev LG:=@List.singleton_sublist
abbrev LH:=@List.sublist_cons_self
abbrev By:=@Nat.mul_add
abbrev DK:=@Bool.not_true
abbrev DL:=@List.sum_cons
abbrev LI:=@Array.getElem?_mapIdx
abbrev LJ:=@List.countP_le_length
abbrev LK:=@List.eraseIdx_sublist
abbrev LM:=@List.filterMap_append
abbrev LN:=@List.length_singleton
abbrev zdt:=@Nat.div_lt_iff_lt_mul
abbrev LO:=@List.count_le_length
abbrev DM:=@List.map_nil
abbrev LP:=@List.pairwise_append
abbrev Bz:=@Nat.mod_lt
abbrev LQ:=@Nat.pow_le_pow_right
abbrev DN:=@Nat.pow_succ
theorem o_{p:Prop}(h:p:=by omega):p:=h
theorem s_{p:Prop}(h:p:=by simp):p:=h
theorem d_{p:Prop}(h:p:=by decide):p:=h
end Go.Sx
namespace Go.Sx
open Go
def look:List (Nat×Value)->Nat->Value
 | [],_=>undef
 | (i,v) :: s,t=>bif Nat.beq i t then v else look s t
def Fr(n:Nat)(s:List (Nat×Value))(ds:List Deferred):Act :=
 { tmps:=Array.ofFn (n:=n) fun i=>look s i.val,defers:=ds }
def ev(n:Nat)(s:List (Nat×Value)):Operand->Value
 | .tmp t=>bif Nat.blt t n then look s t else undef
 | .const v=>v
 | .global g=>.pointer (some ⟨g,0,none⟩)
 | .func f=>.func (.func f) #[] #[]
theorem Np{a b:Nat}(h:a<b):Nat.blt a b=true:=by simp[Nat.blt];omega
theorem No{a b:Nat}(h:¬ a<b):Nat.blt a b=false:=by
 cases hb:Nat.blt a b with
 | false=>rfl
 | true=>exact absurd (by simpa[Nat.blt,Nat.lt_iff_add_one_le]using hb) h
theorem DQ(n:Nat)(s:List (Nat×Value))(ds:List Deferred)(x:Operand):(Fr n s ds).eval x=ev n s x:=by
 cases x with
 | tmp t =>
  by_cases h:t<n
  . simp[Act.eval,Fr,ev,h,Np h]
  . simp[Act.eval,Fr,ev,h,No h]
 | _=>rfl
theorem o7 (n:Nat)(s:List (Nat×Value))(ds:List Deferred):(Fr n s ds).eval=ev n s:=funext (DQ n s ds)
theorem CB(i t:Nat)(v:Value)(s:List (Nat×Value)):look ((i,v) :: s) t=if i=t then v else look s t:=by
 by_cases h:i=t
 . simp[look,h]
 . have:Nat.beq i t=false:=by
    cases hb:Nat.beq i t with
    | false=>rfl
    | true=>exact absurd (Br hb) h
   simp[look,this,h]
theorem vm{n:Nat}{s s' : List (Nat×Value)}(ds:List Deferred)(h:∀ t,look s t=look s' t):Fr n s ds=Fr n s' ds:=by
 unfold Fr
 congr 2
 funext i
 exact h i.val
theorem zF(n:Nat)(s:List (Nat×Value))(ds:List Deferred)(d:Nat)(v:Value):(Fr n s ds).put (some d) v=Fr n ((d,v) :: s) ds:=by
 unfold Act.put Fr
 simp only[Act.mk.injEq,and_true]
 apply Array.ext
 . simp
 . intro i b a
   simp at b a
   rw[Array.getElem_setIfInBounds (by simpa using a)]
   simp[CB]
theorem aaY(pre s:List (Nat×Value))(h:∀ p∈pre,look s p.1=p.2)(t:Nat):look (pre++s) t=look s t:=by
 induction pre with
 | nil=>rfl
 | cons p pre b =>
  have c := b (fun q a=>h q (lV _ a))
  obtain⟨i,v⟩:=p
  rw[ng,CB]
  split
  . rename_i e;subst e;exact(h (i,v) (za ..)).symm
  . exact c
def Holds(s:List (Nat×Value)):List (Nat×Value)->Prop
 | []=>True
 | p :: l=>look s p.1=p.2/\Holds s l
theorem Holds.mem{s:List (Nat×Value)}:∀ {l:List (Nat×Value)},Holds s l->∀ p∈l,look s p.1=p.2
 | [],_,p,hp=>by cases hp
 | q :: l,h,p,hp=>by
  cases hp with
  | head=>exact h.1
  | tail _ hp=>exact Holds.mem h.2 p hp
theorem Ub{n:Nat}{s:List (Nat×Value)}{ds:List Deferred}(pre:List (Nat×Value))(h:Holds s pre):Fr n s ds=Fr n (pre++s) ds :=
 vm ds fun t=>(aaY pre s h.mem t).symm
def FW(r:Option Nat):Fence:={ fn:=fun _=>True,depth:=none,alive:=false,round:=r }
theorem GV(r:Option Nat)(m:Nat):(FW r).room m:=fun _ h=>by simp[FW]at h
abbrev WP(r:Option Nat)(P:Program)(c:Code)(Q:Exit->Act->World->Prop)(a:Act)(w:World):Prop:=c.wpIn (FW r) 0 P Q a w
def cat:Op->Nat
 | .move _ | .assign _ | .pick _ _ _ | .extract _ _ | .nilCheck _ | .fieldAddr _ _ _ | .indexAddr _ _ _ | .binOp _ _ _ _ _ | .unOp _ _ _ | .field _ _ _ | .index _ _ _ | .convert _ _ _ | .build _ _=>0
 | .load _ _ | .lookup _ _ _ _=>1
 | .store _ _ _ | .alloc _ | .box _ _ | .buildSlice _ _ _ | .makeSlice _ _ _ | .mapUpdate _ _ _ _ | .mapEntry _ _ _ | .entryStore _ _ _ _=>3
 | .call ⟨.builtin .len,_,_⟩=>1
 | .call ⟨.builtin .min,_,_⟩ | .call ⟨.builtin .max,_,_⟩=>0
 | .call ⟨.builtin .append,_,_⟩=>3
 | _=>2
def kq(r:Option Nat)(P:Program)(Q:Exit->Act->World->Prop)(o:Oper)(K:Act->World->Prop)(a:Act)(w:World):Prop :=
 match cat o.op with
 | 0=>∃ v,(∀ w', (execOp a.eval o).run P w' = .ok (.value v) w')/\K (a.put o.dst v) w
 | 1=>∃ v,(execOp a.eval o).run P w = .ok (.value v) w/\K (a.put o.dst v) w
 | 3=>∃ x w', (execOp a.eval o).run P w = .ok x w' /\ ((∃ v,x = .value v/\K (a.put o.dst v) w')\/(x = .skip/\K (a.put o.dst undef) w'))
 | _=>o.uponIn (FW r) 0 P a K Q ((o.semAt r a.eval).run P w)
def wl(r:Option Nat)(P:Program)(ops:Array Oper)(Q:Exit->Act->World->Prop):List Oper->Act->World->Prop
 | [],a,w=>Q .normal a w
 | o :: rest,a,w=>if Region.wanted o (yielded ops a.tmps)then kq r P Q o (wl r P ops Q rest) a w else wl r P ops Q rest (a.put o.dst undef) w
structure WL (r:Option Nat) (P:Program) (ops:Array Oper) (Q:Exit->Act->World->Prop) (l:List Oper) (a:Act) (w:World):Prop where
 out:wl r P ops Q l a w
theorem U6{op:Op}(h:cat op≠2):∀ c,op ≠ .defer c:=by
 intro c e;subst e;exact h rfl
theorem ag4{r:Option Nat}{P:Program}{Q:Exit->Act->World->Prop}{o:Oper}{a:Act}{K K' : Act->World->Prop}(h:∀ a w,K a w->K' a w){x:Result Next}
 (b:o.uponIn (FW r) 0 P a K Q x):o.uponIn (FW r) 0 P a K' Q x:=by
 cases x with
 | ok x w' =>
  cases x<;>simp only[Oper.uponIn]at b ⊢ <;>
   first
    | exact h _ _ b
    | exact⟨b.1,CallsIn.mono b.2 (fun e d c=>by cases e<;>first|exact h _ _ c|exact c)⟩
    | exact⟨b.1,RowsIn.mono b.2 (fun _ _ c=>h _ _ c)⟩
    | exact⟨b.1,RoundIn.mono b.2 (fun e d c=>by cases e<;>first|exact h _ _ c|exact c)⟩
 | halt x w' => cases x<;>simp only[Oper.uponIn]at b ⊢ <;> exact b
theorem kq.mono{r:Option Nat}{P:Program}{Q:Exit->Act->World->Prop}{o:Oper}{a:Act}{w:World}{K K' : Act->World->Prop}(h:∀ a w,K a w->K' a w)
 (d:kq r P Q o K a w):kq r P Q o K' a w:=by
 unfold kq at *
 split<;>rename_i f<;>simp only[f]at d
 . obtain⟨v,c,b⟩:=d;exact⟨v,c,h _ _ b⟩
 . obtain⟨v,c,b⟩:=d;exact⟨v,c,h _ _ b⟩
 . obtain⟨x,w', c,⟨v,b,e⟩|⟨b,e⟩⟩:=d
   . exact⟨x,w', c,.inl ⟨v,b,h _ _ e⟩⟩
   . exact⟨x,w', c,.inr ⟨b,h _ _ e⟩⟩
 . exact ag4 h d
theorem kq.upon{r:Option Nat}{P:Program}{Q:Exit->Act->World->Prop}{o:Oper}{a:Act}{w:World}{K:Act->World->Prop}
 (d:kq r P Q o K a w):o.uponIn (FW r) 0 P a K Q ((o.semAt r a.eval).run P w):=by
 have e:cat o.op≠2->o.semAt r a.eval=execOp a.eval o:=fun c=>by
  cases r with
  | none=>exact Oper.semAt_none _ o
  | some l=>exact Oper.semAt_some l _ o (U6 c)
 unfold kq at d
 split at d<;>rename_i c
 . obtain⟨v,b,f⟩:=d;rw[e (by rw[c];decide),b];exact f
 . obtain⟨v,b,f⟩:=d;rw[e (by rw[c];decide),b];exact f
 . obtain⟨x,w', b,⟨v,rfl,g⟩|⟨rfl,g⟩⟩:=d
   . rw[e (by rw[c];decide),b];exact g
   . rw[e (by rw[c];decide),b];exact g
 . exact d
theorem Lp{r:Option Nat}{P:Program}{ops:Array Oper}{Q:Exit->Act->World->Prop}:∀ (l:List Oper) (a:Act) (w:World),wl r P ops Q l a w->wpListIn (FW r) 0 P ops Q l a w
 | [],_,_,h=>h
 | o :: rest,a,w,h=>by
  unfold wl at h
  unfold wpListIn
  split<;>rename_i b
  . rw[if_pos b]at h
    exact⟨fun _ _=>trivial,(h.mono (Lp rest)).upon⟩
  . rw[if_neg b]at h
    exact⟨fun _ _=>trivial,Lp rest _ _ h⟩
theorem uw{r:Option Nat}{m:Nat}{P:Program}{f:FuncId}{args:Array Value}{w:World}{R:Ending->World->Prop} :
 CallsIn (FW r) m P f args w R↔Calls P f args w R:=callsIn_wide (n:=m)
def vQ:List Oper->Nat->Option Nat
 | [],_=>none
 | o :: _,0=>o.dst
 | _ :: l,j+1=>vQ l j
theorem Ip(l:List Oper):∀ j,vQ l j=(l[j]?).bind (·.dst):=by
 induction l with
 | nil=>intro j;simp[vQ]
 | cons o l a=>intro j;cases j with|zero=>rfl|succ j=>simpa[vQ]using a j
def KA:Value->Bool->Bool
 | .bool b,want=>bif want then b else !b
 | _,_=>false
def gB(ops:Array Oper)(n:Nat)(s:List (Nat×Value)):Option (Nat×Bool)->Bool
 | none=>true
 | some (j,want) =>
  match vQ ops.toList j with
  | some d=>KA (ev n s (.tmp d)) want
  | none=>false
theorem rj(ops:Array Oper)(n:Nat)(s:List (Nat×Value))(ds:List Deferred)(o:Oper) :
 Region.wanted o (yielded ops (Fr n s ds).tmps)=gB ops n s o.guard:=by
 unfold Region.wanted gB
 cases o.guard with
 | none=>rfl
 | some g =>
  obtain⟨j,a⟩:=g
  have e:vQ ops.toList j=(ops[j]?).bind (·.dst):=by rw[Ip];simp
  simp only[yielded,e]
  cases (ops[j]?).bind (·.dst)with
  | none=>simp
  | some d =>
   simp only[Option.bind_some]
   by_cases h:d<n
   . have:(Fr n s ds).tmps[d]? = some (look s d):=by simp[Fr,h]
     rw[this]
     simp only[ev,Np h,cond_true]
     cases look s d<;>simp[KA]
     rename_i b
     cases b<;>cases a<;>rfl
   . have:(Fr n s ds).tmps[d]? = none:=Array.getElem?_eq_none (by simpa[Fr]using h)
     rw[this]
     simp[ev,No h,undef,KA]
section ops
variable {r:Option Nat} {P:Program} {ops:Array Oper} {Q:Exit->Act->World->Prop} {rest:List Oper} {n:Nat} {s:List (Nat×Value)} {ds:List Deferred} {w w' : World}
theorem ahu(h:Q .normal (Fr n s ds) w):WL r P ops Q [] (Fr n s ds) w:=⟨h⟩
theorem semAt_eq{r:Option Nat}{ρ:Operand->Value}{o:Oper}(h:∀ c,o.op ≠ .defer c):o.semAt r ρ=execOp ρ o:=by
 cases r with
 | none=>exact congrFun (congrFun (funext fun ρ=>funext fun o=>Oper.semAt_none ρ o) ρ) o
 | some l=>exact Oper.semAt_some l ρ o h
def mc:Op->Bool
 | .defer _=>false
 | _=>true
theorem wz{op:Op}(h:mc op=true):∀ c,op ≠ .defer c:=by
 intro c e;subst e;cases h
theorem ahv{o:Oper}{v:Value}(b:gB ops n s o.guard=true)(h:∀ w,(execOp (ev n s) o).run P w = .ok (.value v) w)
 (K:WL r P ops Q rest ((Fr n s ds).put o.dst v) w) (a:cat o.op=0:=by rfl):WL r P ops Q (o :: rest) (Fr n s ds) w:=by
 refine⟨?_⟩
 unfold wl
 rw[rj,b,if_pos rfl]
 unfold kq
 rw[a]
 exact⟨v,fun w=>by rw[o7, h w],K.out⟩
theorem TV{o:Oper}{v:Value}(b:gB ops n s o.guard=true)(hd:mc o.op=true)(h:(execOp (ev n s) o).run P w = .ok (.value v) w')
 (K:WL r P ops Q rest ((Fr n s ds).put o.dst v) w') (a:(cat o.op=2\/cat o.op=3)\/(cat o.op=1/\w=w'):=by first|exact .inl (.inr rfl)|exact .inl (.inl rfl)|exact .inr ⟨rfl,rfl⟩):WL r P ops Q (o :: rest) (Fr n s ds) w:=by
 refine⟨?_⟩
 unfold wl
 rw[rj,b,if_pos rfl]
 unfold kq
 rcases a with (a|a)|⟨a,rfl⟩<;>rw[a]
 . show o.uponIn _ _ _ _ _ _ _
   rw[semAt_eq (wz hd),o7, h]
   exact K.out
 . exact⟨_,w', by rw[o7, h],.inl ⟨v,rfl,K.out⟩⟩
 . exact⟨v,by rw[o7, h],K.out⟩
theorem Dh{o:Oper}(b:gB ops n s o.guard=true)(hd:mc o.op=true)(h:(execOp (ev n s) o).run P w = .ok .skip w')
 (K:WL r P ops Q rest ((Fr n s ds).put o.dst undef) w') (a:cat o.op=2\/cat o.op=3:=by first|exact .inr rfl|exact .inl rfl):WL r P ops Q (o :: rest) (Fr n s ds) w:=by
 refine⟨?_⟩
 unfold wl
 rw[rj,b,if_pos rfl]
 unfold kq
 rcases a with a|a<;>rw[a]
 . show o.uponIn _ _ _ _ _ _ _
   rw[semAt_eq (wz hd),o7, h]
   exact K.out
 . exact⟨_,w', by rw[o7, h],.inr ⟨rfl,K.out⟩⟩
theorem TU{o:Oper}(b:gB ops n s o.guard=true)(h:o.uponIn (FW r) 0 P (Fr n s ds) (wl r P ops Q rest) Q ((o.semAt r (Fr n s ds).eval).run P w))(a:cat o.op=2:=by rfl):WL r P ops Q (o :: rest) (Fr n s ds) w:=by
 refine⟨?_⟩
 unfold wl
 rw[rj,b,if_pos rfl]
 unfold kq
 rw[a]
 exact h
theorem TS{o:Oper}{f:FuncId}{args:Array Value}(c:gB ops n s o.guard=true)(hd:mc o.op=true)(h:(execOp (ev n s) o).run P w = .ok (.enter f args) w')
 (K:Calls P f args w' fun
  | .returned v,w'' => WL r P ops Q rest ((Fr n s ds).put o.dst v) w''
  | .panicked chain,w'' => Q (.panic chain) (Fr n s ds) w''
  | .outgrown,_=>LetsOut Q) (b:cat o.op=2:=by rfl):WL r P ops Q (o :: rest) (Fr n s ds) w:=by
 refine TU c ?_ b
 rw[semAt_eq (wz hd),o7, h]
 exact⟨fun h=>by simp[FW]at h,uw.2 (Calls.mono K fun e w' a=>by cases e<;>first|exact a.out|exact a)⟩
theorem sk{d:Nat}{op:Op}{ty:TypeId}{pos:String}{af:Array Edge}{g:Nat×Bool}(a:gB ops n s (some g)=false)
 (K:WL r P ops Q rest (Fr n ((d,undef) :: s) ds) w):WL r P ops Q (⟨some d,op,ty,pos,af,some g⟩ :: rest) (Fr n s ds) w:=by
 refine⟨?_⟩
 unfold wl
 rw[rj]
 simp only[a]
 show wl r P ops Q rest ((Fr n s ds).put (some d) undef) w
 rw[zF]
 exact K.out
theorem gm{k:IntKind}{a b:Int}(h:a=b):Value.int k a=Value.int k b:=by rw[h]
theorem EI{a b:Bool}(h:a=b):Value.bool a=Value.bool b:=by rw[h]
end ops
end Go.Sx
namespace Go.Sx
open Go
section
variable {r:Option Nat} {P:Program} {ops:Array Oper} {Q:Exit->Act->World->Prop} {rest:List Oper} {n:Nat} {s:List (Nat×Value)} {ds:List Deferred} {w w' : World}
variable {d:Nat} {ty:TypeId} {pos:String} {af:Array Edge} {g:Option (Nat×Bool)}
theorem pv{op:Op}{v:Value}(b:gB ops n s g=true)(hd:mc op=true)(h:(execOp (ev n s) ⟨some d,op,ty,pos,af,g⟩).run P w = .ok (.value v) w')
 (K:WL r P ops Q rest (Fr n ((d,v) :: s) ds) w') (a:(cat op=2\/cat op=3)\/(cat op=1/\w=w'):=by first|exact .inl (.inr rfl)|exact .inl (.inl rfl)|exact .inr ⟨rfl,rfl⟩):WL r P ops Q (⟨some d,op,ty,pos,af,g⟩ :: rest) (Fr n s ds) w :=
 TV b hd h (by rw[zF];exact K) a
theorem pw{op:Op}{v:Value}(b:gB ops n s g=true)(h:∀ w,(execOp (ev n s) ⟨some d,op,ty,pos,af,g⟩).run P w = .ok (.value v) w)
 (K:WL r P ops Q rest (Fr n ((d,v) :: s) ds) w) (a:cat op=0:=by rfl):WL r P ops Q (⟨some d,op,ty,pos,af,g⟩ :: rest) (Fr n s ds) w :=
 ahv b h (by rw[zF];exact K) a
theorem kI{x:Operand}{v:Value}(a:ev n s x=v){dd:Option Nat} :
 (execOp (ev n s) ⟨dd,.move x,ty,pos,af,g⟩).run P w = .ok (.value v) w:=by simp[execOp,a]
theorem mv{x:Operand}{v:Value}(a:gB ops n s g=true)(b:ev n s x=v)(K:WL r P ops Q rest (Fr n ((d,v) :: s) ds) w) :
 WL r P ops Q (⟨some d,.move x,ty,pos,af,g⟩ :: rest) (Fr n s ds) w:=pw a (fun _=>kI b) K
theorem vL{x:Operand}{v:Value}(a:ev n s x=v){dd:Option Nat} :
 (execOp (ev n s) ⟨dd,.assign x,ty,pos,af,g⟩).run P w = .ok (.value v) w:=by simp[execOp,a]
theorem sL{x:Operand}{v:Value}(a:gB ops n s g=true)(b:ev n s x=v)(K:WL r P ops Q rest (Fr n ((d,v) :: s) ds) w) :
 WL r P ops Q (⟨some d,.assign x,ty,pos,af,g⟩ :: rest) (Fr n s ds) w:=pw a (fun _=>vL b) K
theorem RC{c x y:Operand}{v:Value}(a:ev n s c = .bool true)(b:ev n s x=v){dd:Option Nat} :
 (execOp (ev n s) ⟨dd,.pick c x y,ty,pos,af,g⟩).run P w = .ok (.value v) w:=by simp[execOp,b,a,asBool]
theorem RB{c x y:Operand}{v:Value}(a:ev n s c = .bool false)(b:ev n s y=v){dd:Option Nat} :
 (execOp (ev n s) ⟨dd,.pick c x y,ty,pos,af,g⟩).run P w = .ok (.value v) w:=by simp[execOp,b,a,asBool]
def kF:BinOp->Int->Int->Option Bool
 | .eql,a,b=>some (a==b)
 | .neq,a,b=>some (a != b)
 | .lss,a,b=>some (decide (a<b))
 | .leq,a,b=>some (decide (a<=b))
 | .gtr,a,b=>some (decide (b<a))
 | .geq,a,b=>some (decide (b<=a))
 | _,_,_=>none
theorem AX(op:BinOp)(t:TypeId)(x y:Operand)(k k' : IntKind)(a b:Int):(eqGuard op t x y (.int k a) (.int k' b)).run P w = .ok () w:=by
 unfold eqGuard
 cases op<;>simp
theorem adP{op:BinOp}{t:TypeId}{k:IntKind}{a b:Int}{c:Bool}(h:kF op a b=some c):(binOp op t (.int k a) (.int k b)).run P w = .ok (.bool c) w:=by
 cases op<;>simp[kF]at h<;>subst h<;>simp[binOp,Op.intCmp]
theorem Ib{op:BinOp}{x y:Operand}{t t' : TypeId}{k:IntKind}{a b:Int}{c:Bool}(e:ev n s x = .int k a)(f:ev n s y = .int k b)
 (d:kF op a b=some c) {dd:Option Nat} :
 (execOp (ev n s) ⟨dd,.binOp op t x y t', ty,pos,af,g⟩).run P w = .ok (.value (.bool c)) w:=by simp[execOp,e,f,AX,adP d]
theorem cmp{op:BinOp}{x y:Operand}{t t' : TypeId}{k:IntKind}{a b:Int}{c:Bool}(f:gB ops n s g=true)(h:ev n s x = .int k a)(i:ev n s y = .int k b)
 (e:kF op a b=some c) (K:WL r P ops Q rest (Fr n ((d,.bool c) :: s) ds) w) :
 WL r P ops Q (⟨some d,.binOp op t x y t', ty,pos,af,g⟩ :: rest) (Fr n s ds) w:=pw f (fun _=>Ib h i e) K
theorem pI{a b:Int}(h:a<b):kF .lss a b=some true:=by simp[kF,h]
theorem kV{a b:Int}(h:¬ a<b):kF .lss a b=some false:=by simp[kF,h]
theorem vN{a b:Int}(h:a<=b):kF .leq a b=some true:=by simp[kF,h]
theorem HP{a b:Int}(h:¬ a<=b):kF .leq a b=some false:=by simp[kF,h]
theorem pJ{a b:Int}(h:¬ a>b):kF .gtr a b=some false:=by simp[kF];omega
theorem nv{a b:Int}(h:a≥b):kF .geq a b=some true:=by simp[kF];omega
theorem oh{a b:Int}(h:¬ a≥b):kF .geq a b=some false:=by simp[kF];omega
theorem oM{a b:Int}(h:a=b):kF .eql a b=some true:=by simp[kF,h]
theorem uu{a b:Int}(h:¬ a=b):kF .eql a b=some false:=by simp[kF,h]
theorem Eo{a b:Int}(h:¬ a=b):kF .neq a b=some true:=by simp[kF,h]
theorem qd{a b:Int}(h:a=b):kF .neq a b=some false:=by simp[kF,h]
def BY:BinOp->Int->Int->Option Int
 | .add,a,b=>some (a+b)
 | .sub,a,b=>some (a-b)
 | .mul,a,b=>some (a*b)
 | _,_,_=>none
theorem adO{op:BinOp}{t:TypeId}{k:IntKind}{a b c:Int}(h:BY op a b=some c):(binOp op t (.int k a) (.int k b)).run P w = .ok (.int k (k.wrap c)) w:=by
 cases op<;>simp[BY]at h<;>subst h<;>simp[binOp,Op.intArith]
theorem Ei{op:BinOp}{x y:Operand}{t t' : TypeId}{k:IntKind}{a b c e:Int}(h:ev n s x = .int k a)(i:ev n s y = .int k b)
 (d:BY op a b=some c) (f:k.wrap c=e) {dd:Option Nat} :
 (execOp (ev n s) ⟨dd,.binOp op t x y t', ty,pos,af,g⟩).run P w = .ok (.value (.int k e)) w:=by simp[execOp,h,i,AX,adO d,f]
theorem ar{op:BinOp}{x y:Operand}{t t' : TypeId}{k:IntKind}{a b c e:Int}(h:gB ops n s g=true)(j:ev n s x = .int k a)(l:ev n s y = .int k b)
 (f:BY op a b=some c) (i:k.wrap c=e) (K:WL r P ops Q rest (Fr n ((d,.int k e) :: s) ds) w) :
 WL r P ops Q (⟨some d,.binOp op t x y t', ty,pos,af,g⟩ :: rest) (Fr n s ds) w:=pw h (fun _=>Ei j l f i) K
theorem oT{a:Int}(h : -9223372036854775808<=a/\a<=9223372036854775807):IntKind.i64.wrap a=a:=IntWalk.i64_in a h
theorem Gg{a:Int}(h:0<=a/\a<=18446744073709551615):IntKind.u64.wrap a=a:=IntWalk.u64_in a h
theorem TK{a:Int}(h:0<=a/\a<=255):IntKind.u8.wrap a=a:=IntWalk.u8_in a h
theorem ac1{x y:Operand}{t t' : TypeId}{k:IntKind}{a b e:Int}(d:ev n s x = .int k a)(f:ev n s y = .int k b)
 (hb:b≠0) (c:k.wrap (a.tdiv b)=e) {dd:Option Nat} :
 (execOp (ev n s) ⟨dd,.binOp .quo t x y t', ty,pos,af,g⟩).run P w = .ok (.value (.int k e)) w:=by simp[execOp,d,f,AX,binOp,Op.intDiv,hb,c]
theorem quo{x y:Operand}{t t' : TypeId}{k:IntKind}{a b e:Int}(c:gB ops n s g=true)(h:ev n s x = .int k a)(i:ev n s y = .int k b)
 (hb:b≠0) (f:k.wrap (a.tdiv b)=e) (K:WL r P ops Q rest (Fr n ((d,.int k e) :: s) ds) w) :
 WL r P ops Q (⟨some d,.binOp .quo t x y t', ty,pos,af,g⟩ :: rest) (Fr n s ds) w:=pw c (fun _=>ac1 h i hb f) K
theorem ac7{x y:Operand}{t t' : TypeId}{k:IntKind}{a b e:Int}(d:ev n s x = .int k a)(f:ev n s y = .int k b)
 (hb:b≠0) (c:a.tmod b=e) {dd:Option Nat} :
 (execOp (ev n s) ⟨dd,.binOp .rem t x y t', ty,pos,af,g⟩).run P w = .ok (.value (.int k e)) w:=by simp[execOp,d,f,AX,binOp,Op.intDiv,hb,c]
theorem rem{x y:Operand}{t t' : TypeId}{k:IntKind}{a b e:Int}(c:gB ops n s g=true)(h:ev n s x = .int k a)(i:ev n s y = .int k b)
 (hb:b≠0) (f:a.tmod b=e) (K:WL r P ops Q rest (Fr n ((d,.int k e) :: s) ds) w) :
 WL r P ops Q (⟨some d,.binOp .rem t x y t', ty,pos,af,g⟩ :: rest) (Fr n s ds) w:=pw c (fun _=>ac7 h i hb f) K
def tw(op:BinOp)(k:IntKind)(x y:Int):Option Int :=
 let a:=BitVec.ofInt k.bits x
 let b:=BitVec.ofInt k.bits y
 match op with
 | .and=>some (k.wrap (a &&& b).toNat)
 | .or=>some (k.wrap (a ||| b).toNat)
 | .xor=>some (k.wrap (a ^^^ b).toNat)
 | .andNot=>some (k.wrap (a &&& ~~~b).toNat)
 | _=>none
theorem UX{op:BinOp}{x y:Operand}{t t' : TypeId}{k:IntKind}{a b e:Int}(d:ev n s x = .int k a)(f:ev n s y = .int k b)
 (c:tw op k a b=some e) {dd:Option Nat} :
 (execOp (ev n s) ⟨dd,.binOp op t x y t', ty,pos,af,g⟩).run P w = .ok (.value (.int k e)) w:=by
 simp only[tw]at c
 cases op<;>simp at c<;>simp[execOp,d,f,AX,binOp,Op.intBits,c]
theorem bi{op:BinOp}{x y:Operand}{t t' : TypeId}{k:IntKind}{a b e:Int}(c:gB ops n s g=true)(h:ev n s x = .int k a)(i:ev n s y = .int k b)
 (f:tw op k a b=some e) (K:WL r P ops Q rest (Fr n ((d,.int k e) :: s) ds) w) :
 WL r P ops Q (⟨some d,.binOp op t x y t', ty,pos,af,g⟩ :: rest) (Fr n s ds) w:=pw c (fun _=>UX h i f) K
theorem ad7{x y:Operand}{t t' : TypeId}{k i:IntKind}{a b e:Int}(f:ev n s x = .int k a)(h:ev n s y = .int i b)
 (hb:0<=b) (d:a.fdiv (2 ^ (min b.toNat k.bits))=e) {dd:Option Nat} :
 (execOp (ev n s) ⟨dd,.binOp .shr t x y t', ty,pos,af,g⟩).run P w = .ok (.value (.int k e)) w:=by
 have c : ¬ b<0:=by omega
 simp[execOp,f,h,AX,binOp,Op.shift,c, d]
theorem shr{x y:Operand}{t t' : TypeId}{k j:IntKind}{a b e:Int}(c:gB ops n s g=true)(h:ev n s x = .int k a)(i:ev n s y = .int j b)
 (hb:0<=b) (f:a.fdiv (2 ^ (min b.toNat k.bits))=e) (K:WL r P ops Q rest (Fr n ((d,.int k e) :: s) ds) w) :
 WL r P ops Q (⟨some d,.binOp .shr t x y t', ty,pos,af,g⟩ :: rest) (Fr n s ds) w:=pw c (fun _=>ad7 h i hb f) K
theorem Q5{x:Operand}{t:TypeId}{b c:Bool}(d:ev n s x = .bool b)(a:(!b)=c){dd:Option Nat} :
 (execOp (ev n s) ⟨dd,.unOp .not t x,ty,pos,af,g⟩).run P w = .ok (.value (.bool c)) w:=by simp[execOp,d,Op.unary,a]
theorem V9{x:Operand}{t t' : TypeId}{k k' : IntKind}{u:TypeDesc}{a e:Int}(d:ev n s x = .int k a)
 (hs:P.underlying t=some u) (b:P.underlying t' = some (.int k')) (c:k'.wrap a=e) {dd:Option Nat} :
 (execOp (ev n s) ⟨dd,.convert t t' x,ty,pos,af,g⟩).run P w = .ok (.value (.int k' e)) w:=by simp[execOp,d,convert,run_underlying hs,run_underlying b,Conv.intToInt,c]
theorem EL{x:Operand}{i:Nat}{vs:Array Value}{v:Value}(a:ev n s x = .tuple vs)(hv:vs[i]? = some v){dd:Option Nat} :
 (execOp (ev n s) ⟨dd,.extract x i,ty,pos,af,g⟩).run P w = .ok (.value v) w:=by simp[execOp,a,Instr.extract,hv]
theorem Jz{x:Operand}{t e:TypeId}{a:Option Addr}{m c:Nat}(d:ev n s x = .slice a m c)(b:P.underlying t=some (.slice e)){dd:Option Nat} :
 (execOp (ev n s) ⟨dd,.call ⟨.builtin .len,#[x],#[t]⟩,ty,pos,af,g⟩).run P w = .ok (.value (.int .i64 m)) w:=by simp[execOp,resolve,invoke,builtin,d,Builtin.len_,run_underlying b];rfl
theorem Fc{x:Operand}{t e:TypeId}{a:Option Addr}{m c:Nat}(b:gB ops n s g=true)(h:ev n s x = .slice a m c)(f:P.underlying t=some (.slice e))
 (K:WL r P ops Q rest (Fr n ((d,.int .i64 m) :: s) ds) w) :
 WL r P ops Q (⟨some d,.call ⟨.builtin .len,#[x],#[t]⟩,ty,pos,af,g⟩ :: rest) (Fr n s ds) w:=pv b rfl (Jz h f) K
theorem wv{x:Operand}{a:Addr}(b:ev n s x = .pointer (some a)){dd:Option Nat} :
 (execOp (ev n s) ⟨dd,.nilCheck x,ty,pos,af,g⟩).run P w = .ok (.value (.pointer (some a))) w:=by simp[execOp,b]
theorem rR{x:Operand}{a:Addr}(b:gB ops n s g=true)(c:ev n s x = .pointer (some a))
 (K:WL r P ops Q rest (Fr n ((d,.pointer (some a)) :: s) ds) w) :
 WL r P ops Q (⟨some d,.nilCheck x,ty,pos,af,g⟩ :: rest) (Fr n s ds) w:=pw b (fun _=>wv c) K
theorem abr{fn:Fn}{fi ca:List Operand}{vf vc:List Value}(b:fi.map (ev n s)=vf)(a:ca.map (ev n s)=vc){dd:Option Nat} :
 (execOp (ev n s) ⟨dd,.makeFunc fn fi.toArray ca.toArray,ty,pos,af,g⟩).run P w = .ok (.value (.func fn vf.toArray vc.toArray)) w:=by subst b a;simp[execOp,Instr.makeFunc]
theorem mD{fn:Fn}{fi ca:List Operand}{vf vc:List Value}(c:gB ops n s g=true)(b:fi.map (ev n s)=vf)(a:ca.map (ev n s)=vc)
 (K:WL r P ops Q rest (Fr n ((d,.func fn vf.toArray vc.toArray) :: s) ds) w) :
 WL r P ops Q (⟨some d,.makeFunc fn fi.toArray ca.toArray,ty,pos,af,g⟩ :: rest) (Fr n s ds) w:=pv c rfl (abr b a) K
theorem ZS{x y:Operand}{t:TypeId}{k:IntKind}{b:ByteArray}{i:Int}{c:UInt8}(f:ev n s x = .string b)(h:ev n s y = .int k i)
 (e:P.underlying t=some .string) (a:0<=i) (d:b[i.toNat]? = some c) {dd:Option Nat} :
 (execOp (ev n s) ⟨dd,.index t x y,ty,pos,af,g⟩).run P w = .ok (.value (.int .u8 c.toNat)) w:=by simp[execOp,f,h,Instr.index,asIntOf,run_underlying e,a,d]
theorem ZQ{x y:Operand}{t:TypeId}{k:IntKind}{b:ByteArray}{i:Int}{c:UInt8}(f:gB ops n s g=true)(j:ev n s x = .string b)(l:ev n s y = .int k i)
 (h:P.underlying t=some .string) (a:0<=i) (e:b[i.toNat]? = some c) (K:WL r P ops Q rest (Fr n ((d,.int .u8 c.toNat) :: s) ds) w) :
 WL r P ops Q (⟨some d,.index t x y,ty,pos,af,g⟩ :: rest) (Fr n s ds) w:=pw f (fun _=>ZS j l h a e) K
end
end Go.Sx
namespace Go.Sx
open Go
section
variable {r:Option Nat} {P:Program} {Q:Exit->Act->World->Prop} {n:Nat} {s:List (Nat×Value)} {ds:List Deferred} {w w' : World}
theorem rg{id:Nat}{l:List Oper}(h:WL r P l.toArray Q l (Fr n s ds) w):WP r P (.region id l.toArray false) Q (Fr n s ds) w:=wpIn_region_lit (Lp _ _ _ h.out)
theorem sp(h:Q .normal (Fr n s ds) w):WP r P .skip Q (Fr n s ds) w:=wpIn_skip h
theorem bk{id:Nat}{c:Code}(h:WP r P c (Exit.inBlock id Q) (Fr n s ds) w):WP r P (.block id c) Q (Fr n s ds) w:=wpIn_block h
theorem xt{id:Nat}(h:Q (.exit id) (Fr n s ds) w):WP r P (.exit id) Q (Fr n s ds) w:=wpIn_exit h
theorem rt(h:Q .ret (Fr n s ds) w):WP r P .ret Q (Fr n s ds) w:=wpIn_ret h
theorem U9{c:Operand}{x y:Code}(a:ev n s c = .bool true)(h:WP r P x Q (Fr n s ds) w):WP r P (.cond c x y) Q (Fr n s ds) w :=
 wpIn_cond_true (by rw[DQ];exact a) h
theorem U8{c:Operand}{x y:Code}(a:ev n s c = .bool false)(h:WP r P y Q (Fr n s ds) w):WP r P (.cond c x y) Q (Fr n s ds) w :=
 wpIn_cond_false (by rw[DQ];exact a) h
section
variable {K:Act->World->Prop} {a:Act} {i j:Nat} {ch:List PanicEntry}
theorem tN(h:K a w):Exit.then K Q .normal a w:=h
theorem bX(h:Q .normal a w):Exit.inBlock i Q (.exit i) a w:=by simp only[Exit.inBlock,if_true];exact h
theorem HM(b:Nat.beq j i=false)(h:Q (.exit j) a w):Exit.inBlock i Q (.exit j) a w:=by
 have:¬ j=i:=fun e=>by subst e;simp at b
 simp only[Exit.inBlock,this,if_false];exact h
end
def LR{α:Type}(n:Nat)(ds:List Deferred)(pre:α->List (Nat×Value))(C:α->World->Prop)(μ:α->Nat)(m:Nat)(a:Act)(w:World):Prop :=
 ∃ x s,a=Fr n s ds/\Holds s (pre x)/\C x w/\μ x<m
theorem again{α:Type}{pre:α->List (Nat×Value)}{C:α->World->Prop}{μ:α->Nat}{m:Nat}(x:α)(h:Holds s (pre x))(a:C x w)(hm:μ x<m):LR n ds pre C μ m (Fr n s ds) w :=
 ⟨x,s,rfl,h,a,hm⟩
theorem lp{α:Type}{c:Code}(pre:α->List (Nat×Value))(C:α->World->Prop)(μ:α->Nat)(i:α)(q:Holds s (pre i))(t:C i w)
 (G:∀ x H w', C x w' -> WP r P c (Exit.then (LR n ds pre C μ (μ x)) Q) (Fr n (pre x++H) ds) w'):WP r P (.loop c) Q (Fr n s ds) w:=by
 intro b k cs D hb h
 have key:∀ j x s w,μ x=j->Holds s (pre x)->C x w ->
  ∃ e a' w', Q e a' w' /\ ArrivesIn (Machine.fenced P (FW r)) P (lone (b.atR (Fr n s ds) (.code c :: .inLoop c :: k)) cs w) b k cs e a' w' := by
  intro j
  induction j using Nat.strongRecOn with
  | _ j F =>
   intro x s w A hs v
   obtain⟨e,g,f,d,a⟩:=G x s w v b (.inLoop c :: k) cs D hb h
   rw[<-Ub (pre x) hs]at a
   cases e with
   | normal =>
    obtain⟨m,I,rfl,E,u,z⟩:=d
    obtain⟨p,o,J,B,y⟩:=F (μ m) (A▸z) m I f rfl E u
    exact⟨p,o,J,B,.of_steps (StepsIn.trans a (.one (fenced_calm hb h rfl) stepR_inLoop)) y⟩
   | exit id=>exact⟨_,g,f,d,.pass (x:=.inLoop c) rfl (fun _ _=>.inl s_) a⟩
   | goto l=>exact⟨_,g,f,d,.pass (x:=.inLoop c) rfl (fun _ _=>.inl s_) a⟩
   | ret=>exact⟨_,g,f,d,.pass (x:=.inLoop c) rfl (fun _ _=>.inl s_) a⟩
   | panic ch=>exact⟨_,g,f,d,.pass (x:=.inLoop c) rfl (fun _ _=>.inl s_) a⟩
   | outgrown=>exact⟨_,g,f,d,.pass (x:=.inLoop c) rfl (fun _ _=>.inl s_) a⟩
 obtain⟨e,a', w', d,a⟩:=key _ i s w rfl q t
 exact⟨e,a', w', d,.of_steps (.one (fenced_calm hb h rfl) stepR_loop) a⟩
def BB(r:Option Nat)(P:Program)(c:Code)(Q:Exit->Act->World->Prop):Nat->Act->World->Prop
 | 0,_,_=>False
 | k+1,a,w=>WP r P c (Exit.then (BB r P c Q k) Q) a w
theorem ri{c:Code}(k:Nat)(h:BB r P c Q k (Fr n s ds) w):WP r P (.loop c) Q (Fr n s ds) w:=by
 intro b kk cs t hb j
 have key:∀ k a w,BB r P c Q k a w ->
  ∃ e a' w', Q e a' w' /\ ArrivesIn (Machine.fenced P (FW r)) P (lone (b.atR a (.code c :: .inLoop c :: kk)) cs w) b kk cs e a' w' := by
  intro k
  induction k with
  | zero=>intro a w h;exact h.elim
  | succ k u =>
   intro a w h
   obtain⟨e,g,i,f,d⟩:=h b (.inLoop c :: kk) cs t hb j
   cases e with
   | normal =>
    obtain⟨o,m,v,q,p⟩:=u g i f
    exact⟨o,m,v,q,.of_steps (StepsIn.trans d (.one (fenced_calm hb j rfl) stepR_inLoop)) p⟩
   | exit id=>exact⟨_,g,i,f,.pass (x:=.inLoop c) rfl (fun _ _=>.inl s_) d⟩
   | goto l=>exact⟨_,g,i,f,.pass (x:=.inLoop c) rfl (fun _ _=>.inl s_) d⟩
   | ret=>exact⟨_,g,i,f,.pass (x:=.inLoop c) rfl (fun _ _=>.inl s_) d⟩
   | panic ch=>exact⟨_,g,i,f,.pass (x:=.inLoop c) rfl (fun _ _=>.inl s_) d⟩
   | outgrown=>exact⟨_,g,i,f,.pass (x:=.inLoop c) rfl (fun _ _=>.inl s_) d⟩
 obtain⟨e,a', w', f,d⟩:=key k _ w h
 exact⟨e,a', w', f,.of_steps (.one (fenced_calm hb j rfl) stepR_loop) d⟩
theorem iz{c:Code}{k:Nat}{a:Act}(h:WP r P c (Exit.then (BB r P c Q k) Q) a w):BB r P c Q (k+1) a w:=h
def vJ:List Value->Nat->List (Nat×Value)
 | [],_=>[]
 | v :: vs,i=>(i,v) :: vJ vs (i+1)
theorem aaZ(vs:List Value):∀ i t,i<=t->look (vJ vs i) t=(vs[t-i]?).getD undef:=by
 induction vs with
 | nil=>intro i t _;simp[vJ,look]
 | cons v vs a =>
  intro i t h
  rw[vJ,CB]
  split
  . rename_i e;subst e;simp
  . rename_i e
    rw[a (i+1) t o_]
    rw[show t-i=(t-(i+1))+1 by omega]
    simp
theorem LS(vs:List Value)(n:Nat)(h:vs.length<=n):({ tmps:=vs.toArray++Array.replicate (n-vs.toArray.size) undef,defers:=[] }:Act)=Fr n (vJ vs 0) []:=by
 unfold Fr
 simp only[Act.mk.injEq,and_true]
 apply Array.ext
 . simp;omega
 . intro i a b
   simp only[Array.getElem_ofFn]
   rw[aaZ vs 0 i o_]
   by_cases hi:i<vs.length
   . rw[Array.getElem_append_left (by simpa using hi)]
     simp[hi]
   . rw[Array.getElem_append_right (by simpa using hi)]
     simp[hi]
def CR(P:Program)(f:FuncId)(vs:Array Value)(w:World)(R:Value->World->Prop):Prop :=
 Calls P f vs w fun e w' => ∃ v,e = .returned v/\R v w'
theorem CR.mono{f:FuncId}{vs:Array Value}{R R' : Value->World->Prop}(h:CR P f vs w R)(c:∀ v w', R v w' -> R' v w'):CR P f vs w R' :=
 Calls.mono h fun e w' ⟨v,b,a⟩=>⟨v,b,c v w' a⟩
theorem enter{f:FuncId}{fn:Func}{c:Code}{vs:List Value}{R:Ending->World->Prop}(a:P.funcs[f]? = some fn)(hb:fn.body=some c)(b:fn.ntmps=n)(hs:Nat.ble vs.length n=true)
 (h:WP none P c (bodyPost P fn R) (Fr n (vJ vs 0) []) w):Calls P f vs.toArray w R:=by
 refine uw.1 (callsIn_of_wp (F:=FW none) (n:=0) a hb trivial ?_)
 rw[b,LS vs n (oV hs)]
 exact h
theorem qi(t:Nat):(Fr n s ds).tmps.getD t undef=ev n s (.tmp t):=DQ n s ds (.tmp t)
theorem gq{fn:Func}{t:Nat}{v:Value}{R:Value->World->Prop}(a:fn.results = #[.tmp t])(hv:ev n s (.tmp t)=v)(h:R v w) :
 bodyPost P fn (fun e w' => ∃ v,e = .returned v/\R v w') .ret (Fr n s []) w :=
 ⟨rfl,_,results_tmp a _ _ _,_,rfl,by rw[qi,hv];exact h⟩
theorem yC{fn:Func}{R:Value->World->Prop}(a:fn.results = #[])(h:R (.tuple #[]) w) :
 bodyPost P fn (fun e w' => ∃ v,e = .returned v/\R v w') .ret (Fr n s []) w :=
 ⟨rfl,_,results_none a _ _ _,_,rfl,h⟩
theorem iQ{fn:Func}{R:Value->World->Prop}(a:fn.results = #[])(h:R (.tuple #[]) w) :
 bodyPost P fn (fun e w' => ∃ v,e = .returned v/\R v w') .normal (Fr n s []) w :=
 ⟨rfl,_,results_none a _ _ _,_,rfl,h⟩
theorem iC{fn:Func}{t u:Nat}{v v' : Value}{R:Value->World->Prop}(a:fn.results = #[.tmp t,.tmp u])(hv:ev n s (.tmp t)=v)(b : ev n s (.tmp u)=v')(h:R (.tuple #[v,v']) w) :
 bodyPost P fn (fun e w' => ∃ v,e = .returned v/\R v w') .ret (Fr n s []) w :=
 ⟨rfl,_,results_tmp2 a _ _ _,_,rfl,by rw[qi,qi,hv,b];exact h⟩
theorem adi {fn:Func}{t u x:Tmp}(h:fn.results = #[.tmp t,.tmp u,.tmp x])(tmps:Array Value)(P:Program)(w:World) :
 (results fn tmps).run P w = .ok (.tuple #[tmps.getD t undef,tmps.getD u undef,tmps.getD x undef]) w:=by
 simp[results,h]
theorem tK{fn:Func}{t u x:Nat}{v v' v'' : Value}{R:Value->World->Prop}(a:fn.results = #[.tmp t,.tmp u,.tmp x])(hv:ev n s (.tmp t)=v)(b : ev n s (.tmp u)=v')(c : ev n s (.tmp x)=v'')(h:R (.tuple #[v,v', v'']) w) :
 bodyPost P fn (fun e w' => ∃ v,e = .returned v/\R v w') .ret (Fr n s []) w :=
 ⟨rfl,_,adi a _ _ _,_,rfl,by rw[qi,qi,qi,hv,b, c];exact h⟩
variable {ops:Array Oper} {rest:List Oper} {d:Option Nat} {ty:TypeId} {pos:String} {af:Array Edge} {g:Option (Nat×Bool)}
def kj(d:Option Nat)(v:Value)(s:List (Nat×Value)):List (Nat×Value):=match d with|some i=>(i,v) :: s|none=>s
theorem zG(d:Option Nat)(v:Value):(Fr n s ds).put d v=Fr n (kj d v s) ds:=by
 cases d with
 | none=>rfl
 | some i=>exact zF n s ds i v
abbrev gi(P:Program)(f:FuncId):Prop:=∀ (args:Array Value) (w:World),(callFunc f args).run P w = .ok (.enter f args) w
theorem Fj (a:List Operand):a.toArray.map (ev n s)=(a.map (ev n s)).toArray:=by simp
theorem jI{f:FuncId}{a:List Operand}{T:Array TypeId}{vl:List Value}{R:Value->World->Prop}(i:gB ops n s g=true)(hvs:a.map (ev n s)=vl)(h:gi P f)
 (c:CR P f vl.toArray w R) (K:∀ v w', R v w' -> WL r P ops Q rest (Fr n (kj d v s) ds) w') :
 WL r P ops Q (⟨d,.call ⟨.value (.func f),a.toArray,T⟩,ty,pos,af,g⟩ :: rest) (Fr n s ds) w:=by
 refine TS (f:=f) (args:=vl.toArray) (w' := w) i rfl ?_ (Calls.mono c ?_)
 . simp only[execOp,resolve,invoke,Deferred.ofValue,Fj, hvs]
   simp[ev,h _ _]
 . rintro e w' ⟨v,rfl,b⟩
   simp only[zG]
   exact K v w' b
theorem qg{x:Operand}{f:FuncId}{fi ca:List Value}{a:List Operand}{T:Array TypeId}{vl:List Value}{R:Value->World->Prop}(i:gB ops n s g=true)
 (j:ev n s x = .func (.func f) fi.toArray ca.toArray) (hvs:fi++a.map (ev n s)++ca=vl) (h:gi P f)
 (c:CR P f vl.toArray w R) (K:∀ v w', R v w' -> WL r P ops Q rest (Fr n (kj d v s) ds) w') :
 WL r P ops Q (⟨d,.call ⟨.value x,a.toArray,T⟩,ty,pos,af,g⟩ :: rest) (Fr n s ds) w:=by
 refine TS (f:=f) (args:=vl.toArray) (w' := w) i rfl ?_ (Calls.mono c ?_)
 . subst hvs
   simp only[execOp,resolve,invoke,Deferred.ofValue,Fj, j]
   simp[h _ _]
 . rintro e w' ⟨v,rfl,b⟩
   simp only[zG]
   exact K v w' b
end
end Go.Sx
namespace Go.Sx
open Go
structure gx (S:List Nat) (w w' : World):Prop where
 os:w'.os=w.os
 tape:w'.tape=w.tape
 output:w'.output=w.output
 size:w.heap.size<=w'.heap.size
 block:∀ b,b<w.heap.size->b∉S->w'.heap[b]? = w.heap[b]?
theorem gx.refl(S:List Nat)(w:World):gx S w w:=⟨rfl,rfl,rfl,zk _,fun _ _ _=>rfl⟩
theorem gx.trans{S:List Nat}{a b c:World}(h:gx S a b)(k:gx S b c):gx S a c :=
 ⟨k.os.trans h.os,k.tape.trans h.tape,k.output.trans h.output,kS h.size k.size,fun i hi d=>(k.block i (nX hi h.size) d).trans (h.block i hi d)⟩
theorem gx.mono{S c : List Nat}{a b:World}(h:gx S a b)(hs:∀ x∈S,x∈c):gx c a b :=
 ⟨h.os,h.tape,h.output,h.size,fun i hi d=>h.block i hi (fun e=>d (hs i e))⟩
theorem gx.drew(S:List Nat)(w:World):gx S w w.drew:=⟨rfl,rfl,rfl,zk _,fun _ _ _=>rfl⟩
theorem gx.alloc(S:List Nat)(w:World)(o:Obj):gx S w (w.alloc o) :=
 ⟨rfl,rfl,rfl,s_,fun b hb _=>RowKit.Below.heap_alloc w o b hb⟩
theorem gx.setRow(w:World)(g:Nat)(cs:Array Value):gx [g] w (w.setRow g cs) :=
 ⟨rfl,rfl,rfl,s_,fun b _ hb=>setRow_other w g b cs (by simpa using hb)⟩
theorem gx.abV{w w' : World}{row:Option Nat}(h:w.grownBy w' row):gx row.toList w w' :=
 ⟨h.os,h.tape,h.output,h.size,fun b hb a=>h.block b hb (fun e=>a (by rw[<-e];simp))⟩
theorem gx.below{w w' : World}(h:gx [] w w'):RowKit.Below w.heap.size w w' :=
 ⟨h.os,h.tape,h.output,h.size,fun b hb=>h.block b hb s_⟩
structure fU where
 gG:List Nat
 holds:World->Prop
 loc:∀ w w', (∀ b∈gG,w'.heap[b]? = w.heap[b]?)->holds w->holds w'
def blk(b:Nat)(T:TypeId)(cs:List Value):fU where
 gG:=[b]
 holds w:=w.heap[b]? = some (.cells cs.toArray T (0,0))
 loc w w' h hh:=(h b s_).trans hh
def row(v:Value)(e:TypeId)(sz m:Nat)(xs:List Value):fU where
 gG:=v.ownBlock.toList
 holds w:=w.ownsRow 0 e sz v m xs
 loc w w' h hh:=by
  refine⟨hh.1,?_⟩
  rcases hh.2 with c|⟨g,a,cur,rfl,hb,b,rest⟩
  . exact .inl c
  . exact .inr ⟨g,a,cur,rfl,hb,(h g (by simp[Value.ownBlock])).trans b,rest⟩
def iU(L:List fU):List Nat:=L.flatMap (·.gG)
structure Bs (wb:World) (X:List Nat) (L:List fU) (w:World):Prop where
 gz:gx X wb w
 mine:∀ b∈iU L,b∈X\/wb.heap.size<=b
structure St (bs:List (World×List Nat)) (L:List fU) (w:World):Prop where
 base:∀ p∈bs,Bs p.1 p.2 L w
 own:∀ R∈L,R.holds w
 sep:(iU L).Nodup
 lt:∀ b∈iU L,b<w.heap.size
variable {bs:List (World×List Nat)} {L L' : List fU} {w w' w0:World}
theorem St.init(w:World):St [(w,[])] [] w :=
 ⟨fun p hp=>by simp only[zz]at hp;subst hp;exact⟨gx.refl _ _,by simp[iU]⟩,s_,by simp[iU],by simp[iU]⟩
theorem St.PV(w:World)(L:List fU)(d:∀ R∈L,R.holds w)(c:(iU L).Nodup)(a:∀ b∈iU L,b<w.heap.size):St [(w,iU L)] L w :=
 ⟨fun p hp=>by simp only[zz]at hp;subst hp;exact⟨gx.refl _ _,fun b hb=>.inl hb⟩,d,c,a⟩
theorem St.gz{X:List Nat}(h:St bs L w)(hb:(w0,X)∈bs):gx X w0 w:=(h.base _ hb).gz
theorem St.keep{X:List Nat}(h:St bs L w)(hb:(w0,X)∈bs){b:Nat}(c:b<w0.heap.size)(a:b∉X):w.heap[b]? = w0.heap[b]? :=
 (h.base _ hb).gz.block b c a
theorem St.HS{X:List Nat}(h:St bs L w)(hb:(w0,X)∈bs){a:Addr}{v:Value}(b:w0.cell? a=some v)(c:a.block∉X):w.cell? a=some v :=
 (World.cell?_of_block (h.keep hb (World.block_lt_of_cell? w0 a b) c)).trans b
theorem lZ(R:fU)(L:List fU):iU (R :: L)=R.gG++iU L:=by simp[iU]
theorem rP{R:fU}{L:List fU}{i:Nat}(hi:L[i]? = some R){b:Nat}(hb:b∈R.gG):b∈iU L :=
 qy.2 ⟨R,zd hi,hb⟩
theorem St.iJ{i:Nat}{R R' : fU}(h:St bs L w)(hi:L[i]? = some R)(k:gx R.gG w w')(t:∀ b∈R'.gG,b∈R.gG\/w.heap.size<=b)
 (E:R'.gG.Nodup) (r:∀ b∈R'.gG,b<w'.heap.size) (F:R'.holds w'):St bs (L.set i R') w' := by
 obtain⟨f,j,rfl,D⟩:∃ f j,L=f++R :: j/\f.length=i:=by
  have r:=(zg.1 hi).1
  refine⟨L.take i,L.drop (i+1),?_,by simp;omega⟩
  have:=(zg.1 hi).2
  rw[<-this,<-Bt r,u9]
 have G:(f++R :: j).set i R' = f++R' :: j:=by rw[<-D];simp
 have g:∀ R:fU,iU (f++R :: j)=iU f++(R.gG++iU j):=fun R=>by simp[iU]
 rw[G]
 have y:=h.sep
 rw[g,zr]at y
 obtain⟨n1,A,B⟩:=y
 rw[zr]at A
 obtain⟨J,H,I⟩:=A
 have m:∀ b,b∈iU f\/b∈iU j->b<w.heap.size/\b∉R.gG:=by
  intro b hb
  refine⟨h.lt b (by rw[g];simp only[zm];rcases hb with hb|hb<;>simp[hb]),fun o=>?_⟩
  rcases hb with hb|hb
  . exact B b hb b (by simp[o]) rfl
  . exact I b o b hb rfl
 have u:∀ b,b∈iU f\/b∈iU j->w'.heap[b]? = w.heap[b]? := fun b hb=>k.block b (m b hb).1 (m b hb).2
 refine⟨fun p hp=>?_,fun X s=>?_,?_,?_⟩
 . have hb:=h.base p hp
   refine⟨⟨k.os.trans hb.gz.os,k.tape.trans hb.gz.tape,k.output.trans hb.gz.output,kS hb.gz.size k.size,fun b v z=>?_⟩,fun b q => ?_⟩
   . refine(k.block b (nX v hb.gz.size) (fun o=>?_)).trans (hb.gz.block b v z)
     rcases hb.mine b (by rw[g];simp[o])with d|d
     . exact z d
     . omega
   . rw[g]at q
     simp only[zm]at q
     rcases q with d|d|d
     . exact hb.mine b (by rw[g];simp[d])
     . rcases t b d with l|l
       . exact hb.mine b (by rw[g];simp[l])
       . exact .inr (kS hb.gz.size l)
     . exact hb.mine b (by rw[g];simp[d])
 . simp only[zm,zb]at s
   rcases s with d|rfl|d
   . exact X.loc w w' (fun b hb=>u b (.inl (qy.2 ⟨X,d,hb⟩))) (h.own X (by simp[d]))
   . exact F
   . exact X.loc w w' (fun b hb=>u b (.inr (qy.2 ⟨X,d,hb⟩))) (h.own X (by simp[d]))
 . rw[g,zr]
   have x:∀ b,(b∈iU f\/b∈iU j)->∀ c∈R'.gG,b≠c:=by
    rintro b hb c C rfl
    rcases t b C with l|l
    . exact(m b hb).2 l
    . have:=(m b hb).1;omega
   refine⟨n1,zr.2 ⟨E,H,fun a n b hb e=>x b (.inr hb) a n e.symm⟩,fun a n b hb=>?_⟩
   simp only[zm]at hb
   rcases hb with hb|hb
   . exact x a (.inl n) b hb
   . exact B a n b (by simp[hb])
 . intro b hb
   rw[g]at hb
   simp only[zm]at hb
   rcases hb with d|d|d
   . exact nX (m b (.inl d)).1 k.size
   . exact r b d
   . exact nX (m b (.inr d)).1 k.size
theorem St.grow(h:St bs L w)(a:gx [] w w'):St bs L w' :=
 ⟨fun p hp=>by
  have hb:=h.base p hp
  exact⟨⟨a.os.trans hb.gz.os,a.tape.trans hb.gz.tape,a.output.trans hb.gz.output,kS hb.gz.size a.size,
   fun b d e=>(a.block b (nX d hb.gz.size) s_).trans (hb.gz.block b d e)⟩,hb.mine⟩,
  fun X c=>X.loc w w' (fun b hb=>a.block b (h.lt b (qy.2 ⟨X,c,hb⟩)) s_) (h.own X c),
  h.sep,fun b hb=>nX (h.lt b hb) a.size⟩
theorem St.add{R:fU}{lo:Nat}(h:St bs L w)(g:∀ p∈bs,p.1.heap.size<=lo)(i : ∀ b∈iU L,b<lo)(d:∀ b∈R.gG,lo<=b)(k:R.gG.Nodup)(j:∀ b∈R.gG,b<w.heap.size)(l:R.holds w):St bs (R :: L) w:=by
 refine⟨fun p hp=>⟨(h.base p hp).gz,fun b hb=>?_⟩,fun X c=>?_,?_,?_⟩
 . rw[lZ,zm]at hb
   rcases hb with hb|hb
   . exact .inr (kS (g p hp) (d b hb))
   . exact(h.base p hp).mine b hb
 . simp only[zb]at c
   rcases c with rfl|c
   . exact l
   . exact h.own X c
 . rw[lZ,zr]
   exact⟨k,h.sep,fun a f b hb e=>by have m:=d a f;have n:=i b hb;omega⟩
 . intro b hb
   rw[lZ,zm]at hb
   rcases hb with hb|hb
   . exact j b hb
   . exact h.lt b hb
theorem St.sK{R:fU}(h:St bs L w)(a:gx [] w w')(c:∀ b∈R.gG,w.heap.size<=b)(e:R.gG.Nodup)(d:∀ b∈R.gG,b<w'.heap.size)(f:R.holds w'):St bs (R :: L) w' :=
 (h.grow a).add (lo:=w.heap.size) (fun p hp=>(h.base p hp).gz.size) h.lt c e d f
theorem St.sub(h:St bs L w)(hs:L'.Sublist L):St bs L' w:=by
 have hm:∀ b∈iU L', b∈iU L:=fun b hb=>by
  obtain⟨X,c,e⟩:=qy.1 hb
  exact qy.2 ⟨X,hs.subset c,e⟩
 refine⟨fun p hp=>⟨(h.base p hp).gz,fun b hb=>(h.base p hp).mine b (hm b hb)⟩,fun X c=>h.own X (hs.subset c),?_,fun b hb=>h.lt b (hm b hb)⟩
 exact h.sep.sublist (by
  clear h hm
  induction hs with
  | slnil=>exact List.Sublist.slnil
  | cons a _ d=>rw[lZ];exact d.trans (List.sublist_append_right _ _)
  | cons_cons a _ d=>rw[lZ,lZ];exact List.Sublist.append_left d _)
theorem St.En{i b:Nat}{T:TypeId}{cs:List Value}(h:St bs L w)(hi:L[i]? = some (blk b T cs)):w.heap[b]? = some (.cells cs.toArray T (0,0)) :=
 h.own _ (zd hi)
theorem St.rH{i b o:Nat}{T:TypeId}{cs:List Value}{v:Value}(h:St bs L w)(hi:L[i]? = some (blk b T cs))(hv:cs[o]? = some v):w.cell? ⟨b,o,none⟩=some v:=by
 rw[cell_of_row w b o cs.toArray T (0,0) (h.En hi)]
 simpa using hv
def setAt(cs:List Value)(o:Nat)(vs:List Value):List Value:=cs.take o++vs++cs.drop (o+vs.length)
abbrev TI(P:Program)(t:TypeId)(sz by_:Nat)(z:Value):Prop:=(P.info? t).map (fun i=>(i.size,i.bytes,i.zero))=some (sz,by_,some z)
theorem TI.get{P:Program}{t:TypeId}{sz by_:Nat}{z:Value}(h:TI P t sz by_ z):∃ i,P.info? t=some i/\i.size=sz/\i.bytes=by_/\i.zero=some z:=by
 unfold TI at h
 cases hi:P.info? t with
 | none=>rw[hi]at h;simp at h
 | some i=>rw[hi]at h;simp at h;exact⟨i,rfl,h.1,h.2.1,h.2.2⟩
variable {P:Program} {t:TypeId} {sz by_:Nat} {z:Value}
theorem TI.size(h:TI P t sz by_ z)(w:World):(sizeOf t).run P w = .ok sz w:=by
 obtain⟨i,hi,a,_,_⟩:=h.get
 simp[sizeOf,typeInfo,hi,a]
theorem TI.zC(h:TI P t sz by_ z)(w:World):(zeroValue t).run P w = .ok z w:=by
 obtain⟨i,hi,_,_,a⟩:=h.get
 simp[zeroValue,typeInfo,hi,a]
def j4:TypeDesc->Bool
 | .struct _ | .array _ _=>true
 | _=>false
section
variable {r:Option Nat} {ops:Array Oper} {Q:Exit->Act->World->Prop} {rest:List Oper} {n:Nat} {s:List (Nat×Value)} {ds:List Deferred}
variable {d:Nat} {ty:TypeId} {pos:String} {af:Array Edge} {g:Option (Nat×Bool)} {v:Value} {x y:Operand} {u:TypeDesc}
theorem wJ(a:P.underlying t=some u)(w:World):(isAgg t).run P w = .ok (j4 u) w:=by
 unfold isAgg
 cases u<;>simp[run_underlying a,j4]
theorem kW{a:Addr}(d:ev n s x = .pointer (some a))(c:P.underlying t=some u)(b:j4 u=false)(hv:w.cell? a=some v){dd:Option Nat} :
 (execOp (ev n s) ⟨dd,.load t x,ty,pos,af,g⟩).run P w = .ok (.value v) w:=by
 simp only[execOp,d,Instr.loadAt,Instr.sureAddr,loadVar,zw,jK,zp,wJ c,b]
 simp[load,Sem.run,hv]
theorem ld{a:Addr}(b:gB ops n s g=true)(f:ev n s x = .pointer (some a))(e:P.underlying t=some u)(c:j4 u=false)(hv:w.cell? a=some v)
 (K:WL r P ops Q rest (Fr n ((d,v) :: s) ds) w) :
 WL r P ops Q (⟨some d,.load t x,ty,pos,af,g⟩ :: rest) (Fr n s ds) w:=pv b rfl (kW f e c hv) K
theorem tE{b o:Nat}{cs:List Value}(h:ev n s x = .pointer (some ⟨b,o,none⟩))(f:P.underlying t=some u)(d:j4 u=true)(e:TI P t sz by_ z)
 (c:cs.length=sz) (hv:∀ j u,cs[j]? = some u->w.cell? ⟨b,o+j,none⟩=some u) {dd:Option Nat} :
 (execOp (ev n s) ⟨dd,.load t x,ty,pos,af,g⟩).run P w = .ok (.value (.agg cs.toArray)) w:=by
 subst c
 have:=run_loadCells_list (P:=P) w ⟨b,o,none⟩ cs (fun j u a=>by rw[Addr.add_lit];exact hv j u a)
 simp only[execOp,h,Instr.loadAt,Instr.sureAddr,loadVar,zw,jK,zp,wJ f,d,e.size,this,if_true]
theorem sO{b o:Nat}{cs:List Value}(a:gB ops n s g=true)(i:ev n s x = .pointer (some ⟨b,o,none⟩))(h:P.underlying t=some u)(e:j4 u=true)(f:TI P t sz by_ z)
 (c:cs.length=sz) (hv:∀ j u,cs[j]? = some u->w.cell? ⟨b,o+j,none⟩=some u)
 (K:WL r P ops Q rest (Fr n ((d,.agg cs.toArray) :: s) ds) w) :
 WL r P ops Q (⟨some d,.load t x,ty,pos,af,g⟩ :: rest) (Fr n s ds) w:=pv a rfl (tE i h e f c hv) K
theorem St.HO{i b o:Nat}{T:TypeId}{cs:List Value}{vs:List Value}(h:St bs L w)(hi:L[i]? = some (blk b T cs))(hv:(cs.drop o).take vs.length=vs) :
 ∀ j u,vs[j]? = some u->w.cell? ⟨b,o+j,none⟩=some u:=by
 intro j u a
 refine h.rH hi ?_
 rw[<-hv,r9]at a
 split at a
 . simpa using a
 . cases a
theorem FU{b o:Nat}{T:TypeId}{cs cs' vs:List Value}(i:Nat)(k:gB ops n s g=true)(q:ev n s x = .pointer (some ⟨b,o,none⟩))(u:ev n s y=v)(hvs:v.cells.toList=vs)
 (p:TI P t sz by_ z) (m:vs.length=sz) (h1:vs.all (·.oneCell')=true) (f:St bs L w) (hi:L[i]? = some (blk b T cs)) (j:Nat.ble (o+vs.length) cs.length=true)
 (hcs:setAt cs o vs=cs') (h:L.set i (blk b T cs')=L')
 (K:∀ w', St bs L' w' -> WL r P ops Q rest (Fr n s ds) w'):WL r P ops Q (⟨none,.store t x y,ty,pos,af,g⟩ :: rest) (Fr n s ds) w:=by
 have d:=f.En hi
 have e:=run_storeCells_at P b o T vs 0 cs.toArray w d (by simpa using oV j) (by simpa using h1)
 have l:v.cells.size=sz:=by rw[<-m,<-hvs];simp
 refine Dh (w' := w.setRow b (cs'.toArray)) k rfl ?_ ?_
 . simp only[execOp,q,u,Instr.storeAt,Instr.sureAddr,storeVar,zw,jK,zp,p.size,l,ne_eq,not_true,if_false,hvs]
   subst hcs
   simp only[qC]at e
   simp[e,setAt]
 . subst h
   refine K _ ?_
   refine f.iJ hi (gx.setRow w b _) (fun c a=>.inl a) (by simp[blk]) (fun c a=>?_) (setRow_heap w b cs.toArray cs'.toArray T (0,0) d)
   simp only[blk,zz]at a
   subst a
   simpa using(nW.1 d).1
theorem xS{bs:List (World×List Nat)}{L:List fU}(a:St bs L w)(T:TypeId)(cs:List Value):St bs (blk w.heap.size T cs :: L) (w.alloc (.cells cs.toArray T)) :=
 a.sK (gx.alloc [] w _) (fun b hb=>by simp[blk]at hb;omega) (by simp[blk]) (fun b hb=>by simp[blk]at hb;simp;omega) (heap_alloc_new w _)
theorem al{cs:List Value}(a:gB ops n s g=true)(e:TI P t sz by_ z)(hcs:z.cells.toList=cs)(c:St bs L w)
 (K:∀ b w', w.heap.size<=b->gx [] w w' -> St bs (blk b t cs :: L) w' -> WL r P ops Q rest (Fr n ((d,.pointer (some ⟨b,0,none⟩)) :: s) ds) w') :
 WL r P ops Q (⟨some d,.alloc t,ty,pos,af,g⟩ :: rest) (Fr n s ds) w:=by
 subst hcs
 refine pv (w' := w.alloc (.cells z.cells t)) a rfl ?_ (K _ _ (zk _) (gx.alloc [] w _) ?_)
 . simp only[execOp,Instr.alloc,zw,e.zC,zp]
   rfl
 . have:=xS c t z.cells.toList
   simpa using this
theorem bx{cs:List Value}(a:gB ops n s g=true)(e:ev n s x=v)(hcs:v.cells.toList=cs)(c:St bs L w)
 (K:∀ b w', w.heap.size<=b->gx [] w w' -> St bs (blk b t cs :: L) w' -> WL r P ops Q rest (Fr n ((d,.pointer (some ⟨b,0,none⟩)) :: s) ds) w') :
 WL r P ops Q (⟨some d,.box t x,ty,pos,af,g⟩ :: rest) (Fr n s ds) w:=by
 subst hcs
 refine pv (w' := w.alloc (.cells v.cells t)) a rfl ?_ (K _ _ (zk _) (gx.alloc [] w _) ?_)
 . simp only[execOp,e,Instr.box]
   rfl
 . have:=xS c t v.cells.toList
   simpa using this
theorem sM{T:TypeId}{i b o o' szf byf:Nat}{zf:Value}{fields:Array Field}{f:Field}(h:ev n s x = .pointer (some ⟨b,o,none⟩))(a:P.underlying T=some (.struct fields))
 (c:fields[i]? = some f) (e:TI P f.type (szf+1) byf zf) (d:o+f.offset=o') {dd:Option Nat} :
 (execOp (ev n s) ⟨dd,.fieldAddr T x i,ty,pos,af,g⟩).run P w = .ok (.value (.pointer (some ⟨b,o', none⟩))) w:=by subst d;simp[execOp,h,Instr.fieldAt,run_underlying a,c,Instr.sureAddr,fieldPlace,e.size,Addr.add_lit]
theorem fa{T:TypeId}{i b o o' szf byf:Nat}{zf:Value}{fields:Array Field}{f:Field}(e:gB ops n s g=true)(k:ev n s x = .pointer (some ⟨b,o,none⟩))(a:P.underlying T=some (.struct fields))
 (c:fields[i]? = some f) (j:TI P f.type (szf+1) byf zf) (h:o+f.offset=o') (K:WL r P ops Q rest (Fr n ((d,.pointer (some ⟨b,o', none⟩)) :: s) ds) w) :
 WL r P ops Q (⟨some d,.fieldAddr T x i,ty,pos,af,g⟩ :: rest) (Fr n s ds) w:=pw e (fun _=>sM k a c j h) K
theorem Jl{T e:TypeId}{k:IntKind}{b o m c o' : Nat}{i:Int}(j:ev n s x = .slice (some ⟨b,o,none⟩) m c)(l:ev n s y = .int k i)(d:P.underlying T=some (.slice e))
 (h:TI P e sz by_ z) (a:0<=i/\i<m) (f:o+i.toNat*sz=o') {dd:Option Nat} :
 (execOp (ev n s) ⟨dd,.indexAddr T x y,ty,pos,af,g⟩).run P w = .ok (.value (.pointer (some ⟨b,o', none⟩))) w:=by subst f;simp[execOp,j,l,Instr.indexAt,run_underlying d,asIntOf,a,h.size,Addr.add_lit]
theorem jj{T e:TypeId}{k:IntKind}{b o m c o' : Nat}{i:Int}(h:gB ops n s g=true)(p:ev n s x = .slice (some ⟨b,o,none⟩) m c)(q:ev n s y = .int k i)(f:P.underlying T=some (.slice e))
 (l:TI P e sz by_ z) (a:0<=i/\i<m) (j:o+i.toNat*sz=o') (K:WL r P ops Q rest (Fr n ((d,.pointer (some ⟨b,o', none⟩)) :: s) ds) w) :
 WL r P ops Q (⟨some d,.indexAddr T x y,ty,pos,af,g⟩ :: rest) (Fr n s ds) w:=pw h (fun _=>Jl p q f l a j) K
end
end Go.Sx
namespace Go.Sx
open Go
def gX(k:IntKind)(x:Int):Prop:=k.min<=x/\x<=k.max
theorem gX.i64{x:Int}(h:gX .i64 x) : -9223372036854775808<=x/\x<=9223372036854775807:=h
def Sl{α:Type}(sz:Nat)(enc:World->α->List Value->Prop)(ok:Nat->Prop)(w:World)(v:Value)(xs:List α):Prop :=
 ∃ a c,v = .slice a xs.length c/\xs.length<=c/\c<=maxLen/\∀ i x,xs[i]? = some x->∃ b o vs,a=some ⟨b,o,none⟩/\ok b/\vs.length=sz/\enc w x vs/\∀ j u,vs[j]? = some u->w.cell? ⟨b,o+i*sz+j,none⟩=some u
def encI(k:IntKind)(_:World)(x:Int)(vs:List Value):Prop:=vs=[.int k x]/\gX k x
abbrev Ints(k:IntKind)(ok:Nat->Prop)(w:World)(v:Value)(xs:List Int):Prop:=Sl 1 (encI k) ok w v xs
section
variable {α:Type} {sz:Nat} {enc:World->α->List Value->Prop} {ok ok' : Nat->Prop} {w w' w0:World} {v:Value} {xs:List α}
theorem Sl.nil(sz:Nat)(enc:World->α->List Value->Prop)(ok:Nat->Prop)(w:World):Sl sz enc ok w (.slice none 0 0) [] :=
 ⟨none,0,rfl,zk _,mZ _,fun i x h=>by simp at h⟩
theorem Sl.len(h:Sl sz enc ok w v xs):xs.length<=9223372036854775807:=by
 obtain⟨a,c,_,d,b,_⟩:=h
 simp only[maxLen]at b;omega
theorem Sl.mono(h:Sl sz enc ok w v xs)(j:∀ b,ok b->ok' b):Sl sz enc ok' w v xs:=by
 obtain⟨a,c,e,d,f,g⟩:=h
 exact⟨a,c,e,d,f,fun i x hi=>let ⟨b,o,vs,ha,hb,rest⟩:=g i x hi;⟨b,o,vs,ha,j b hb,rest⟩⟩
theorem Sl.any(h:Sl sz enc ok w v xs):Sl sz enc (fun _=>True) w v xs:=h.mono fun _ _=>trivial
theorem Sl.to(h:Sl sz enc ok w v xs)(hk:∀ b,ok b->b<w.heap.size->w'.heap[b]? = w.heap[b]?)(m:∀ x vs,x∈xs->enc w x vs->enc w' x vs)(hp:0<sz):Sl sz enc ok w' v xs:=by
 obtain⟨a,c,e,d,f,g⟩:=h
 refine⟨a,c,e,d,f,fun i x hi=>?_⟩
 obtain⟨b,o,vs,k,hb,p,q,l⟩:=g i x hi
 refine⟨b,o,vs,k,hb,p,m x vs (zd hi) q,fun j u n=>?_⟩
 have:=l j u n
 exact(World.cell?_of_block (hk b hb (World.block_lt_of_cell? w _ this))).trans this
theorem Ints.to{k:IntKind}{xs:List Int}(h:Ints k ok w v xs)(hk:∀ b,ok b->b<w.heap.size->w'.heap[b]? = w.heap[b]?):Ints k ok w' v xs :=
 Sl.to h hk (fun _ _ _ h=>h) d_
theorem St.ints{k:IntKind}{xs:List Int}{X:List Nat}{bs:List (World×List Nat)}{L:List fU}(h:St bs L w)(hb:(w0,X)∈bs)(a:Ints k ok w0 v xs)(e:∀ b,ok b->b∉X):Ints k ok w v xs :=
 Ints.to a fun b c d=>h.keep hb d (e b c)
theorem St.EZ{k:IntKind}{xs:List Int}{bs:List (World×List Nat)}{L:List fU}(h:St bs L w)(hb:(w0,[])∈bs)(a:Ints k ok w0 v xs):Ints k ok w v xs :=
 h.ints hb a fun _ _=>nI
end
theorem J9{w:World}{e:TypeId}{sz m b:Nat}{v:Value}{xs:List Value}(h:w.ownsRow 0 e sz v m xs)(hb:v.ownBlock=some b):b<w.heap.size:=(h.lt b hb).2
theorem adN{P:Program}{w:World}{t ty e:TypeId}{i:TypeInfo}(d:P.underlying t=some (.slice e))(hi:P.info? e=some i){v:Value}{m:Nat}{xs:List Value}{sz:Nat}(h:w.ownsRow 0 e sz v m xs)
 {a:Option Addr} {c:Nat}:(Builtin.append_ #[t,t] ty #[v,.slice a 0 c]).run P w = .ok v w:=by
 have b:(Builtin.firstCells i.size 0 (.slice a 0 c)).run P w = .ok #[] w:=by
  cases a with
  | none=>simp[Builtin.firstCells]
  | some a=>simp[Builtin.firstCells,loadCells,loadCellsFrom]
 rcases h.2 with ⟨rfl,rfl⟩|⟨g,j,cur,rfl,_,k,f,_,_,_⟩
 . simp[Builtin.append_,run_underlying d,sizeOf,typeInfo,hi,Builtin.lenOf,b]
 . simp[Builtin.append_,run_underlying d,sizeOf,typeInfo,hi,Builtin.lenOf,b,f,storeCells]
def Src(w:World)(u:Value)(sz cnt:Nat)(news:List Value):Prop :=
 ∃ a c,u = .slice a cnt c/\news.length=cnt*sz/\∀ j x,news[j]? = some x->∃ b,a=some b/\w.cell? (b.add j)=some x
theorem adM{P:Program}{w:World}{t ty e:TypeId}{sz by_:Nat}{z:Value}(o:P.underlying t=some (.slice e))(hi:TI P e sz by_ z)(L:z.cells.size=sz)(D:0<sz)
 {v u:Value} {m cnt:Nat} {xs news:List Value} (d:w.ownsRow 0 e sz v m xs) (hs:Src w u sz cnt news) (h1:∀ x∈news,x.oneCell' = true) (hb:(m+cnt)*by_<=140737488355328) (y:m+cnt<=maxLen) :
 ∃ v' w', (Builtin.append_ #[t,t] ty #[v,u]).run P w = .ok v' w' /\ w'.ownsRow 0 e sz v' (m+cnt) (xs++news)/\gx v.ownBlock.toList w w' /\ (∀ b,v'.ownBlock=some b->(v.ownBlock=some b\/w.heap.size<=b)/\b<w'.heap.size) /\
  (v' = .slice none 0 0↔v = .slice none 0 0/\cnt=0):=by
 obtain⟨i,n,rfl,rfl,A⟩:=hi.get
 obtain⟨a,c,rfl,k,C⟩:=hs
 by_cases h0:cnt=0
 . subst h0
   have K:news=[]:=tT (by simpa using k)
   subst K
   exact⟨v,w,adN o n d,by simpa using d,gx.refl _ _,fun b hb=>⟨.inl hb,J9 d hb⟩,s_⟩
 . have R:0<news.length:=by rw[k];exact Nat.mul_pos o_ D
   obtain⟨l,rfl,_⟩:=C 0 news[0] s_
   have q : ∀ j x,news[j]? = some x->w.cell? (l.add j)=some x:=fun j x J=>by
    obtain⟨M, e,h⟩:=C j x J
    cases e;exact h
   obtain⟨v', w', r,B,E,F⟩:=run_append_own (P:=P) w 0 t ty e i z i.size i.bytes o n A rfl rfl L D v m xs d l cnt c news k q h1 y hb (mZ _)
   refine⟨v', w', r,B,gx.abV E,fun b p => ⟨?_,J9 B p⟩,by simpa[h0]using F⟩
   rcases d.2 with ⟨rfl,rfl⟩|⟨g,s,cur,rfl,N,I,Q,O,G,S⟩
   . have T:xs=[]:=tT (by simpa using d.1)
     have f := run_append_nil (P:=P) w t ty e i z o n A l cnt c news k q o_ (by simp only[maxLen]at y;omega) (by simp only[lD]at hb;omega)
     rw[r]at f
     cases f
     right
     simp only[Value.ownBlock,Option.some.injEq]at p
     omega
   . by_cases hroom:m+cnt<=s
     . have H:m*i.size+news.length<=cur.size:=by rw[k,G,<-sn];exact DB _ hroom
       have f := run_append_room (P:=P) w t ty e i o n g m s cur I l cnt c news k q h1 hroom H
       rw[r]at f
       cases f
       left
       simpa[Value.ownBlock]using p
     . have holds:∀ j u,xs[j]? = some u->w.cell? ((⟨g,0,none⟩:Addr).add j)=some u:=d.cells (g:=g) rfl
       have f := run_append_grow (P:=P) w t ty e i z o n A ⟨g,0,none⟩ m s xs d.1 holds l cnt c news k q o_ (by simp only[maxLen]at y;omega) (growslice_fits o_ hb)
       rw[r]at f
       cases f
       right
       simp only[Value.ownBlock,Option.some.injEq]at p
       omega
section
variable {r:Option Nat} {P:Program} {ops:Array Oper} {Q:Exit->Act->World->Prop} {rest:List Oper} {n:Nat} {s:List (Nat×Value)} {ds:List Deferred} {w:World}
variable {d:Nat} {ty:TypeId} {pos:String} {af:Array Edge} {g:Option (Nat×Bool)} {v u:Value} {x y:Operand} {bs:List (World×List Nat)} {L L' : List fU} {t e:TypeId} {sz by_ m cnt:Nat} {z:Value} {xs news:List Value}
theorem Nf(i:Nat)(p:gB ops n s g=true)(D:ev n s x=v)(E:ev n s y=u)(C:P.underlying t=some (.slice e))(hi:TI P e sz by_ z)(F:z.cells.size=sz)(B:0<sz)
 (k:St bs L w) (j:L[i]? = some (row v e sz m xs)) (hs:Src w u sz cnt news) (h1:∀ x∈news,x.oneCell' = true) (hb:(m+cnt)*by_<=140737488355328) (o:m+cnt<=maxLen)
 (K:∀ v' w', St bs (L.set i (row v' e sz (m+cnt) (xs++news))) w' -> gx v.ownBlock.toList w w' -> WL r P ops Q rest (Fr n ((d,v') :: s) ds) w') :
 WL r P ops Q (⟨some d,.call ⟨.builtin .append,#[x,y],#[t,t]⟩,ty,pos,af,g⟩ :: rest) (Fr n s ds) w:=by
 have q:w.ownsRow 0 e sz v m xs:=k.own _ (zd j)
 obtain⟨v', w', A,l,c,f,_⟩:=adM (ty:=ty) C hi F B q hs h1 hb o
 refine pv p rfl (v:=v') (w' := w') (by simp only[execOp,resolve,invoke,builtin,zw,jK,zp,List.map_toArray,jV,DM,D,E,A]) (K v' w' ?_ c)
 refine k.iJ j c (fun b a => ?_) ?_ (fun b a => ?_) l
 . simp only[row,Option.mem_toList]at a
   rcases(f b a).1 with h|h
   . exact .inl (by simp[row,h])
   . exact .inr h
 . show v'.ownBlock.toList.Nodup
   cases v'.ownBlock<;>simp
 . simp only[row,Option.mem_toList]at a
   exact(f b a).2
theorem iL(i:Nat)(a:gB ops n s g=true)(c:ev n s x=v)(b:P.underlying t=some (.slice e))(j:St bs L w)(f:L[i]? = some (row v e sz m xs))
 (K:WL r P ops Q rest (Fr n ((d,.int .i64 m) :: s) ds) w):WL r P ops Q (⟨some d,.call ⟨.builtin .len,#[x],#[t]⟩,ty,pos,af,g⟩ :: rest) (Fr n s ds) w:=by
 have h:w.ownsRow 0 e sz v m xs:=j.own _ (zd f)
 rcases h.2 with ⟨rfl,rfl⟩|⟨l, k,cur,rfl,_⟩
 . exact Fc a c b K
 . exact Fc a c b K
theorem kX{α:Type}{enc:World->α->List Value->Prop}{ok:Nat->Prop}{w0:World}{ys:List α}(f:gB ops n s g=true)(i:ev n s x=v)(h:P.underlying t=some (.slice e))(b:Sl sz enc ok w0 v ys)
 (K:WL r P ops Q rest (Fr n ((d,.int .i64 ys.length) :: s) ds) w):WL r P ops Q (⟨some d,.call ⟨.builtin .len,#[x],#[t]⟩,ty,pos,af,g⟩ :: rest) (Fr n s ds) w:=by
 obtain⟨a,c,rfl,_⟩:=b
 exact Fc f i h K
theorem Cn{k k' : IntKind}{ok:Nat->Prop}{ys:List Int}{i:Int}{el:Int}(p:gB ops n s g=true)(B:ev n s x=v)(C:ev n s y = .int k' i)(A:P.underlying t=some (.slice e))(hi:TI P e 1 by_ z)
 (l:Ints k ok w v ys) (h:0<=i) (f:ys[i.toNat]? = some el)
 (K:∀ b o,w.cell? ⟨b,o,none⟩=some (.int k el)->gX k el->ok b->WL r P ops Q rest (Fr n ((d,.pointer (some ⟨b,o,none⟩)) :: s) ds) w) :
 WL r P ops Q (⟨some d,.indexAddr t x y,ty,pos,af,g⟩ :: rest) (Fr n s ds) w:=by
 have E:=(zg.1 f).1
 obtain⟨a,c,rfl,_,_,j⟩:=l
 obtain⟨b,o,vs,rfl,u,D,⟨rfl,q⟩,m⟩:=j i.toNat el f
 refine jj p B C A hi ⟨h,o_⟩ rfl (K b _ ?_ q u)
 have:=m 0 (.int k el) s_
 simpa using this
end
end Go.Sx
namespace Go.Sx
open Go
def iM(S:Nat->Bool):Nat->List Oper->List Value->List (Nat×Value)->List (Nat×Value)
 | i,o :: l,v :: vs,s=>iM S (i+1) l vs (bif S i then kj o.dst v s else s)
 | _,_,_,s=>s
def mU(S:Nat->Bool)(t:Nat):Nat->List Oper->List Value->Option Value
 | i,o :: l,v :: vs=>match mU S t (i+1) l vs with
  | some u=>some u
  | none=>bif S i&&(o.dst==some t)then some v else none
 | _,_,_=>none
theorem JA(d:Option Nat)(v:Value)(s:List (Nat×Value))(t:Nat):look (kj d v s) t=if d=some t then v else look s t:=by
 cases d with
 | none=>simp[kj]
 | some i=>simp only[kj,CB,Option.some.injEq]
theorem oP(S:Nat->Bool)(t:Nat)(l:List Oper):∀ (i:Nat) (vs:List Value) (s:List (Nat×Value)),look (iM S i l vs s) t=(mU S t i l vs).getD (look s t):=by
 induction l with
 | nil=>intro i vs s;cases vs<;>simp[iM,mU]
 | cons o l a =>
  intro i vs s
  cases vs with
  | nil=>simp[iM,mU]
  | cons v vs =>
   simp only[iM,mU]
   rw[a]
   cases mU S t (i+1) l vs with
   | some u=>rfl
   | none =>
    simp only[Option.getD_none]
    cases hS:S i with
    | false=>simp
    | true =>
     simp only[cond_true,Bool.true_and,JA]
     by_cases hd:o.dst=some t
     . simp[hd]
     . have:(o.dst==some t)=false:=by simpa using hd
       simp[hd,this]
theorem Az{S b : Nat->Bool}{t:Nat}(l:List Oper):∀ (i:Nat) (vs a : List Value),vs.length=a.length ->
 (∀ j o,l[j]? = some o->o.dst=some t->S (i+j)=b (i+j)/\(S (i+j)=true->vs[j]? = a[j]?))->mU S t i l vs=mU b t i l a := by
 induction l with
 | nil=>intro i vs a _ _;cases vs<;>cases a <;> simp[mU]
 | cons o l k =>
  intro i vs a d h
  cases vs with
  | nil =>
   cases a with
   | nil=>simp[mU]
   | cons v' a => simp at d
  | cons v vs =>
   cases a with
   | nil=>simp at d
   | cons v' a =>
    simp only[mU]
    rw[k (i+1) vs a (by simpa using d) (fun j m g hd=>by
     have:=h (j+1) m (by simpa using g) hd
     rw[show i+1+j=i+(j+1) by omega]
     simpa using this)]
    cases mU b t (i+1) l a with
    | some u=>rfl
    | none =>
     simp only
     by_cases hd:o.dst=some t
     . have:=h 0 o rfl hd
       simp only[qC]at this
       obtain⟨c,e⟩:=this
       rw[c]at e
       cases hS:b i with
       | false=>simp[c,hS]
       | true=>have f:=e hS;simp at f;simp[c,hS,f]
     . have:(o.dst==some t)=false:=by simpa using hd
       simp[this]
theorem Cp{S:Nat->Bool}{t:Nat}(l:List Oper):∀ (i:Nat) (vs:List Value),(∀ j o,l[j]? = some o->o.dst=some t->S (i+j)=false)->mU S t i l vs=none:=by
 induction l with
 | nil=>intro i vs _;cases vs<;>simp[mU]
 | cons o l b =>
  intro i vs h
  cases vs with
  | nil=>simp[mU]
  | cons v vs =>
   simp only[mU]
   rw[b (i+1) vs (fun j c a hd=>by rw[show i+1+j=i+(j+1) by omega];exact h (j+1) c (by simpa using a) hd)]
   simp only
   by_cases hd:o.dst=some t
   . have:=h 0 o rfl hd
     simp only[qC]at this
     simp[this]
   . have:(o.dst==some t)=false:=by simpa using hd
     simp[this]
theorem Qn{S:Nat->Bool}{t:Nat}(l:List Oper):∀ (i k:Nat) (vs:List Value) (o:Oper) (v:Value),l[k]? = some o->o.dst=some t->vs[k]? = some v->S (i+k)=true ->
 (∀ j a, k<j->l[j]? = some a -> a.dst=some t->S (i+j)=false)->mU S t i l vs=some v:=by
 induction l with
 | nil=>intro i k vs o v h;simp at h
 | cons n l g =>
  intro i k vs o v e hd hv b f
  cases vs with
  | nil=>simp at hv
  | cons p vs =>
   simp only[mU]
   cases k with
   | zero =>
    simp at e hv
    subst e hv
    rw[Cp l (i+1) vs (fun j a d c => by rw[show i+1+j=i+(j+1) by omega];exact f (j+1) a o_ (by simpa using d) c)]
    simp only[qC]at b
    simp[b,hd]
   | succ k =>
    rw[g (i+1) k vs o v (by simpa using e) hd (by simpa using hv) (by rw[show i+1+k=i+(k+1) by omega];exact b)
     (fun j a m d c => by rw[show i+1+j=i+(j+1) by omega];exact f (j+1) a o_ (by simpa using d) c)]
def CS(l:List Oper)(pre:List (List Nat)):Bool :=
 (List.range l.length).all fun j=>(pre.getD j []).all fun i=>(l[j]?).any fun o=>o.after.toList.any fun e=>Region.binds .any e&&decide (e.on<j)&&(e.on==i||(pre.getD e.on []).contains i)
def mX(ops:Array Oper)(x y:Oper):Bool :=
 match x.dst with
 | some d=>(y.looksAt ops).contains d||y.dst==some d
 | none=>false
def E0:Op->Bool
 | .select _ _=>true
 | _=>false
def AS(l:List Oper)(pre:List (List Nat))(mem:List Nat):Bool :=
 CS l pre &&
 (l.all fun o => !E0 o.op) &&
 ((List.range l.length).all fun j=>(l[j]?).all fun o=>o.after.toList.all fun e => !Region.binds .any e||decide (e.on<j)) &&
 ((
  List.range l.length).all fun j=>(List.range j).all fun i =>
  match l[i]?,l[j]? with
  | some x,some y => !(mX l.toArray x y||mX l.toArray y x||(mem.contains i&&mem.contains j))||(pre.getD j []).contains i
  | _,_=>true) &&
 (mem.all fun m=>decide (m<l.length)) &&
 decide (mem.Pairwise (· < ·))
def uG(pre:List (List Nat))(mem:List Nat)(i:Nat):Nat:=mem.countP fun m=>(pre.getD i []).contains m
def uB(pre:List (List Nat))(mem:List Nat)(i:Nat):Nat:=mem.countP fun m => !(pre.getD m []).contains i
section
variable {Γ:Type} (P:Program) (ops:Array Oper) (Q:Exit->Act->World->Prop) (n:Nat) (ds:List Deferred) (s0:List (Nat×Value))
def mu(o:Oper)(s:List (Nat×Value))(v:Value)(C:World->Prop)(w:World):Prop :=
 (gB ops n s o.guard=true/\mc o.op=true/\((execOp (ev n s) o).run P w = .ok (.value v) w\/∃ f args,(execOp (ev n s) o).run P w = .ok (.enter f args) w/\CR P f args w (fun v' w' => v' = v/\C w')))
 \/ (gB ops n s o.guard=false/\v=undef)
def ni(l:List Oper)(o:Oper)(s:List (Nat×Value))(Nx:Value->World->Prop)(w:World):Prop :=
 (gB ops n s o.guard=true/\mc o.op=true/\((∃ v w', (execOp (ev n s) o).run P w = .ok (.value v) w' /\ Nx v w')\/(∃ w', (execOp (ev n s) o).run P w = .ok .skip w' /\ Nx undef w') \/
  (∃ f args,(execOp (ev n s) o).run P w = .ok (.enter f args) w/\Calls P f args w (fun e w' => match e with
   | .returned v=>Nx v w'
   | .panicked ch=>∀ s,(∀ t,(∀ o∈l,o.dst≠some t)->look s t=look s0 t)->Q (.panic ch) (Fr n s ds) w'
   | .outgrown=>LetsOut Q))))
 \/ (gB ops n s o.guard=false/\Nx undef w)
def lX(pre:List (List Nat))(i:Nat)(g a : Γ):Nat->List (Γ->Value)->Prop
 | k,v :: vs=>(bif (pre.getD k []).contains i||k==i then True else v a = v g)/\lX pre i g a (k+1) vs
 | _,[]=>True
def lE(l0:List Oper)(pre:List (List Nat))(mem:List Nat)(V:List (Γ->Value))(M:Nat->Γ->World->Prop):Nat->(Γ->List (Nat×Value))->List Oper->List (Γ->Value)->Prop
 | i,s,o :: l,v :: vs =>
  (
   bif mem.contains i then ∀ g w,M (mem.idxOf i) g w->ni P ops Q n ds s0 l0 o (s g) (fun v' w' => ∃ a, M (mem.idxOf i+1) a w' /\ v' = v a /\ lX pre i g a 0 V) w
   else ∀ p g w,uG pre mem i<=p->p<=uB pre mem i->M p g w->mu P ops n o (s g) (v g) (M p g) w) /\
  lE l0 pre mem V M (i+1) (fun g=>kj o.dst (v g) (s g)) l vs
 | _,_,[],[]=>True
 | _,_,_,_=>False
end
section
variable {Γ:Type} {r:Option Nat} {P:Program} {Q:Exit->Act->World->Prop} {n:Nat} {ds:List Deferred} {s0:List (Nat×Value)} {l:List Oper} {pre:List (List Nat)} {mem:List Nat} {V:List (Γ->Value)} {M:Nat->Γ->World->Prop}
theorem lX.get{i:Nat}{g d : Γ}:∀ (V:List (Γ->Value)) (b:Nat),lX pre i g d b V->∀ k v,V[k]? = some v->((pre.getD (b+k) []).contains i||(b+k)==i)=false->v d = v g:=by
 intro V
 induction V with
 | nil=>intro b _ k v h;simp at h
 | cons f V e =>
  intro b h k v c a
  cases k with
  | zero =>
   simp at c
   subst c
   have:=h.1
   simp only[qC]at a
   rw[a]at this
   exact this
  | succ k=>exact e (b+1) h.2 k v (by simpa using c) (by rw[show b+1+k=b+(k+1) by omega];exact a)
theorem lE.get{l0:List Oper}:∀ (l:List Oper) (vs:List (Γ->Value)) (b:Nat) (s:Γ->List (Nat×Value)),lE P l0.toArray Q n ds s0 l0 pre mem V M b s l vs->l.length=vs.length /\
 ∀ k o,l[k]? = some o->∃ v,vs[k]? = some v /\
  (
   bif mem.contains (b+k)then ∀ g w,M (mem.idxOf (b+k)) g w->ni P l0.toArray Q n ds s0 l0 o (iM (fun j=>decide (j<b+k)) b l (vs.map (· g)) (s g)) (fun v' w' => ∃ d, M (mem.idxOf (b+k)+1) d w' /\ v' = v d /\ lX pre (b+k) g d 0 V) w
   else ∀ p g w,uG pre mem (b+k)<=p->p<=uB pre mem (b+k)->M p g w->mu P l0.toArray n o (iM (fun j=>decide (j<b+k)) b l (vs.map (· g)) (s g)) (v g) (M p g) w):=by
 intro l
 induction l with
 | nil=>intro vs b s h;cases vs with|nil=>exact⟨rfl,fun k o c=>by simp at c⟩|cons v vs=>exact h.elim
 | cons o l f =>
  intro vs b s h
  cases vs with
  | nil=>exact h.elim
  | cons v vs =>
   obtain⟨q,r⟩:=h
   obtain⟨e,t⟩:=f vs (b+1) _ r
   refine⟨by simp[e],fun k y c=>?_⟩
   cases k with
   | zero =>
    simp at c
    subst c
    refine⟨v,rfl,?_⟩
    have hs:∀ g,iM (fun j=>decide (j<b+0)) b (o :: l) ((v :: vs).map (· g)) (s g)=s g:=by
     intro g
     have key:∀ (l:List Oper) (a:List Value) (i:Nat) (s:List (Nat×Value)),b<=i->iM (fun j=>decide (j<b+0)) i l a s=s:=by
      intro l
      induction l with
      | nil=>intro a i s _;cases a<;>rfl
      | cons o l f=>intro a i s hi;cases a with|nil=>rfl|cons u a=>simp only[iM];rw[show decide (i<b+0)=false by simp;omega];exact f a (i+1) s o_
     exact key _ _ _ _ (zk _)
    simp only[hs]
    exact q
   | succ k =>
    obtain⟨v', x, m⟩:=t k y (by simpa using c)
    refine⟨v', by simpa using x, ?_⟩
    rw[show b+1+k=b+(k+1) by omega]at m
    have hs:∀ g,iM (fun j=>decide (j<b+(k+1))) b (o :: l) ((v :: vs).map (· g)) (s g)=iM (fun j=>decide (j<b+(k+1))) (b+1) l (vs.map (· g)) (kj o.dst (v g) (s g)):=by
     intro g
     simp only[jV,iM]
     rw[show decide (b<b+(k+1))=true by simp]
     rfl
    simp only[hs]
    exact m
structure Down (l:List Oper) (S:Nat->Bool):Prop where
 closed:∀ j o,l[j]? = some o->S j=true->∀ e∈o.after,Region.binds .any e=true->S e.on=true
theorem AP{S:Nat->Bool}(hp:CS l pre=true)(hd:Down l S):∀ j,S j=true->j<l.length->∀ i,(pre.getD j []).contains i=true->S i=true:=by
 intro j
 induction j using Nat.strongRecOn with
 | _ j m =>
  intro g c i hi
  have f:=zn.1 hp j (z6.2 c)
  have a:=zn.1 f i (by simpa using hi)
  rw[zj c]at a
  simp only[Option.any_some,DI,lW,decide_eq_true_eq,zB,beq_iff_eq]at a
  obtain⟨e,h,⟨hb,k⟩,b⟩:=a
  have d:=hd.closed j _ (zj c) g e (by simpa using h) hb
  rcases b with rfl|b
  . exact d
  . exact m e.on k d o_ i (by simpa using b)
theorem VZ{S:Nat->Bool}{i:Nat}:∀ (mem:List Nat),mem.Pairwise (· < ·)->i∈mem->(∀ m∈mem,m<i->S m=true)->S i=false->(∀ m∈mem,i<m->S m=false) ->
 mem.countP S=mem.idxOf i/\mem.countP (fun j=>S j||j==i)=mem.idxOf i+1:=by
 intro mem
 induction mem with
 | nil=>intro _ h;simp at h
 | cons m mem p =>
  intro hp hi d f g
  rw[sZ]at hp
  by_cases e:m=i
  . subst e
    have l:∀ x∈mem,S x=false:=fun x c=>g x (by simp[c]) (hp.1 x c)
    have o : ∀ x∈mem,(S x||x==m)=false:=fun x c=>by
     have:=hp.1 x c
     simp[l x c];omega
    rw[wU,wU,Bv.2 (fun x c=>by simp[l x c]),Bv.2 (fun x c=>by rw[o x c];simp)]
    simp[f]
  . have k:i∈mem:=by simpa[Ne.symm e]using hi
    have n:=hp.1 i k
    obtain⟨a,b⟩:=p hp.2 k (fun x c=>d x (by simp[c])) f (fun x c=>g x (by simp[c]))
    have hm:=d m s_ n
    rw[wU,wU,a,b,List.idxOf_cons]
    have:(m==i)=false:=by simpa using e
    simp[hm,this]
theorem EU(a:Array Bool)(i j:Nat)(hi:i<a.size):(a.setIfInBounds i true).getD j false=(a.getD j false||j==i):=by
 by_cases h:i=j
 . subst h;simp[hi]
 . have b : (j==i)=false:=by simpa using Ne.symm h
   simp[b, Array.getElem?_setIfInBounds_ne h]
theorem tB(m j:Nat):(Array.replicate m false).getD j false=false:=by
 rcases xd j m with h|h
 . simp[h]
 . simp[h]
theorem Kq{id:Nat}{w:World}(hm:P.follows .mixedOrders=true)(pre:List (List Nat))(mem:List Nat)(az:AS l pre mem=true)(V:List (Γ->Value))(M:Nat->Γ->World->Prop)(g0:Γ)(sE:Γ->List (Nat×Value))
 (h0:M 0 g0 w.drew) (hO:lE P l.toArray Q n ds s0 l pre mem V M 0 (fun _=>s0) l V) (hE:∀ g,iM (fun _=>true) 0 l (V.map (· g)) s0=sE g)
 (aL:∀ g w', M mem.length g w' -> Q .normal (Fr n (sE g) ds) w'):WP r P (.region id l.toArray true) Q (Fr n s0 ds) w:=by
 simp only[AS,lW]at az
 obtain⟨⟨⟨⟨⟨ap,aT⟩,aI⟩,aK⟩,am⟩,aq⟩:=az
 have aq:=of_decide_eq_true aq
 obtain⟨aZ,aw⟩:=lE.get (l0:=l) l V 0 (fun _=>s0) hO
 simp only[lD]at aw
 -- conflicts are ordered
 have U:∀ i j x y,l[i]? = some x->l[j]? = some y->i<j->(mX l.toArray x y=true\/mX l.toArray y x=true\/(i∈mem/\j∈mem))->(pre.getD j []).contains i=true:=by
  intro i j x y hx hy al h
  have p:j<l.length:=(zg.1 hy).1
  have A:=zn.1 (zn.1 aK j (z6.2 p)) i (z6.2 al)
  simp only[hx,hy]at A
  rcases ve.1 A with q|q
  . exfalso
    have O:(mX l.toArray x y||mX l.toArray y x||(mem.contains i&&mem.contains j))=true:=by
     rcases h with h|h|⟨h,h'⟩<;>simp[h]
     simp[h']
    rw[O]at q
    cases q
  . exact q
 refine wpIn_region_any hm ?_
 have a1:l.toArray.size=l.length:=by simp
 -- the invariant
 let c:Array Bool->Nat->Bool:=fun a i=>a.getD i false
 have aY:∀ (fuel:Nat) (a:Array Bool) (g:Γ) (w:World),a.size=l.length->a.toList.countP (! ·)<=fuel->Down l (c a)->M (mem.countP (c a)) g w ->
  wpAnyIn (FW r) 0 P .any l.toArray Q fuel a (Fr n (iM (c a) 0 l (V.map (· g)) s0) ds) w:=by
  intro fuel
  have fin:∀ (a:Array Bool) (g:Γ) (w:World),a.size=l.length->(∀ i,i<l.length->c a i=true)->M (mem.countP (c a)) g w->Q .normal (Fr n (iM (c a) 0 l (V.map (· g)) s0) ds) w:=by
   intro a g w hs X F
   have e1:mem.countP (c a)=mem.length:=List.countP_eq_length.2 fun m E => X m (by simpa using of_decide_eq_true (zn.1 am m E))
   rw[e1]at F
   have e2:Fr n (iM (c a) 0 l (V.map (· g)) s0) ds=Fr n (sE g) ds:=by
    rw[<-hE g]
    refine vm ds fun t=>?_
    rw[oP,oP]
    congr 1
    refine Az l 0 _ _ rfl fun j o p _=>⟨?_,fun _=>rfl⟩
    rw[lD]
    exact X j (zg.1 p).1
   rw[e2]
   exact aL g w F
  have aD:∀ (a:Array Bool),a.size=l.length->Region.ready .any l.toArray a=[]->∀ i,i<l.length->c a i=true:=by
   intro a hs s i
   induction i using Nat.strongRecOn with
   | _ i ih =>
    intro hi
    cases R:c a i with
    | true=>rfl
    | false =>
     exfalso
     have:i∈Region.ready .any l.toArray a:=by
      rw[mem_ready]
      refine⟨?_,l[i],by simp[hi],fun e D hb=>?_⟩
      . have:i<a.size:=by omega
        simp only[c]at R
        simp[this]at R ⊢
        exact R
      . have A:=zn.1 aI i (z6.2 hi)
        rw[zj hi]at A
        simp only[Option.all_some,zn]at A
        have q:=A e (by simpa using D)
        rw[hb,DK,Bool.false_or,decide_eq_true_eq]at q
        exact ih e.on q o_
     rw[s]at this
     cases this
  induction fuel with
  | zero =>
   intro a g w hs R hd F
   have hz:∀ x∈a.toList,x=true:=by
    intro x hx
    have:=Bv.1 (Nat.le_zero.1 R) x hx
    simpa using this
   have X:∀ i,i<l.length->c a i=true:=by
    intro i hi
    have ak : i<a.size:=by omega
    simp only[c]
    simp[ak]
    exact hz _ s_
   refine⟨?_,fin a g w hs X F⟩
   cases s:Region.ready .any l.toArray a with
   | nil=>rfl
   | cons i rs =>
    have:i∈Region.ready .any l.toArray a:=by rw[s];simp
    rw[mem_ready]at this
    obtain⟨A,o,ho,_⟩:=this
    have hi:i<l.length:=by simpa using(nW.1 ho).1
    have:=X i hi
    simp only[c]at this
    have ak : i<a.size:=by omega
    simp[ak]at A this
    rw[A]at this
    cases this
  | succ fuel ih =>
   intro a g w hs R hd F
   refine⟨fun s=>fin a g w hs (aD a hs s) F,fun i hi=>?_⟩
   obtain⟨ae,o,ho,au⟩:=mem_ready.1 hi
   have B : l[i]? = some o:=by simpa using ho
   have Y:i<l.length:=(zg.1 B).1
   have ab : i<a.size:=by omega
   have L:c a i=false:=by
    simp only[c];simp[ab]at ae ⊢;exact ae
   -- the set behind it
   let S:=c a
   let J := c (a.setIfInBounds i true)
   have L:S i=false:=L
   have hd:Down l S:=hd
   have H : ∀ j,J j=(S j||j==i):=fun j=>EU a i j ab
   have aj : Down l J := ⟨fun j C p aa e D hb=>by
    rw[H]at aa ⊢
    rcases ve.1 aa with h|h
    . rw[show S e.on=true from hd.closed j C p h e D hb];rfl
    . have:j=i:=by simpa using h
      subst this
      have:C=o:=Option.some.inj (p.symm.trans B)
      subst this
      rw[show S e.on=true from au e D hb];rfl⟩
   have aB:=fun j=>AP (S:=S) ap hd j
   have aS := fun j=>AP (S:=J) ap aj j
   -- what waits for i has not come up
   have T:∀ k,k<l.length->(pre.getD k []).contains i=true->S k=false:=by
    intro k I aP
    cases W:S k with
    | false=>rfl
    | true=>have:=aB k W I i aP;rw[L]at this;cases this
   -- what i waits for has
   have af:∀ k,(pre.getD i []).contains k=true->S k=true:=by
    intro k I
    have A:=aS i (by rw[H];simp) Y k I
    rw[H]at A
    rcases ve.1 A with h|h
    . exact h
    . exfalso
      have e:k=i:=by simpa using h
      subst e
      have:=T k Y I
      -- k is in fP own list: then it has come up before itself
      have q:=zn.1 (zn.1 ap k (z6.2 Y)) k (by simpa using I)
      rw[zj Y]at q
      simp only[Option.any_some,DI,lW,decide_eq_true_eq,zB,beq_iff_eq]at q
      obtain⟨e,D,⟨hb,a0⟩,O⟩:=q
      have aH:S e.on=true:=by
       have:l[k]=o:=by rw[zj Y]at B; exact Option.some.inj B
       rw[this]at D
       exact au e (by simpa using D) hb
      rcases O with O|O
      . omega
      . have:=aB e.on aH o_ k (by simpa using O)
        rw[L]at this;cases this
   -- the slots that it looks at hold what they hold in the order of the text
   have agree:∀ t,t∈o.looksAt l.toArray->look (iM S 0 l (V.map (· g)) s0) t=look (iM (fun j=>decide (j<i)) 0 l (V.map (· g)) s0) t:=by
    intro t G
    rw[oP,oP]
    congr 1
    refine Az l 0 _ _ rfl fun j C p N=>⟨?_,fun _=>rfl⟩
    rw[lD]
    have aC:mX l.toArray C o=true:=by simp[mX,N,G]
    rcases GS j i with h|h|h
    . simp[h,af j (U j i C o p B h (.inl aC))]
    . subst h;simp[L,S]
    . have:=T j (zg.1 p).1 (U i j o C B p h (.inr (.inl aC)))
      simp[this];omega
   have av:execOp (ev n (iM S 0 l (V.map (· g)) s0)) o=execOp (ev n (iM (fun j=>decide (j<i)) 0 l (V.map (· g)) s0)) o:=by
    refine execOp_congr o (fun cs b e=>?_) fun x hx=>?_
    . have:=zn.1 aT o (zd B)
      rw[e]at this
      simp[E0]at this
    . cases x with
      | tmp t =>
       simp only[ev]
       rw[agree t (wX _ (GN.2 ⟨.tmp t,by simpa using hx,rfl⟩))]
      | _=>rfl
   have ad:gB l.toArray n (iM S 0 l (V.map (· g)) s0) o.guard=gB l.toArray n (iM (fun j=>decide (j<i)) 0 l (V.map (· g)) s0) o.guard:=by
    cases hg:o.guard with
    | none=>rfl
    | some gd =>
     obtain⟨jg,a2⟩:=gd
     simp only[gB]
     have e:vQ l.toArray.toList jg=(l.toArray[jg]?).bind (·.dst):=by rw[Ip];simp
     rw[e]
     cases hdg:(l.toArray[jg]?).bind (·.dst)with
     | none=>rfl
     | some d =>
      simp only[ev]
      rw[agree d (wW _ (by rw[hg];simp only;rw[hdg];simp))]
   -- the frame behind it
   have ar:(a.setIfInBounds i true).toList.countP (! ·)<=fuel:=by
    have:(a.setIfInBounds i true).toList.countP (! ·)+1<=a.toList.countP (! ·):=by
     rw[Lx]
     have ax:i<a.toList.length:=by simpa using ab
     have aM:a.toList[i]=false:=by simp[ab]at ae;simpa using ae
     have e:=u9 i a.toList
     have e2:a.toList=a.toList.take i++false :: a.toList.drop (i+1):=by
      conv=>lhs;rw[<-e,Bt ax,aM]
     have e3:a.toList.set i true=a.toList.take i++true :: a.toList.drop (i+1):=by
      rw[LB,if_pos ax]
     rw[e3]
     conv=>rhs;rw[e2]
     simp[List.countP_append,wU]
     omega
    omega
   have frame:∀ (z : Γ) (v:Γ->Value),V[i]? = some v->(∀ k u,V[k]? = some u->S k=true->u z = u g) ->
    (Fr n (iM S 0 l (V.map (· g)) s0) ds).put o.dst (v z)=Fr n (iM J 0 l (V.map (· z)) s0) ds:=by
    intro z v hv aU
    rw[zG]
    refine vm ds fun t=>?_
    rw[JA,oP,oP]
    by_cases hdt:o.dst=some t
    . rw[if_pos hdt]
      have:mU J t 0 l (V.map (· z))=some (v z):=by
       refine Qn l 0 i _ o (v z) B hdt (by simp[hv]) (by rw[lD,H];simp) fun j C al p N=>?_
       rw[lD,H]
       have aX:mX l.toArray o C=true:=by simp[mX,hdt,N]
       have:=T j (zg.1 p).1 (U i j o C B p al (.inl aX))
       simp[this];omega
      rw[this];rfl
    . rw[if_neg hdt]
      congr 1
      refine Az l 0 _ _ s_ fun j C p N=>?_
      rw[lD,H]
      have aO:¬ j=i:=by
       rintro rfl
       have:C=o:=Option.some.inj (p.symm.trans B)
       subst this
       exact hdt N
      refine⟨by simp[aO],fun aa=>?_⟩
      have ay:j<V.length:=by have:=(zg.1 p).1;omega
      simp only[kR,zj ay,w5]
      rw[aU j _ (zj ay) aa]
   obtain⟨v,hv,ac⟩:=aw i o B
   unfold wpOpIn
   rw[ho]
   simp only
   by_cases himem:i∈mem
   . -- an operation on memory
     have ai:mem.contains i=true:=by simpa using himem
     rw[ai]at ac
     have aA:∀ m∈mem,(m<i->S m=true)/\(i<m->S m=false):=by
      intro m E
      have Z:m<l.length:=of_decide_eq_true (zn.1 am m E)
      exact⟨fun h=>af m (U m i _ o (zj Z) B h (.inr (.inr ⟨E, himem⟩))),
       fun h=>T m Z (U i m o _ B (zj Z) h (.inr (.inr ⟨himem,E⟩)))⟩
     obtain⟨c1,c2⟩:=VZ (S:=S) mem aq himem (fun m E h=>(aA m E).1 h) L (fun m E h=>(aA m E).2 h)
     have aE : mem.countP J = mem.idxOf i+1:=by rw[<-c2];exact List.countP_congr fun j _=>by rw[H]
     have aG : M (mem.idxOf i) g w:=by rw[<-c1];exact F
     have next:∀ v' w', (∃ z, M (mem.idxOf i+1) z w' /\ v' = v z /\ lX pre i g z 0 V) ->
      wpAnyIn (FW r) 0 P .any l.toArray Q fuel (a.setIfInBounds i true) ((Fr n (iM S 0 l (V.map (· g)) s0) ds).put o.dst v') w' := by
      rintro v' w' ⟨z, ag,rfl,aV⟩
      have:=ih (a.setIfInBounds i true) z w' (by simpa using hs) ar aj (by rw[show mem.countP (c (a.setIfInBounds i true))=mem.idxOf i+1 from aE];exact ag)
      rw[frame z v hv ?_]
      . exact this
      . intro k u I W
        refine lX.get V 0 aV k u I ?_
        rw[lD]
        have aQ:k<l.length:=by have:=(zg.1 I).1;omega
        have A:(pre.getD k []).contains i=false:=by
         cases h:(pre.getD k []).contains i with
         | false=>rfl
         | true=>have:=T k aQ h;rw[W]at this;cases this
        have q:¬ k=i:=by rintro rfl;rw[L]at W;cases W
        rw[A];simp[q]
     rcases ac g w aG with ⟨G,ao,ah⟩|⟨G,K⟩
     . rw[rj,ad,G,if_pos rfl]
       refine⟨fun _ _=>trivial,?_⟩
       rw[semAt_eq (wz ao),o7, av]
       rcases ah with ⟨v', w', s,K⟩|⟨w', s,K⟩|⟨f,args,s,hC⟩
       . rw[s];exact next v' w' K
       . rw[s];exact next undef w' K
       . rw[s]
         refine⟨fun h=>by simp[FW]at h,uw.2 (Calls.mono hC ?_)⟩
         intro e w' D
         cases e with
         | returned v' => exact next v' w' D
         | panicked ch =>
          refine D _ fun t aW => ?_
          rw[oP,Cp l 0 _ (fun j C p N=>absurd N (aW C (zd p)))]
          rfl
         | outgrown=>exact D
     . rw[rj,ad,G]
       exact⟨fun _ _=>trivial,next undef w K⟩
   . have ai:mem.contains i=false:=by simpa using himem
     rw[ai]at ac
     have aJ : mem.countP J = mem.countP S:=by
      refine List.countP_congr fun j p=>?_
      rw[H]
      have:¬ j=i:=by rintro rfl;exact himem p
      simp[this]
     have aR:uG pre mem i<=mem.countP S:=List.countP_mono_left fun m _ h=>af m h
     have aN:mem.countP S<=uB pre mem i:=List.countP_mono_left fun m E h=>by
      have Z:m<l.length:=of_decide_eq_true (zn.1 am m E)
      cases q:(pre.getD m []).contains i with
      | false=>rfl
      | true=>have:=T m Z q;rw[h]at this;cases this
     have next:∀ w', M (mem.countP S) g w' -> wpAnyIn (FW r) 0 P .any l.toArray Q fuel (a.setIfInBounds i true) ((Fr n (iM S 0 l (V.map (· g)) s0) ds).put o.dst (v g)) w' := by
      intro w' ag
      have:=ih (a.setIfInBounds i true) g w' (by simpa using hs) ar aj (by rw[show mem.countP (c (a.setIfInBounds i true))=mem.countP S from aJ];exact ag)
      rw[frame g v hv (fun _ _ _ _=>rfl)]
      exact this
     rcases ac (mem.countP S) g w aR aN F with ⟨G,ao,ah⟩|⟨G,K⟩
     . rw[rj,ad,G,if_pos rfl]
       refine⟨fun _ _=>trivial,?_⟩
       rw[semAt_eq (wz ao),o7, av]
       rcases ah with s|⟨f,args,s,hC⟩
       . rw[s];exact next w F
       . rw[s]
         refine⟨fun h=>by simp[FW]at h,uw.2 (Calls.mono hC ?_)⟩
         rintro e w' ⟨v', rfl,rfl,aF⟩
         exact next w' aF
     . rw[rj,ad,G]
       exact⟨fun _ _=>trivial,by rw[<-K];exact next w F⟩
 have e0:Fr n s0 ds=Fr n (iM (c (Array.replicate l.toArray.size false)) 0 l (V.map (· g0)) s0) ds:=by
  refine vm ds fun t=>?_
  rw[oP,Cp l 0 _ (fun j o _ _=>?_)]
  . rfl
  . simp only[c];exact tB _ _
 have hz:mem.countP (c (Array.replicate l.toArray.size false))=0:=Bv.2 fun j _=>by
  simp only[c];rw[tB];simp
 rw[e0]
 refine aY _ _ g0 _ s_ (kS LJ s_) ⟨fun j o _ h=>?_⟩ (by rw[hz];exact h0)
 exfalso
 simp only[c]at h
 rw[tB]at h
 cases h
end
end Go.Sx
namespace Go.Sx
open Go
section
variable {r:Option Nat} {P:Program} {ops:Array Oper} {Q:Exit->Act->World->Prop} {rest:List Oper} {n:Nat} {s:List (Nat×Value)} {ds:List Deferred} {w w' : World}
variable {d:Nat} {dd:Option Nat} {ty:TypeId} {pos:String} {af:Array Edge} {g:Option (Nat×Bool)} {v u:Value} {x y:Operand} {bs:List (World×List Nat)} {L L' : List fU} {t e:TypeId} {sz by_ m cnt:Nat} {z:Value} {xs news:List Value}
theorem KQ{b o:Nat}{T:TypeId}{cs cs' vs:List Value}(i:Nat)(p:ev n s x = .pointer (some ⟨b,o,none⟩))(q:ev n s y=v)(hvs:v.cells.toList=vs)
 (m:TI P t sz by_ z) (l:vs.length=sz) (h1:vs.all (·.oneCell')=true) (f:St bs L w) (hi:L[i]? = some (blk b T cs)) (j:o+vs.length<=cs.length)
 (hcs:setAt cs o vs=cs') (h:L.set i (blk b T cs')=L') :
 ∃ w', (execOp (ev n s) ⟨dd,.store t x y,ty,pos,af,g⟩).run P w = .ok .skip w' /\ St bs L' w' /\ gx [b] w w' := by
 have d:=f.En hi
 have e:=run_storeCells_at P b o T vs 0 cs.toArray w d (by simpa using j) (by simpa using h1)
 have k:v.cells.size=sz:=by rw[<-l,<-hvs];simp
 refine⟨w.setRow b (cs'.toArray),?_,?_,gx.setRow w b _⟩
 . simp only[execOp,p,q,Instr.storeAt,Instr.sureAddr,storeVar,zw,jK,zp,m.size,k,ne_eq,not_true,if_false,hvs]
   subst hcs
   simp only[qC]at e
   simp[e,setAt]
 . subst h
   refine f.iJ hi (gx.setRow w b _) (fun c a=>.inl a) (by simp[blk]) (fun c a=>?_) (setRow_heap w b cs.toArray cs'.toArray T (0,0) d)
   simp only[blk,zz]at a
   subst a
   simpa using(nW.1 d).1
theorem FV{b o:Nat}{T:TypeId}{cs cs' vs:List Value}(i:Nat)(h:gB ops n s g=true)(m:ev n s x = .pointer (some ⟨b,o,none⟩))(p:ev n s y=v)(hvs:v.cells.toList=vs)
 (l:TI P t sz by_ z) (k:vs.length=sz) (h1:vs.all (·.oneCell')=true) (j:St bs L w) (hi:L[i]? = some (blk b T cs)) (f:o+vs.length<=cs.length)
 (hcs:setAt cs o vs=cs') (e:L.set i (blk b T cs')=L')
 (K:∀ w', St bs L' w' -> gx [b] w w' -> WL r P ops Q rest (Fr n s ds) w'):WL r P ops Q (⟨none,.store t x y,ty,pos,af,g⟩ :: rest) (Fr n s ds) w:=by
 obtain⟨w', a,c,d⟩:=KQ (dd:=none) (ty:=ty) (pos:=pos) (af:=af) (g:=g) i m p hvs l k h1 j hi f hcs e
 exact Dh h rfl a (K w' c d)
theorem PY{T e:TypeId}{k:IntKind}{b o o' m:Nat}{i:Int}(h:ev n s x = .pointer (some ⟨b,o,none⟩))(j:ev n s y = .int k i)(c:P.underlying T=some (.array m e))
 (f:TI P e sz by_ z) (a:0<=i/\i<m) (d:o+i.toNat*sz=o') :
 (execOp (ev n s) ⟨dd,.indexAddr T x y,ty,pos,af,g⟩).run P w = .ok (.value (.pointer (some ⟨b,o', none⟩))) w:=by
 subst d
 simp only[execOp,h,j,Instr.indexAt,run_underlying c,asIntOf,zw,jK,zp,Instr.sureAddr]
 simp[a,f.size,Addr.add_lit]
theorem jB{T e:TypeId}{k:IntKind}{b o o' m:Nat}{i:Int}(f:gB ops n s g=true)(l:ev n s x = .pointer (some ⟨b,o,none⟩))(p:ev n s y = .int k i)(c:P.underlying T=some (.array m e))
 (j:TI P e sz by_ z) (a:0<=i/\i<m) (h:o+i.toNat*sz=o') (K:WL r P ops Q rest (Fr n ((d,.pointer (some ⟨b,o', none⟩)) :: s) ds) w) :
 WL r P ops Q (⟨some d,.indexAddr T x y,ty,pos,af,g⟩ :: rest) (Fr n s ds) w:=pw f (fun _=>PY l p c j a h) K
theorem BZ{ps:List (Nat×Operand)}{pvs:List (Nat×Value)}(hp:ps.map (fun q=>(q.1,ev n s q.2))=pvs)(hb:∀ w,(Instr.build t pvs.toArray).run P w = .ok v w) :
 (execOp (ev n s) ⟨dd,.build t ps.toArray,ty,pos,af,g⟩).run P w = .ok (.value v) w:=by
 have:(ps.toArray.map fun(i,x)=>(i,ev n s x))=pvs.toArray:=by rw[<-hp];simp
 simp only[execOp,this,zw,hb,zp,jK]
theorem ja{ps:List (Nat×Operand)}{pvs:List (Nat×Value)}(a:gB ops n s g=true)(hp:ps.map (fun q=>(q.1,ev n s q.2))=pvs)(hb:∀ w,(Instr.build t pvs.toArray).run P w = .ok v w)
 (K:WL r P ops Q rest (Fr n ((d,v) :: s) ds) w):WL r P ops Q (⟨some d,.build t ps.toArray,ty,pos,af,g⟩ :: rest) (Fr n s ds) w:=pw a (fun _=>BZ hp hb) K
theorem abq{T:Array TypeId}{k:IntKind}{a b c:Int}(e:ev n s x = .int k a)(f:ev n s y = .int k b)(d:(if b<a then b else a)=c) :
 (execOp (ev n s) ⟨dd,.call ⟨.builtin .min,#[x,y],T⟩,ty,pos,af,g⟩).run P w = .ok (.value (.int k c)) w:=by
 subst d;simp[execOp,resolve,invoke,builtin,e,f,Builtin.min_,Builtin.min2]
theorem min2{T:Array TypeId}{k:IntKind}{a b c:Int}(f:gB ops n s g=true)(h:ev n s x = .int k a)(i:ev n s y = .int k b)(e:(if b<a then b else a)=c)
 (K:WL r P ops Q rest (Fr n ((d,.int k c) :: s) ds) w):WL r P ops Q (⟨some d,.call ⟨.builtin .min,#[x,y],T⟩,ty,pos,af,g⟩ :: rest) (Fr n s ds) w:=pw f (fun _=>abq h i e) K
theorem abc{T:Array TypeId}{k:IntKind}{a b c:Int}(e:ev n s x = .int k a)(f:ev n s y = .int k b)(d:(if a<b then b else a)=c) :
 (execOp (ev n s) ⟨dd,.call ⟨.builtin .max,#[x,y],T⟩,ty,pos,af,g⟩).run P w = .ok (.value (.int k c)) w:=by
 subst d;simp[execOp,resolve,invoke,builtin,e,f,Builtin.max_,Builtin.max2]
theorem max2{T:Array TypeId}{k:IntKind}{a b c:Int}(f:gB ops n s g=true)(h:ev n s x = .int k a)(i:ev n s y = .int k b)(e:(if a<b then b else a)=c)
 (K:WL r P ops Q rest (Fr n ((d,.int k c) :: s) ds) w):WL r P ops Q (⟨some d,.call ⟨.builtin .max,#[x,y],T⟩,ty,pos,af,g⟩ :: rest) (Fr n s ds) w:=pw f (fun _=>abc h i e) K
theorem Yu{a:Option Addr}{m c:Nat}{t' : TypeId}(d:ev n s x = .slice a m c)(f:ev n s y = .slice none 0 0)(b:P.underlying t=some (.slice e)) :
 (execOp (ev n s) ⟨dd,.binOp .eql t x y t', ty,pos,af,g⟩).run P w = .ok (.value (.bool a.isNone)) w:=by
 have h:=Lib.run_eql_slice_nil (P:=P) w t e a m c 0 0 b
 simp[execOp,d,f,eqGuard,h]
theorem Yt{a:Option Addr}{m c:Nat}{t' : TypeId}(b:gB ops n s g=true)(h:ev n s x = .slice a m c)(i:ev n s y = .slice none 0 0)(f:P.underlying t=some (.slice e))
 (K:WL r P ops Q rest (Fr n ((d,.bool a.isNone) :: s) ds) w):WL r P ops Q (⟨some d,.binOp .eql t x y t', ty,pos,af,g⟩ :: rest) (Fr n s ds) w:=pw b (fun _=>Yu h i f) K
theorem Q1 (d:St bs L w)(e:TypeId)(sz len:Nat)(cs:List Value)(a:cs.length=len*sz)(c:len<=maxLen) :
 St bs (row (.slice (some ⟨w.heap.size,0,none⟩) len len) e sz len cs :: L) (w.alloc (.cells cs.toArray e)) :=
 d.sK (gx.alloc [] w _) (fun b hb=>by simp[row,Value.ownBlock]at hb;omega) (by simp[row,Value.ownBlock]) (fun b hb=>by simp[row,Value.ownBlock]at hb;simp;omega)
  ⟨a,.inr ⟨w.heap.size,len,cs.toArray,rfl,mZ _,heap_alloc_new w _,zk _,c,by simp[a],by simp[<-a]⟩⟩
theorem Nq{len:Nat}{ps:List (Nat×Operand)}{pvs:List (Nat×Value)}{cs:List Value}(hp:ps.map (fun q=>(q.1,ev n s q.2))=pvs)(f:P.underlying t=some (.slice e))(hi:TI P e sz by_ z)
 (a:Instr.fill (fun i=>some (i*sz,sz)) ((Array.range (len*sz)).map (z.cells[· % z.cells.size]!)) pvs=some cs.toArray) (h:len*sz<=16777216) :
 (execOp (ev n s) ⟨dd,.buildSlice t len ps.toArray,ty,pos,af,g⟩).run P w = .ok (.value (.slice (some ⟨w.heap.size,0,none⟩) len len)) (w.alloc (.cells cs.toArray e)):=by
 have b:(ps.toArray.map fun(i,x)=>(i,ev n s x))=pvs.toArray:=by rw[<-hp];simp
 have c:¬ len*sz>2 ^ 24:=by simp;omega
 simp only[execOp,b,Instr.buildSlice,zw,run_underlying f,zp,hi.size,jK]
 rw[if_neg c]
 by_cases h0:len*sz=0
 . simp only[h0,if_true,zw,jK,zp]
   rw[h0]at a
   have d : Instr.fill (fun i=>some (i*sz,sz)) ((Array.range 0).map ((#[]:Array Value)[· % (#[]:Array Value).size]!)) pvs=some cs.toArray:=by
    rw[<-a];simp[Array.range_zero']
   simp only[d, zw,jK,zp]
   rfl
 . simp only[h0,if_false,zw,hi.zC,jK,zp,a]
   rfl
theorem U2{len:Nat}{ps:List (Nat×Operand)}{pvs:List (Nat×Value)}{cs:List Value}(f:gB ops n s g=true)(hp:ps.map (fun q=>(q.1,ev n s q.2))=pvs)(l:P.underlying t=some (.slice e))(hi:TI P e sz by_ z)
 (c:Instr.fill (fun i=>some (i*sz,sz)) ((Array.range (len*sz)).map (z.cells[· % z.cells.size]!)) pvs=some cs.toArray) (h:cs.length=len*sz) (j:Nat.ble (len*sz) 16777216=true) (a:Nat.ble len 16777216=true) (k:St bs L w)
 (K:∀ b w', w.heap.size<=b->gx [] w w' -> St bs (row (.slice (some ⟨b,0,none⟩) len len) e sz len cs :: L) w' -> WL r P ops Q rest (Fr n ((d,.slice (some ⟨b,0,none⟩) len len) :: s) ds) w') :
 WL r P ops Q (⟨some d,.buildSlice t len ps.toArray,ty,pos,af,g⟩ :: rest) (Fr n s ds) w :=
 pv f rfl (Nq hp l hi c (oV j)) (K _ _ (zk _) (gx.alloc [] w _) (Q1 k e sz len cs h (by have:=oV a;simp only[maxLen];omega)))
def idx:Nat->List Value->List (Nat×Value)
 | _,[]=>[]
 | i,v :: vs=>(i,v) :: idx (i+1) vs
theorem Pz(off:Nat):∀ (l:List Value) (a:Nat) (b:Array Value),off+a+l.length<=b.size ->
 (l.zipIdx a).foldl (fun cs (q:Value×Nat)=>cs.setIfInBounds (off+q.2) q.1) b=(b.toList.take (off+a)++l++b.toList.drop (off+a+l.length)).toArray:=by
 intro l
 induction l with
 | nil=>intro a b _;simp
 | cons c l f =>
  intro a b h
  simp only[List.zipIdx_cons,List.foldl_cons]
  rw[f (a+1) _ (by simp at h ⊢;omega)]
  simp only[ze]at h
  have e:off+a<b.toList.length:=by simp;omega
  congr 1
  rw[Lx,LB,if_pos e]
  have e1:(b.toList.take (off+a)++c :: b.toList.drop (off+a+1)).take (off+(a+1))=b.toList.take (off+a)++[c]:=by
   rw[List.take_append,zx,oZ o_,show off+(a+1)-(off+a)=1 by omega,u6 (by simp;omega)]
   simp
  have d:(b.toList.take (off+a)++c :: b.toList.drop (off+a+1)).drop (off+(a+1)+l.length)=b.toList.drop (off+a+(l.length+1)):=by
   rw[List.drop_append,zx,oZ o_,GJ (by simp;omega),show off+(a+1)+l.length-(off+a)=l.length+1 by omega]
   simp only[rq,List.drop_succ_cons,List.drop_drop]
   congr 1;omega
  rw[e1,d]
  simp
theorem Pu(sz:Nat):∀ (vs:List Value) (k:Nat) (a:Array Value),(∀ v∈vs,v.cells.size=sz)->k*sz+vs.length*sz<=a.size ->
 Instr.fill (fun i=>some (i*sz,sz)) a (idx k vs)=some (a.toList.take (k*sz)++vs.flatMap (·.cells.toList)++a.toList.drop (k*sz+vs.length*sz)).toArray:=by
 intro vs
 induction vs with
 | nil=>intro k a _ _;simp[idx,Instr.fill]
 | cons v vs l =>
  intro k a hs f
  have hv:=hs v s_
  simp only[ze,sn,Nat.one_mul]at f
  simp only[idx,Instr.fill,hv]
  rw[if_neg (by simp;omega)]
  have d:=Pz (k*sz) v.cells.toList 0 a (by simp[hv];omega)
  have h:Array.foldl (fun cs (q:Value×Nat)=>cs.setIfInBounds (k*sz+q.2) q.1) a v.cells.zipIdx=(a.toList.take (k*sz)++v.cells.toList++a.toList.drop (k*sz+sz)).toArray:=by
   rw[<-Array.foldl_toList,Array.toList_zipIdx]
   simp only[qC,r8,hv]at d
   exact d
  rw[show (Array.foldl (fun cs (x:Value×Nat)=>match x with|(c,j)=>cs.setIfInBounds (k*sz+j) c) a v.cells.zipIdx)=_ from h]
  have b:v.cells.toList.length=sz:=by simp[hv]
  rw[l (k+1) _ (fun u g=>hs u (by simp[g])) (by simp[b,sn];omega)]
  congr 2
  simp only[List.toList_toArray,sn,Nat.one_mul,zy,ze]
  have e1:(a.toList.take (k*sz)++v.cells.toList++a.toList.drop (k*sz+sz)).take (k*sz+sz)=a.toList.take (k*sz)++v.cells.toList:=by
   rw[List.take_append,u6 (by simp[b];omega)]
   simp[b];omega
  have e:(a.toList.take (k*sz)++v.cells.toList++a.toList.drop (k*sz+sz)).drop (k*sz+sz+vs.length*sz)=a.toList.drop (k*sz+(vs.length*sz+sz)):=by
   rw[List.drop_append,GJ (by simp[b];omega)]
   simp only[zq,zx,r8,b,rq,List.drop_drop]
   congr 1;omega
  rw[e1,e]
  simp
theorem jL{len:Nat}{ps:List (Nat×Operand)}{vs cs:List Value}(h:gB ops n s g=true)(hp:ps.map (fun q=>(q.1,ev n s q.2))=idx 0 vs)(k:P.underlying t=some (.slice e))(hi:TI P e sz by_ z)
 (i:vs.length=len) (hv:∀ v∈vs,v.cells.size=sz) (hcs:vs.flatMap (·.cells.toList)=cs) (c:Nat.ble (len*sz) 16777216=true) (a:Nat.ble len 16777216=true) (j:St bs L w)
 (K:∀ b w', w.heap.size<=b->gx [] w w' -> St bs (row (.slice (some ⟨b,0,none⟩) len len) e sz len cs :: L) w' -> WL r P ops Q rest (Fr n ((d,.slice (some ⟨b,0,none⟩) len len) :: s) ds) w') :
 WL r P ops Q (⟨some d,.buildSlice t len ps.toArray,ty,pos,af,g⟩ :: rest) (Fr n s ds) w:=by
 subst i hcs
 have f:(vs.flatMap (·.cells.toList)).length=vs.length*sz:=by
  clear hp c a K
  induction vs with
  | nil=>simp
  | cons v vs m=>simp only[zy,zq,ze,r8,hv v s_,m (fun u l=>hv u (by simp[l])),sn];omega
 refine U2 h hp k hi ?_ f c a j K
 rw[Pu sz vs 0 _ hv s_]
 simp
theorem aba(z0:Value)(k:Nat):madeCells #[z0] k=(List.replicate k z0).toArray:=by
 unfold madeCells
 apply Array.ext
 . simp
 . intro i a b
   simp[Nat.mod_one]
theorem abt{k k' : IntKind}{c m:Nat}(l:ev n s x = .int k (m:Int))(o:ev n s y = .int k' (c:Int))(j:P.underlying t=some (.slice e))(hi:TI P e 1 by_ z)(p:z.cells = #[z])(hm:m<=c)(hb:by_*c<=281474976710656)(q:c<=9223372036854775807) :
 (execOp (ev n s) ⟨dd,.makeSlice t x y,ty,pos,af,g⟩).run P w = .ok (.value (.slice (some ⟨w.heap.size,0,none⟩) m c)) (w.alloc (.cells (List.replicate c z).toArray e)):=by
 obtain⟨i,h,b,d,f⟩:=hi.get
 subst d
 have a:=run_make (P:=P) w t e i z j h f k k' m c o_ o_ (by rw[<-Int.natCast_mul];omega) o_
 rw[p,b,su]at a
 simp only[mj]at a
 rw[aba]at a
 simp only[execOp,l,o,zw,a,zp,jK]
theorem i7{k k' : IntKind}{c m:Nat}(f:gB ops n s g=true)(j:ev n s x = .int k (m:Int))(l:ev n s y = .int k' (c:Int))(i:P.underlying t=some (.slice e))(hi:TI P e 1 by_ z)(o:z.cells = #[z])(hm:m<=c)(hb:by_*c<=281474976710656)(a:c<=9223372036854775807)(h:St bs L w)
 (K:∀ b w', w.heap.size<=b->gx [] w w' -> St bs (blk b e (List.replicate c z) :: L) w' -> WL r P ops Q rest (Fr n ((d,.slice (some ⟨b,0,none⟩) m c) :: s) ds) w') :
 WL r P ops Q (⟨some d,.makeSlice t x y,ty,pos,af,g⟩ :: rest) (Fr n s ds) w :=
 pv f rfl (abt j l i hi o hm hb a) (K _ _ (zk _) (gx.alloc [] w _) (xS h e _))
theorem St.Ty{i b:Nat}{cs:List Value}{m c sz:Nat}(h:St bs L w)(hi:L[i]? = some (blk b e cs))(f:cs.length=c*sz)(hm:m<=c)(g:c<=maxLen) :
 St bs (L.set i (row (.slice (some ⟨b,0,none⟩) m c) e sz m (cs.take (m*sz)))) w:=by
 have d:=h.En hi
 refine h.iJ hi (gx.refl _ _) (fun x a=>.inl (by simpa[row,Value.ownBlock,blk]using a)) (by simp[row,Value.ownBlock]) (fun x a=>?_) ?_
 . simp[row,Value.ownBlock]at a
   subst a
   exact(nW.1 d).1
 . refine⟨by simp[f];rw[<-Nat.mul_min_mul_right,oZ (DB _ hm)],.inr ⟨b,c,cs.toArray,rfl,mZ _,d,hm,g,by simp[f],s_⟩⟩
theorem St.adF{i:Nat}(h:St bs L w)(hi:L[i]? = some (row v e sz m xs)):Src w v sz m xs:=by
 have a:w.ownsRow 0 e sz v m xs:=h.own _ (zd hi)
 rcases a.2 with ⟨rfl,rfl⟩|⟨d, c,cur,rfl,_⟩
 . exact⟨none,0,rfl,a.1,fun j x b=>by have:=a.1;simp at this;subst this;simp at b⟩
 . exact⟨some ⟨d, 0,none⟩,c,rfl,a.1,fun j x b=>⟨_,rfl,a.cells rfl j x b⟩⟩
theorem St.adA{i:Nat}{k:IntKind}{ys:List Int}(h:St bs L w)(hi:L[i]? = some (row v e 1 ys.length (ys.map (.int k))))(hk:∀ y∈ys,gX k y):Ints k (fun b=>b∈iU L) w v ys:=by
 have f:w.ownsRow 0 e 1 v ys.length (ys.map (.int k)):=h.own _ (zd hi)
 rcases f.2 with ⟨rfl,m⟩|⟨c, l,cur,rfl,_,p,n,o,_⟩
 . have:ys=[]:=tT m
   subst this
   exact Sl.nil _ _ _ _
 . refine⟨_,l,rfl,n,o,fun j y d=>⟨c, 0,[.int k y],rfl,rP hi (by simp[row,Value.ownBlock]),rfl,⟨rfl,hk y (zd d)⟩,fun q u a=>?_⟩⟩
   cases q with
   | zero =>
    simp at a
    subst a
    have:=f.cells (g:=c) rfl j (.int k y) (by simp[d])
    rw[Addr.add_lit]at this
    simpa using this
   | succ q=>simp at a
end
section
variable {P:Program} {ops:Array Oper} {Q:Exit->Act->World->Prop} {n:Nat} {s s0:List (Nat×Value)} {ds:List Deferred} {w w' : World} {o:Oper} {v:Value} {C:World->Prop} {l:List Oper} {Nx:Value->World->Prop}
theorem qv(a:gB ops n s o.guard=true)(hd:mc o.op=true)(h:(execOp (ev n s) o).run P w = .ok (.value v) w):mu P ops n o s v C w:=.inl ⟨a,hd,.inl h⟩
theorem qc{f:FuncId}{args:Array Value}(b:gB ops n s o.guard=true)(hd:mc o.op=true)(h:(execOp (ev n s) o).run P w = .ok (.enter f args) w)(a:CR P f args w (fun v' w' => v' = v/\C w')):mu P ops n o s v C w:=.inl ⟨b,hd,.inr ⟨f,args,h,a⟩⟩
theorem Fs(b:gB ops n s o.guard=true)(hd:mc o.op=true)(h:(execOp (ev n s) o).run P w = .ok (.value v) w')(a:Nx v w'):ni P ops Q n ds s0 l o s Nx w:=.inl ⟨b,hd,.inl ⟨v,w', h,a⟩⟩
theorem mun(b:gB ops n s o.guard=true)(hd:mc o.op=true)(h:(execOp (ev n s) o).run P w = .ok .skip w')(a:Nx undef w'):ni P ops Q n ds s0 l o s Nx w:=.inl ⟨b,hd,.inr (.inl ⟨w', h,a⟩)⟩
theorem AE{f:FuncId}{args:Array Value}{R:Value->World->Prop}(g:gB ops n s o.guard=true)(hd:mc o.op=true)(h:(execOp (ev n s) o).run P w = .ok (.enter f args) w)(c:CR P f args w R)(a:∀ v w', R v w' -> Nx v w'):ni P ops Q n ds s0 l o s Nx w :=
 .inl ⟨g,hd,.inr (.inr ⟨f,args,h,Calls.mono c (fun e w' ⟨v,d,b⟩=>by subst d;exact a v w' b)⟩)⟩
variable {dd:Option Nat} {ty:TypeId} {pos:String} {af:Array Edge} {g:Option (Nat×Bool)}
theorem oN{f:FuncId}{a:List Operand}{T:Array TypeId}{vl:List Value}(hvs:a.map (ev n s)=vl)(b:gi P f) :
 (execOp (ev n s) ⟨dd,.call ⟨.value (.func f),a.toArray,T⟩,ty,pos,af,g⟩).run P w = .ok (.enter f vl.toArray) w:=by
 simp only[execOp,resolve,invoke,Deferred.ofValue,Fj, hvs]
 simp[ev,b _ _]
end
end Go.Sx
namespace Go.Sx
open Go
abbrev ig(k:IntKind)(v:Value)(e:TypeId)(ys:List Int):fU:=row v e 1 ys.length (ys.map (.int k))
section
variable {r:Option Nat} {P:Program} {ops:Array Oper} {Q:Exit->Act->World->Prop} {rest:List Oper} {n:Nat} {s:List (Nat×Value)} {ds:List Deferred} {w w' w0:World}
variable {d:Nat} {dd:Option Nat} {ty:TypeId} {pos:String} {af:Array Edge} {g:Option (Nat×Bool)} {v u:Value} {x y:Operand} {bs:List (World×List Nat)} {L L' : List fU} {t e:TypeId} {sz by_ m cnt:Nat} {z:Value} {k:IntKind} {ys zs:List Int}
theorem ZZ(k:IntKind)(zs:List Int):∀ x∈zs.map (Value.int k),x.oneCell' = true:=by
 intro x a
 obtain⟨y,_,rfl⟩:=z7.1 a
 rfl
theorem vI{LL:Value->List fU}(i:Nat)(h:gB ops n s g=true)(m:ev n s x=v)(o:ev n s y=u)(l:P.underlying t=some (.slice e))(hi:TI P e 1 by_ z)(p:z.cells.size=1)
 (j:St bs L w) (c:L[i]? = some (ig k v e ys)) (hs:Src w u 1 zs.length (zs.map (.int k))) (hb:(ys.length+zs.length)*by_<=140737488355328) (q:ys.length+zs.length<=9223372036854775807)
 (f:∀ v', L.set i (ig k v' e (ys++zs))=LL v')
 (K:∀ v' w', St bs (LL v') w' -> gx v.ownBlock.toList w w' -> WL r P ops Q rest (Fr n ((d,v') :: s) ds) w') :
 WL r P ops Q (⟨some d,.call ⟨.builtin .append,#[x,y],#[t,t]⟩,ty,pos,af,g⟩ :: rest) (Fr n s ds) w:=by
 refine Nf i h m o l hi p d_ j c hs (ZZ k zs) hb (by simp only[maxLen];omega) fun v' w' a b=>K v' w' ?_ b
 rw[<-f]
 simpa[ig]using a
theorem St.Eh(h:St bs L w)(e:TypeId)(sz:Nat):St bs (row (.slice none 0 0) e sz 0 [] :: L) w :=
 h.add (lo:=w.heap.size) (fun p hp=>(h.base p hp).gz.size) h.lt (fun b hb=>by simp[row,Value.ownBlock]at hb) (by simp[row,Value.ownBlock]) (fun b hb=>by simp[row,Value.ownBlock]at hb) (World.ownsRow_nil w 0 e sz)
end
end Go.Sx
namespace Go.Sx
open Go
section
variable {Γ:Type} {r:Option Nat} {P:Program} {ops:Array Oper} {Q:Exit->Act->World->Prop} {n:Nat} {ds:List Deferred} {s0:List (Nat×Value)} {l0 l:List Oper} {pre:List (List Nat)} {mem:List Nat} {V vs:List (Γ->Value)} {v:Γ->Value}
variable {bs:List (World×List Nat)} {Ls:List ((Γ->List fU)×(Γ->World->Prop))} {i lo:Nat} {s:Γ->List (Nat×Value)} {o:Oper} {L L' L1 L2:Γ->List fU} {F F' F1 F2:Γ->World->Prop}
def jx(bs:List (World×List Nat))(Ls:List ((Γ->List fU)×(Γ->World->Prop)))(p:Nat)(g:Γ)(w:World):Prop :=
 match Ls[p]? with
 | some (L,F)=>St bs (L g) w/\F g w
 | none=>False
theorem jx.at{p:Nat}(h:Ls[p]? = some (L,F)){g:Γ}{w:World}:jx bs Ls p g w↔(St bs (L g) w/\F g w):=by simp only[jx,h]
theorem lX.refl(g:Γ):∀ (V:List (Γ->Value)) (k:Nat),lX pre i g g k V:=by
 intro V
 induction V with
 | nil=>intro k;trivial
 | cons v V a=>intro k;exact⟨by cases ((pre.getD k []).contains i||k==i)<;>simp,a (k+1)⟩
theorem J5:lE P ops Q n ds s0 l0 pre mem V (jx bs Ls) i s [] []:=trivial
theorem abT(hm:mem.contains i=false)(h:∀ g w C,mu P ops n o (s g) (v g) C w)(K:lE P ops Q n ds s0 l0 pre mem V (jx bs Ls) (i+1) (fun g=>kj o.dst (v g) (s g)) l vs) :
 lE P ops Q n ds s0 l0 pre mem V (jx bs Ls) i s (o :: l) (v :: vs):=by
 refine⟨?_,K⟩
 rw[hm]
 exact fun p g w _ _ _=>h g w _
theorem mu.congr{C b : World->Prop}{s:List (Nat×Value)}{v:Value}{w:World}(g:∀ w,C w->b w)(h:mu P ops n o s v C w):mu P ops n o s v b w:=by
 rcases h with ⟨c,d,a|⟨f,args,a,e⟩⟩|h
 . exact .inl ⟨c,d,.inl a⟩
 . exact .inl ⟨c,d,.inr ⟨f,args,a,e.mono fun v' w' h=>⟨h.1,g w' h.2⟩⟩⟩
 . exact .inr h
theorem uL(hm:mem.contains i=false)(j:uG pre mem i=lo)(f:uB pre mem i=lo)(a:Ls[lo]? = some (L,F))
 (h:∀ g w,St bs (L g) w->F g w->mu P ops n o (s g) (v g) (fun w' => St bs (L g) w' /\ F g w') w) (K:lE P ops Q n ds s0 l0 pre mem V (jx bs Ls) (i+1) (fun g=>kj o.dst (v g) (s g)) l vs) :
 lE P ops Q n ds s0 l0 pre mem V (jx bs Ls) i s (o :: l) (v :: vs):=by
 refine⟨?_,K⟩
 rw[hm]
 intro p g w d e c
 obtain rfl:p=lo:=by omega
 have b := (jx.at a).1 c
 exact(h g w b.1 b.2).congr fun w' h=>(jx.at a).2 h
theorem Fx(hm:mem.contains i=false)(m:uG pre mem i=lo)(k:uB pre mem i=lo+1)(b:Ls[lo]? = some (L,F))(c:Ls[lo+1]? = some (L1,F1))
 (h:∀ g w,St bs (L g) w->F g w->mu P ops n o (s g) (v g) (fun w' => St bs (L g) w' /\ F g w') w) (e : ∀ g w,St bs (L1 g) w->F1 g w->mu P ops n o (s g) (v g) (fun w' => St bs (L1 g) w' /\ F1 g w') w)
 (K:lE P ops Q n ds s0 l0 pre mem V (jx bs Ls) (i+1) (fun g=>kj o.dst (v g) (s g)) l vs) :
 lE P ops Q n ds s0 l0 pre mem V (jx bs Ls) i s (o :: l) (v :: vs):=by
 refine⟨?_,K⟩
 rw[hm]
 intro p g w f j d
 rcases(show p=lo\/p=lo+1 by omega)with rfl|rfl
 . have a := (jx.at b).1 d
   exact(h g w a.1 a.2).congr fun w' h=>(jx.at b).2 h
 . have a := (jx.at c).1 d
   exact(e g w a.1 a.2).congr fun w' h=>(jx.at c).2 h
theorem abU(hm:mem.contains i=false)(r:uG pre mem i=lo)(q:uB pre mem i=lo+2)(c:Ls[lo]? = some (L,F))(d:Ls[lo+1]? = some (L1,F1))(e:Ls[lo+2]? = some (L2,F2))
 (h:∀ g w,St bs (L g) w->F g w->mu P ops n o (s g) (v g) (fun w' => St bs (L g) w' /\ F g w') w) (f : ∀ g w,St bs (L1 g) w->F1 g w->mu P ops n o (s g) (v g) (fun w' => St bs (L1 g) w' /\ F1 g w') w)
 (j : ∀ g w,St bs (L2 g) w->F2 g w->mu P ops n o (s g) (v g) (fun w' => St bs (L2 g) w' /\ F2 g w') w)
 (K:lE P ops Q n ds s0 l0 pre mem V (jx bs Ls) (i+1) (fun g=>kj o.dst (v g) (s g)) l vs) :
 lE P ops Q n ds s0 l0 pre mem V (jx bs Ls) i s (o :: l) (v :: vs):=by
 refine⟨?_,K⟩
 rw[hm]
 intro p g w k m b
 rcases(show p=lo\/p=lo+1\/p=lo+2 by omega)with rfl|rfl|rfl
 . have a := (jx.at c).1 b
   exact(h g w a.1 a.2).congr fun w' h=>(jx.at c).2 h
 . have a := (jx.at d).1 b
   exact(f g w a.1 a.2).congr fun w' h=>(jx.at d).2 h
 . have a := (jx.at e).1 b
   exact(j g w a.1 a.2).congr fun w' h=>(jx.at e).2 h
theorem ni.mono{s:List (Nat×Value)}{w:World}{N j : Value->World->Prop}(g:∀ v w,N v w->j v w)(h:ni P ops Q n ds s0 l0 o s N w):ni P ops Q n ds s0 l0 o s j w:=by
 rcases h with ⟨a,b,⟨v,w', c,d⟩|⟨w', c,d⟩|⟨f,args,c,d⟩⟩|⟨a,b⟩
 . exact .inl ⟨a,b,.inl ⟨v,w', c,g _ _ d⟩⟩
 . exact .inl ⟨a,b,.inr (.inl ⟨w', c,g _ _ d⟩)⟩
 . refine .inl ⟨a,b,.inr (.inr ⟨f,args,c,Calls.mono d fun e w' i=>?_⟩)⟩
   cases e with
   | returned v=>exact g _ _ i
   | panicked ch=>exact i
   | outgrown=>exact i
 . exact .inr ⟨a,g _ _ b⟩
theorem CN{k:Nat}(hm:mem.contains i=true)(hk:mem.idxOf i=k)(f:Ls[k]? = some (L,F))(j : Ls[k+1]? = some (L', F'))
 (h:∀ g w,St bs (L g) w->F g w->ni P ops Q n ds s0 l0 o (s g) (fun v' w' => ∃ a, (St bs (L' a) w' /\ F' a w')/\v' = v a /\ lX pre i g a 0 V) w)
 (K:lE P ops Q n ds s0 l0 pre mem V (jx bs Ls) (i+1) (fun g=>kj o.dst (v g) (s g)) l vs) :
 lE P ops Q n ds s0 l0 pre mem V (jx bs Ls) i s (o :: l) (v :: vs):=by
 refine⟨?_,K⟩
 rw[hm,hk]
 intro g w m
 have b := (jx.at f).1 m
 exact(h g w b.1 b.2).mono fun v' w' ⟨a, c,d,e⟩=>⟨a, (jx.at j).2 c,d,e⟩
theorem Sa{id:Nat}{w:World}(hm:P.follows .mixedOrders=true)(pre:List (List Nat))(mem:List Nat)(j:AS l pre mem=true)(V:List (Γ->Value))(Ls:List ((Γ->List fU)×(Γ->World->Prop)))(a:Γ)
 (sE:Γ->List (Nat×Value)) (e:Ls[0]? = some (L,F)) (k:St bs (L a) w) (d:∀ w', gx [] w w' -> F a w') (f:lE P l.toArray Q n ds s0 l pre mem V (jx bs Ls) 0 (fun _=>s0) l V)
 (c:∀ g,iM (fun _=>true) 0 l (V.map (· g)) s0=sE g) (b:Ls[mem.length]? = some (L', F'))
 (i:∀ g w', St bs (L' g) w' -> F' g w' -> Q .normal (Fr n (sE g) ds) w'):WP r P (.region id l.toArray true) Q (Fr n s0 ds) w :=
 Kq hm pre mem j V (jx bs Ls) a sE ((jx.at e).2 ⟨k.grow (gx.drew [] w),d _ (gx.drew [] w)⟩) f c fun g w' h=>i g w' ((jx.at b).1 h).1 ((jx.at b).1 h).2
theorem St.drew{L:List fU}{w:World}(h:St bs L w):St bs L w.drew:=h.grow (gx.drew [] w)
end
def M9(sz:Nat)(v:Value)(i:Nat):Value:=match v with
 | .slice (some ⟨b,o,_⟩) _ _=>.pointer (some ⟨b,o+i*sz,none⟩)
 | _=>.pointer none
def mR(sz:Nat)(v:Value)(l h:Nat):Value:=match v with
 | .slice a _ c=>.slice (if c=l then a else a.map (·.add (l*sz))) (h-l) (c-l)
 | _=>v
section
variable {P:Program} {n:Nat} {s:List (Nat×Value)} {w:World} {dd:Option Nat} {ty:TypeId} {pos:String} {af:Array Edge} {g:Option (Nat×Bool)} {v:Value} {x y:Operand} {t e:TypeId} {sz by_:Nat} {z:Value} {u:TypeDesc}
theorem Jy{α:Type}{enc:World->α->List Value->Prop}{ok:Nat->Prop}{w0:World}{ys:List α}(f:ev n s x=v)(d:P.underlying t=some (.slice e))(b:Sl sz enc ok w0 v ys) :
 (execOp (ev n s) ⟨dd,.call ⟨.builtin .len,#[x],#[t]⟩,ty,pos,af,g⟩).run P w = .ok (.value (.int .i64 ys.length)) w:=by
 obtain⟨a,c,rfl,_⟩:=b
 exact Jz f d
theorem aae{α:Type}{k' : IntKind}{enc:World->α->List Value->Prop}{ok:Nat->Prop}{w0:World}{ys:List α}{i:Int}{el:α}(l:ev n s x=v)(m:ev n s y = .int k' i)(k:P.underlying t=some (.slice e))(hi:TI P e sz by_ z)
 (j:Sl sz enc ok w0 v ys) (f:0<=i) (d:ys[i.toNat]? = some el) :
 (execOp (ev n s) ⟨dd,.indexAddr t x y,ty,pos,af,g⟩).run P w = .ok (.value (M9 sz v i.toNat)) w:=by
 have r:=(zg.1 d).1
 obtain⟨a,c,rfl,_,_,h⟩:=j
 obtain⟨b,o,vs,rfl,_,q,_,p⟩:=h i.toNat el d
 exact Jl l m k hi ⟨f,o_⟩ rfl
theorem aeb{α:Type}{enc:World->α->List Value->Prop}{ok:Nat->Prop}{w0:World}{ys:List α}{low high:Option Operand}{l h:Nat}(f:ev n s x=v)(d:P.underlying t=some (.slice e))(hi:TI P e sz by_ z)
 (u:Sl sz enc ok w0 v ys) (i:match low with|none=>l=0|some p=>∃ k,ev n s p = .int k (l:Int)) (b:match high with|none=>h=ys.length|some p=>∃ k,ev n s p = .int k (h:Int)) (A:l<=h) (E:h<=ys.length) :
 (execOp (ev n s) ⟨dd,.slice t x low high none,ty,pos,af,g⟩).run P w = .ok (.value (Go.Sx.mR sz v l h)) w:=by
 obtain⟨a,c,rfl,B,C,D⟩:=u
 have b1:∀ (m:Nat) (o:BoundsCode) (k:IntKind) (q:Nat),q<=m->(Instr.sliceBound (.int k (q:Int)) m o).run P w = .ok q w:=by
  intro m o k q j
  have:(0:Int)<=(q:Int)/\(q:Int)<=(m:Int):=by omega
  simp[Instr.sliceBound,asIntOf,this]
 have r:h<=c:=by omega
 have y:l<=ys.length:=by omega
 cases low with
 | none =>
  simp only at i
  subst i
  cases high with
  | none =>
   simp only at b
   subst b
   simp[execOp,f,Instr.sliceAt,Instr.slice,run_underlying d,Instr.sliceBounds,hi.size,Go.Sx.mR]
  | some p =>
   obtain⟨k,hp⟩:=b
   simp[execOp,f,hp,Instr.sliceAt,Instr.slice,run_underlying d,Instr.sliceBounds,hi.size,b1 _ _ _ _ r,Go.Sx.mR]
 | some q =>
  obtain⟨k,j⟩:=i
  cases high with
  | none =>
   simp only at b
   subst b
   simp[execOp,f,j,Instr.sliceAt,Instr.slice,run_underlying d,Instr.sliceBounds,hi.size,b1 _ _ _ _ y,Go.Sx.mR]
  | some p =>
   obtain⟨k', hp⟩:=b
   simp[execOp,f,j,hp,Instr.sliceAt,Instr.slice,run_underlying d,Instr.sliceBounds,hi.size,b1 _ _ _ _ r,b1 _ _ _ _ A,Go.Sx.mR]
end
section
variable {Γ:Type} {P:Program} {ops:Array Oper} {Q:Exit->Act->World->Prop} {n:Nat} {s s0:List (Nat×Value)} {ds:List Deferred} {w:World} {o:Oper} {v u:Value} {l:List Oper} {Nx:Value->World->Prop}
variable {dd:Option Nat} {d:Nat} {ty:TypeId} {pos:String} {af:Array Edge} {g:Option (Nat×Bool)} {x y:Operand} {t e:TypeId} {sz by_ cnt:Nat} {z:Value} {bs:List (World×List Nat)} {L L' : List fU} {news:List Value}
variable {pre:List (List Nat)} {i:Nat} {V:List (Γ->Value)} {a b:Γ} {k:Nat} {f:Γ->Value}
theorem kC(h:bif (pre.getD k []).contains i||k==i then True else f b=f a)(K:lX pre i a b (k+1) V):lX pre i a b k (f :: V):=⟨h,K⟩
theorem aex:lX pre i a b k []:=trivial
theorem JF{b o:Nat}{T:TypeId}{cs cs' vs:List Value}(i:Nat)(f:gB ops n s g=true)(m:ev n s x = .pointer (some ⟨b,o,none⟩))(p:ev n s y=v)(hvs:v.cells.toList=vs)
 (k:TI P t sz by_ z) (j:vs.length=sz) (h1:vs.all (·.oneCell')=true) (h:St bs L w) (hi:L[i]? = some (blk b T cs)) (e:Nat.ble (o+vs.length) cs.length=true)
 (hcs:setAt cs o vs=cs') (d:L.set i (blk b T cs')=L') (K:∀ w', St bs L' w' -> Nx undef w') :
 ni P ops Q n ds s0 l ⟨none,.store t x y,ty,pos,af,g⟩ s Nx w:=by
 obtain⟨w', a,c,q⟩:=KQ (dd:=none) (ty:=ty) (pos:=pos) (af:=af) (g:=g) i m p hvs k j h1 h hi (oV e) hcs d
 exact mun f rfl a (K w' c)
theorem Fg{cs:List Value}(a:gB ops n s g=true)(d:TI P t sz by_ z)(hcs:z.cells.toList=cs)(c:St bs L w)
 (K:∀ b w', St bs (blk b t cs :: L) w' -> Nx (.pointer (some ⟨b,0,none⟩)) w'):ni P ops Q n ds s0 l ⟨dd,.alloc t,ty,pos,af,g⟩ s Nx w:=by
 subst hcs
 refine Fs (v:=.pointer (some ⟨w.heap.size,0,none⟩)) (w' := w.alloc (.cells z.cells t)) a rfl ?_ (K _ _ ?_)
 . simp only[execOp,Instr.alloc,zw,d.zC,zp]
   rfl
 . have:=xS c t z.cells.toList
   simpa using this
theorem JE{cs:List Value}(a:gB ops n s g=true)(d:ev n s x=v)(hcs:v.cells.toList=cs)(c:St bs L w)
 (K:∀ b w', St bs (blk b t cs :: L) w' -> Nx (.pointer (some ⟨b,0,none⟩)) w'):ni P ops Q n ds s0 l ⟨dd,.box t x,ty,pos,af,g⟩ s Nx w:=by
 subst hcs
 refine Fs (v:=.pointer (some ⟨w.heap.size,0,none⟩)) (w' := w.alloc (.cells v.cells t)) a rfl ?_ (K _ _ ?_)
 . simp only[execOp,d,Instr.box]
   rfl
 . have:=xS c t v.cells.toList
   simpa using this
end
end Go.Sx
namespace Go.Sx
open Go
section
variable {w w' w0:World} {bs:List (World×List Nat)} {L:List fU} {b:Nat} {T:TypeId} {cs cs' : List Value}
theorem St.ZV(w:World)(h:(blk b T cs).holds w):St [(w,[b])] [blk b T cs] w:=by
 have:=St.PV w [blk b T cs] (fun R a=>by simp only[zz]at a;subst a;exact h) (by simp[iU,blk])
  (fun c d=>by
   simp only[iU,zy,List.flatMap_nil,qA,blk,zz]at d
   subst d
   exact(nW.1 (show w.heap[c]? = _ from h)).1)
 simpa[iU,blk]using this
theorem Sl.old{α:Type}{sz:Nat}{enc:World->α->List Value->Prop}{ok:Nat->Prop}{v:Value}{xs:List α}(h:Sl sz enc ok w v xs)(hp:0<sz):Sl sz enc (fun b=>ok b/\b<w.heap.size) w v xs:=by
 obtain⟨a,c,e,g,j,k⟩:=h
 refine⟨a,c,e,g,j,fun i x hi=>?_⟩
 obtain⟨b,o,vs,l,hb,f,m,d⟩:=k i x hi
 refine⟨b,o,vs,l,⟨hb,?_⟩,f,m,d⟩
 cases vs with
 | nil=>simp at f;omega
 | cons u vs=>exact World.block_lt_of_cell? w _ (d 0 u rfl)
theorem St.size{X:List Nat}(h:St bs L w)(hb:(w0,X)∈bs):w0.heap.size<=w.heap.size:=(h.gz hb).size
end
end Go.Sx
namespace Go.Sx
open Go
section
variable {P:Program} {n:Nat} {s:List (Nat×Value)} {w:World} {fn:Func} {bs:List (World×List Nat)} {L:List fU} {x y z:ResultVar} {v v' v'' : Value} {t:TypeId} {u:TypeDesc}
def RV(P:Program)(n:Nat)(s:List (Nat×Value))(w:World)(v:Value):ResultVar->Prop
 | .tmp t=>ev n s (.tmp t)=v
 | .cell a T=>∃ b,ev n s (.tmp a) = .pointer (some b)/\(loadVar T b).run P w = .ok v w
def FO(tmps:Array Value):ResultVar->Sem Value
 | .tmp t=>pure (tmps.getD t undef)
 | .cell a t=>do loadVar t (<- asAddr (tmps.getD a undef))
theorem Ky(h:RV P n s w v x):(FO (Fr n s []).tmps x).run P w = .ok v w:=by
 cases x with
 | tmp t=>simp only[FO,jK];rw[qi];rw[show ev n s (.tmp t)=v from h]
 | cell a T =>
  obtain⟨d,b,c⟩:=h
  simp only[FO,zw]
  rw[qi,b]
  simp[asAddr,c]
theorem R5(tmps:Array Value):results fn tmps=(do let vs <- fn.results.mapM (FO tmps);pure (if h:vs.size=1 then vs[0]else .tuple vs)):=by
 unfold results
 congr 2
theorem Kn(b:fn.results = #[x,y])(h1:RV P n s w v x)(a:RV P n s w v' y):(results fn (Fr n s []).tmps).run P w = .ok (.tuple #[v,v']) w:=by
 rw[R5,b]
 simp[zw,Result.andThen,Ky h1,Ky a]
theorem nO{R:Value->World->Prop}(b:fn.results = #[x,y])(h1:RV P n s w v x)(a:RV P n s w v' y)(h:R (.tuple #[v,v']) w) :
 bodyPost P fn (fun e w' => ∃ v,e = .returned v/\R v w') .ret (Fr n s []) w:=⟨rfl,_,Kn b h1 a,_,rfl,h⟩
theorem oC{t:Nat}(h:ev n s (.tmp t)=v):RV P n s w v (.tmp t):=h
theorem AY{a b o:Nat}{T:TypeId}(e:ev n s (.tmp a) = .pointer (some ⟨b,o,none⟩))(d:P.underlying T=some u)(c:j4 u=false)(hv:w.cell? ⟨b,o,none⟩=some v):RV P n s w v (.cell a T) :=
 ⟨_,e,by simp only[loadVar,zw,wJ d,c,zp];simp[load,Sem.run,hv]⟩
theorem nE{a b o sz by_:Nat}{T:TypeId}{cs:List Value}{z:Value}(h:ev n s (.tmp a) = .pointer (some ⟨b,o,none⟩))(g:P.underlying T=some u)(e:j4 u=true)(f:TI P T sz by_ z)
 (d:cs.length=sz) (hv:∀ j u,cs[j]? = some u->w.cell? ⟨b,o+j,none⟩=some u):RV P n s w (.agg cs.toArray) (.cell a T):=by
 subst d
 have:=run_loadCells_list (P:=P) w ⟨b,o,none⟩ cs (fun j u c=>by rw[Addr.add_lit];exact hv j u c)
 exact⟨_,h,by simp only[loadVar,zw,wJ g,e,zp,f.size,this,if_true,jK]⟩
end
end Go.Sx
namespace Go.Sx
open Go
section
variable {P:Program} {n:Nat} {s:List (Nat×Value)} {w:World} {v:Value} {T:TypeId} {sz by_:Nat} {z:Value} {bs:List (World×List Nat)} {L:List fU}
theorem cells_one(h:v.oneCell' = true):v.cells.toList=[v]:=by cases v<;>first|rfl|(simp[Value.oneCell']at h)
theorem Sl.Re{α:Type}{sz:Nat}{enc:World->α->List Value->Prop}{ok:Nat->Prop}{xs:List α}(h:Sl sz enc ok w v xs):v.oneCell' = true:=by
 obtain⟨a,c,rfl,_⟩:=h
 rfl
theorem ab6{e:TypeId}{m:Nat}{xs:List Value}(h:w.ownsRow 0 e sz v m xs):v.oneCell' = true:=by
 rcases h.2 with ⟨rfl,_⟩|⟨g,a,cur,rfl,_⟩<;>rfl
theorem St.adz{i:Nat}{e:TypeId}{m:Nat}{xs:List Value}(h:St bs L w)(hi:L[i]? = some (row v e sz m xs)):v.oneCell' = true:=ab6 (h.own _ (zd hi))
theorem kT:([]:List Value).all (·.oneCell')=true:=rfl
theorem ia{l:List Value}(h:v.oneCell' = true)(k:l.all (·.oneCell')=true):(v :: l).all (·.oneCell')=true:=by simp only[List.all_cons,h,k,Bool.and_self]
theorem St.at{R:fU}{i:Nat}(h:St bs L w)(hi:L[i]? = some R):R.holds w:=h.own _ (zd hi)
def Ao(pl:List (Nat×Nat)):List Value->List (Nat×List Value)->Option (List Value)
 | cs,[]=>some cs
 | cs,(i,vs) :: rest=>match pl[i]? with
  | none=>none
  | some (off,sz)=>bif Nat.beq vs.length sz&&Nat.ble (off+vs.length) cs.length then Ao pl (setAt cs off vs) rest else none
def DP:List (Nat×Value)->List (Nat×List Value)->Prop
 | [],[]=>True
 | (i,v) :: l,(j,vs) :: m=>i=j/\v.cells.toList=vs/\DP l m
 | _,_=>False
theorem Pt(pl:List (Nat×Nat)):∀ (ps:List (Nat×Value)) (b:List (Nat×List Value)) (cs out:List Value),DP ps b->Ao pl cs b=some out->Instr.fill (pl.toArray[·]?) cs.toArray ps=some out.toArray:=by
 intro ps
 induction ps with
 | nil =>
  intro b cs out h a
  cases b with
  | nil=>simp only[Ao,Option.some.injEq]at a;subst a;rfl
  | cons q b=>cases h
 | cons p ps f =>
  intro b cs out h a
  cases b with
  | nil=>cases h
  | cons q b =>
   obtain⟨i,v⟩:=p
   obtain⟨j,vs⟩:=q
   obtain⟨rfl,hv,h⟩:=h
   simp only[Ao]at a
   simp only[Instr.fill,Bq]
   cases hp:pl[i]? with
   | none=>rw[hp]at a;cases a
   | some p =>
    obtain⟨off,sz⟩:=p
    rw[hp]at a
    simp only at a
    cases hb:(Nat.beq vs.length sz&&Nat.ble (off+vs.length) cs.length)with
    | false=>rw[hb]at a;cases a
    | true =>
     rw[hb]at a
     simp only[cond_true]at a
     rw[lW]at hb
     have g:vs.length=sz:=Br hb.1
     have k:=oV hb.2
     have hs:v.cells.size=vs.length:=by rw[<-hv];simp
     simp only[hs]
     rw[if_neg (by simp;omega)]
     have d:=Pz off v.cells.toList 0 cs.toArray (by simp[hs];omega)
     have e:Array.foldl (fun cs (q:Value×Nat)=>cs.setIfInBounds (off+q.2) q.1) cs.toArray v.cells.zipIdx=(setAt cs off vs).toArray:=by
      rw[<-Array.foldl_toList,Array.toList_zipIdx]
      simp only[qC,r8,hs,hv]at d ⊢
      rw[d]
      simp[setAt]
     rw[show (Array.foldl (fun cs (x:Value×Nat)=>match x with|(c,j)=>cs.setIfInBounds (off+j) c) cs.toArray v.cells.zipIdx)=_ from e]
     simpa only[Bq]using f b _ out h a
def kf(P:Program)(T:TypeId)(pl:List (Nat×Nat)):Prop :=
 ∃ fields,P.underlying T=some (.struct fields)/\∀ w,(fields.mapM (fun f=>do pure (f.offset,<-sizeOf f.type):Field->Sem (Nat×Nat))).run P w = .ok pl.toArray w
theorem jq{pl:List (Nat×Nat)}{ps:List (Nat×Value)}(a:List (Nat×List Value)){cs out:List Value}(d:TI P T sz by_ z)(hp:kf P T pl)(f:z.cells.toList=cs)(b:DP ps a)(c:Ao pl cs a=some out)(w:World) :
 (Instr.build T ps.toArray).run P w = .ok (.agg out.toArray) w:=by
 obtain⟨fields,e,hm⟩:=hp
 have:=Pt pl ps a cs out b c
 subst f
 simp only[Array.toArray_toList]at this
 simp only[Instr.build,zw,d.zC,zp,run_underlying e,hm,this,jK]
theorem ur{e:TypeId}{len a f:Nat}{t:Value}{ps:List (Nat×Value)}(c:List (Nat×List Value)){cs out:List Value}(o:TI P T sz by_ z)(q:P.underlying T=some (.array len e))(j:TI P e a f t)(r:z.cells.toList=cs)
 (k:DP ps c) (m:Ao ((List.range len).map fun i=>(i*a,a)) cs c=some out) (n:∀ p∈ps,p.1<len) (w:World) :
 (Instr.build T ps.toArray).run P w = .ok (.agg out.toArray) w:=by
 have d:=Pt _ ps c cs out k m
 have g:∀ (l:List (Nat×Value)) (b:Array Value),(∀ p∈l,p.1<len)->Instr.fill (fun i=>some (i*a,a)) b l=Instr.fill ((((List.range len).map fun i=>(i*a,a)).toArray)[·]?) b l:=by
  intro l
  induction l with
  | nil=>intro b _;rfl
  | cons p l s =>
   intro b h
   obtain⟨i,v⟩:=p
   have hi:=h (i,v) s_
   simp only at hi
   simp only[Instr.fill,Bq,kR,pX hi,w5]
   split
   . rfl
   . simpa only[Bq,kR]using s _ (fun p hp=>h p (by simp[hp]))
 subst r
 simp only[Array.toArray_toList]at d
 simp only[Instr.build,zw,o.zC,zp,run_underlying q,j.size,g _ _ n,d,jK]
end
end Go.Sx
namespace Go.Sx
open Go
section
variable {w w' w0:World} {bs:List (World×List Nat)} {L:List fU} {R R' : fU}
structure Own (R:fU) (w:World):Prop where
 holds:R.holds w
 nodup:R.gG.Nodup
 lt:∀ b∈R.gG,b<w.heap.size
structure fZ (R:fU) (w w' : World) (R' : fU):Prop where
 holds:R'.holds w'
 gz:gx R.gG w w'
 place:∀ b∈R'.gG,b∈R.gG\/w.heap.size<=b
 nodup:R'.gG.Nodup
 lt:∀ b∈R'.gG,b<w'.heap.size
theorem KR{α β:Type}{f:α->List β}:∀ {l:List α} {x:α},(l.flatMap f).Nodup->x∈l->(f x).Nodup:=by
 intro l
 induction l with
 | nil=>intro x _ h;simp at h
 | cons y l b =>
  intro x h a
  rw[zy]at h
  rcases zb.1 a with rfl|a
  . exact(zr.1 h).1
  . exact b (zr.1 h).2.1 a
theorem St.Rn{i:Nat}(h:St bs L w)(hi:L[i]? = some R):Own R w :=
 ⟨h.own R (zd hi),KR h.sep (zd hi),fun b hb=>h.lt b (rP hi hb)⟩
theorem St.Lj{LL:List fU}(i:Nat)(h:St bs L w)(hi:L[i]? = some R)(a:fZ R w w' R')(b:L.set i R' = LL):St bs LL w' := by
 subst b
 exact h.iJ hi a.gz a.place a.nodup a.lt a.holds
theorem St.Ji(h:Own R w):St [(w,R.gG)] [R] w:=by
 have:=St.PV w [R] (fun Q a=>by simp only[zz]at a;subst a;exact h.holds) (by simpa[iU]using h.nodup) (fun b hb=>h.lt b (by simpa[iU]using hb))
 simpa[iU]using this
theorem St.EA(h:St bs (R' :: L) w')(hb:(w,R.gG)∈bs):fZ R w w' R' := by
 have c:=h.base _ hb
 refine⟨h.own R' s_,c.gz,fun b a => c.mine b (by rw[lZ];simp[a]),KR (x:=R') h.sep s_,fun b a => h.lt b (by rw[lZ];simp[a])⟩
theorem fZ.refl(h:Own R w):fZ R w w R:=⟨h.holds,gx.refl _ _,fun b hb=>.inl hb,h.nodup,h.lt⟩
theorem fZ.own(h:fZ R w w' R'):Own R' w' := ⟨h.holds,h.nodup,h.lt⟩
theorem B0{b o:Nat}{T:TypeId}{cs:List Value}{v:Value}(h:(blk b T cs).holds w)(hv:cs[o]? = some v):w.cell? ⟨b,o,none⟩=some v:=by
 have a:(blk b T cs).holds w:=h
 have:=(St.ZV w a).rH (i:=0) (o:=o) rfl hv
 exact this
end
end Go.Sx
namespace Go.Sx
open Go
section
variable {P:Program} {n:Nat} {s:List (Nat×Value)} {w:World} {fn:Func} {RR:Ending->World->Prop} {v v' v'' : Value} {x y z:ResultVar}
theorem ada(a:fn.results = #[x])(h1:RV P n s w v x):(results fn (Fr n s []).tmps).run P w = .ok v w:=by
 rw[R5,a]
 simp[zw,Result.andThen,Ky h1]
theorem R6{R:Value->World->Prop}(a:fn.results = #[x])(h1:RV P n s w v x)(h:R v w) :
 bodyPost P fn (fun e w' => ∃ v,e = .returned v/\R v w') .ret (Fr n s []) w:=⟨rfl,_,ada a h1,_,rfl,h⟩
end
theorem St.perm{bs:List (World×List Nat)}{L L' : List fU}{w:World}(h:St bs L w)(hp:L.Perm L'):St bs L' w:=by
 have a:(iU L).Perm (iU L'):=hp.flatMap_right _
 exact⟨fun p c => ⟨(h.base p c).gz,fun b hb=>(h.base p c).mine b (a.mem_iff.2 hb)⟩,fun X d=>h.own X (hp.mem_iff.2 d),a.nodup_iff.1 h.sep,fun b hb=>h.lt b (a.mem_iff.2 hb)⟩
theorem St.swap{bs:List (World×List Nat)}{L:List fU}{R R' : fU}{w:World}(h:St bs (R :: R' :: L) w):St bs (R' :: R :: L) w:=h.perm (List.Perm.swap _ _ _)
end Go.Sx
namespace Go.Sx
open Go
def iR(l:Nat)(r:Loop):fU where
 gG:=[l]
 holds w:=w.heap[l]? = some (.loop r)
 loc w w' h hh:=(h l s_).trans hh
def jW(d:Nat)(o:Option (List Deferred)):fU where
 gG:=[d]
 holds w:=w.heap[d]? = some (.deferred o)
 loc w w' h hh:=(h d s_).trans hh
theorem gx.putObj(w:World)(r:Nat)(o:Obj):gx [r] w (w.putObj r o) :=
 ⟨rfl,rfl,rfl,s_,fun b _ hb=>World.putObj_heap_other (by simpa using hb)⟩
section
variable {w w' : World} {bs:List (World×List Nat)} {L LL:List fU} {i l d:Nat} {rc:Loop}
theorem St.xR(h:St bs L w)(hi:L[i]? = some (iR l rc)):w.heap[l]? = some (.loop rc):=h.own _ (zd hi)
theorem St.CT(h:St bs L w)(hi:L[i]? = some (iR l rc))(c : Loop):St bs (L.set i (iR l c)) (w.putObj l (.loop c)):=by
 have a:l<w.heap.size:=h.lt l (rP hi (by simp[iR]))
 exact h.iJ hi (gx.putObj w l _) (fun b hb=>.inl hb) (by simp[iR]) (fun b hb=>by simp[iR]at hb;subst hb;simpa using a) (World.putObj_heap_same a)
theorem St.acM{o:Option (List Deferred)}(h:St bs L w)(hi:L[i]? = some (jW d o))(o' : Option (List Deferred)):St bs (L.set i (jW d o')) (w.putObj d (.deferred o')):=by
 have a:d<w.heap.size:=h.lt d (rP hi (by simp[jW]))
 exact h.iJ hi (gx.putObj w d _) (fun b hb=>.inl hb) (by simp[jW]) (fun b hb=>by simp[jW]at hb;subst hb;simpa using a) (World.putObj_heap_same a)
end
def gj(L:List fU):fU where
 gG:=iU L
 holds w:=∀ R∈L,R.holds w
 loc w w' h hh R hR:=R.loc w w' (fun b hb=>h b (qy.2 ⟨R,hR,hb⟩)) (hh R hR)
section
variable {w w0:World} {bs:List (World×List Nat)} {A B:List fU} {R:fU}
theorem YI(A B:List fU):iU (A++B)=iU A++iU B:=by simp[iU]
theorem An(A B:List fU):iU (gj A :: B)=iU (A++B):=by rw[lZ,YI];rfl
theorem St.pack(A B:List fU)(h:St bs (A++B) w):St bs (gj A :: B) w :=
 ⟨fun p hp=>⟨(h.base p hp).gz,fun b hb=>(h.base p hp).mine b (by rw[<-An];exact hb)⟩,fun Q a=>by
  rcases zb.1 a with rfl|a
  . exact fun R c=>h.own R (wX _ c)
  . exact h.own Q (wW _ a),by rw[An];exact h.sep,fun b hb=>h.lt b (by rw[<-An];exact hb)⟩
theorem St.unpack(h:St bs (gj A :: B) w):St bs (A++B) w :=
 ⟨fun p hp=>⟨(h.base p hp).gz,fun b hb=>(h.base p hp).mine b (by rw[An];exact hb)⟩,fun Q a=>by
  rcases zm.1 a with a|a
  . exact h.own (gj A) s_ Q a
  . exact h.own Q (by simp[a]),by rw[<-An];exact h.sep,fun b hb=>h.lt b (by rw[An];exact hb)⟩
theorem St.Q4{b:Nat}(h:St bs (R :: B) w)(hb:b∈iU B):b∉R.gG:=fun a=>by
 have:=h.sep
 rw[lZ]at this
 exact(zr.1 this).2.2 b a b hb rfl
end
def YR(P:Program)(l:Nat)(vl:List Value)(w:World)(R:Value->World->Prop):Prop :=
 ∃ f tmps a b,(Instr.yield l vl.toArray).run P w = .ok (.round l f tmps a b) w/\RoundIn (FW none) 0 P l f tmps a b w (fun e w' => ∃ v,e = .returned v/\R v w')
section
variable {P:Program} {ops:Array Oper} {Q:Exit->Act->World->Prop} {rest:List Oper} {n:Nat} {s:List (Nat×Value)} {ds:List Deferred} {w:World}
variable {d:Option Nat} {ty:TypeId} {pos:String} {af:Array Edge} {g:Option (Nat×Bool)} {x:Operand} {l:Nat}
theorem yl{a:List Operand}{T:Array TypeId}{vl:List Value}{R:Value->World->Prop}(m:gB ops n s g=true)(p:ev n s x = .func (.yield l) #[] #[])(hvs:a.map (ev n s)=vl)(q:YR P l vl w R)
 (K:∀ v w', R v w' -> WL none P ops Q rest (Fr n (kj d v s) ds) w'):WL none P ops Q (⟨d,.call ⟨.value x,a.toArray,T⟩,ty,pos,af,g⟩ :: rest) (Fr n s ds) w:=by
 obtain⟨f,tmps,b,c,i,j⟩:=q
 refine TU m ?_
 have o:(Oper.semAt none (Fr n s ds).eval (⟨d,.call ⟨.value x,a.toArray,T⟩,ty,pos,af,g⟩:Oper)).run P w = .ok (.round l f tmps b c) w:=by
  rw[Oper.semAt_none,o7]
  simp only[execOp,resolve,Deferred.ofValue,p,Fj, hvs,zw,jK,zp,invoke]
  simpa using i
 rw[o]
 refine⟨fun h=>by simp[FW]at h,RoundIn.mono j ?_⟩
 rintro e w' ⟨v,rfl,k⟩
 have:=(K v w' k).out
 rw[<-zG]at this
 exact this
def x9:List Nat->List Value->List (Nat×Value)->List (Nat×Value)
 | p :: ps,v :: vs,s=>x9 ps vs ((p,v) :: s)
 | _,_,s=>s
theorem Uc(p:Nat)(v:Value):(Fr n s ds).tmps.setIfInBounds p v=(Fr n ((p,v) :: s) ds).tmps:=congrArg Act.tmps (zF n s ds p v)
theorem acU:∀ (ps:List Nat) (vs:List Value) (s:List (Nat×Value)),((ps.zip vs).foldl (fun(t:Array Value) (q:Nat×Value)=>t.setIfInBounds q.1 q.2) (Fr n s ds).tmps)=(Fr n (x9 ps vs s) ds).tmps:=by
 intro ps
 induction ps with
 | nil=>intro vs s;simp[x9]
 | cons p ps a =>
  intro vs s
  cases vs with
  | nil=>simp[x9]
  | cons v vs =>
   simp only[List.zip_cons_cons,List.foldl_cons,x9]
   rw[Uc]
   exact a vs _
theorem acT(ps:List Nat)(vs:List Value)(s:List (Nat×Value)):((ps.toArray.zip vs.toArray).foldl (fun(t:Array Value) (q:Nat×Value)=>t.setIfInBounds q.1 q.2) (Fr n s ds).tmps)=(Fr n (x9 ps vs s) ds).tmps:=by
 rw[<-acU,List.zip_toArray,List.foldl_toArray]
variable {bs:List (World×List Nat)} {L LL:List fU} {i:Nat} {rc:Loop}
theorem yD{ps:List Nat}{vl:List Value}{s' : List (Nat×Value)}{fn dd:Nat}{b c:Code}{R:Value->World->Prop}(i:Nat)(g:rc=⟨.ready,none,fn,(Fr n s ds).tmps,ps.toArray,b,c,dd⟩)(j:St bs L w)(hi:L[i]? = some (iR l rc))
 (f:vl.length=ps.length) (hs:x9 ps vl s=s')
 (h:WP (some l) P b (Exit.then (fun a k=>∃ d,(Instr.beginRound l).run P k = .ok () d/\WP (some l) P c (roundPost P l (fun e w' => ∃ v,e = .returned v/\R v w')) a d) (fun _ _ _=>False)) (Fr n s' []) w):YR P l vl w R:=by
 subst hs g
 refine⟨_,_,_,_,run_yield (j.xR hi) (by simpa using f),roundIn_of_wpIn trivial ?_⟩
 have e:=acT (n:=n) (ds:=ds) ps vl s
 show b.wpIn (FW (some l)) 0 P _ { tmps:=((ps.toArray.zip vl.toArray).foldl (fun(t:Array Value) (q:Nat×Value)=>t.setIfInBounds q.1 q.2) (Fr n s ds).tmps),defers:=[] } w
 rw[e]
 exact h
theorem Aa{B:World->Prop}(i:Nat)(b:St bs L w)(hi:L[i]? = some (iR l rc))(d:rc.state = .ready)(c:L.set i (iR l { rc with state:=.busy })=LL)(K:∀ a,St bs LL a->B a):∃ a,(Instr.beginRound l).run P w = .ok () a/\B a :=
 ⟨_,run_beginRound (b.xR hi) d,K _ (by subst c;exact b.CT hi _)⟩
theorem vR{R:Ending->World->Prop}{a:Act}(i:Nat)(k:St bs L w)(hi:L[i]? = some (iR l { rc with state:=.busy }))(j:rc.state = .ready)(hp:rc.pending=none)(m:L.set i (iR l rc)=LL)(K:∀ w', St bs LL w' -> R (.returned (.bool true)) w'):roundPost P l R .normal a w:=by
 refine⟨_,_,run_endRound none (k.xR hi),K _ ?_⟩
 subst m
 have:=k.CT hi rc
 obtain⟨a,b,c,d,e,f,g,h⟩:=rc
 simp only at j hp
 subst j hp
 exact this
theorem rf{f:FuncId}{fi ca:List Value}{ps:List Nat}{a c:Code}{α:Type}(d:α->List fU)(C:α->Prop)(u:St bs L w)(y:ev n s x = .func (.func f) fi.toArray ca.toArray)(q:gi P f)
 (h1:∀ fn dd l j rc,rc=(⟨.ready,none,fn,(Fr n s ds).tmps,ps.toArray,a,c,dd⟩:Loop)->St bs (iR l rc :: jW dd (some []) :: L) j ->
  CR P f (fi++[Value.func (.yield l) #[] #[]]++ca).toArray j (fun _ k=>∃ z,C z/\St bs (iR l rc :: jW dd (some []) :: d z) k))
 (o:∀ z dd m,C z->St bs (jW dd (some []) :: d z) m->Q .normal (Fr n s (⟨.collected dd,#[]⟩ :: ds)) m):WP none P (.rangeFunc x ps.toArray a c) Q (Fr n s ds) w:=by
 refine wpIn_rangeFunc fun fn _=>?_
 have r:St bs (jW w.heap.size (some []) :: L) (w.alloc (.deferred (some []))) :=
  u.sK (gx.alloc [] w _) (fun b hb=>by simp[jW]at hb;omega) (by simp[jW]) (fun b hb=>by simp[jW]at hb;simp;omega) (World.alloc_heap_new w _)
 have t:St bs (iR (w.heap.size+1) ⟨.ready,none,fn,(Fr n s ds).tmps,ps.toArray,a,c,w.heap.size⟩ :: jW w.heap.size (some []) :: L) ((w.alloc (.deferred (some []))).alloc (.loop ⟨.ready,none,fn,(Fr n s ds).tmps,ps.toArray,a,c,w.heap.size⟩)) :=
  r.sK (gx.alloc [] _ _) (fun b hb=>by simp[iR]at hb;simp;omega) (by simp[iR]) (fun b hb=>by simp[iR]at hb;simp;omega) (by have:=World.alloc_heap_new (w.alloc (.deferred (some []))) (.loop ⟨.ready,none,fn,(Fr n s ds).tmps,ps.toArray,a,c,w.heap.size⟩);simpa[iR]using this)
 refine⟨w.heap.size+1,_,_,⟨.fn (.func f) ca.toArray,(fi++[Value.func (.yield (w.heap.size+1)) #[] #[]]).toArray⟩,((w.alloc (.deferred (some []))).alloc (.loop ⟨.ready,none,fn,(Fr n s ds).tmps,ps.toArray,a,c,w.heap.size⟩)),f,(fi++[Value.func (.yield (w.heap.size+1)) #[] #[]]++ca).toArray,((w.alloc (.deferred (some []))).alloc (.loop ⟨.ready,none,fn,(Fr n s ds).tmps,ps.toArray,a,c,w.heap.size⟩)),run_enterLoop_outer fn _ _ _ _,?_,fun _ _=>trivial,?_,fun h=>by simp[FW]at h,?_⟩
 . rw[o7]
   simp only[resolve,rangeCall,Deferred.ofValue,y]
   simp[ev]
 . have:=q ((fi++[Value.func (.yield (w.heap.size+1)) #[] #[]]++ca).toArray) ((w.alloc (.deferred (some []))).alloc (.loop ⟨.ready,none,fn,(Fr n s ds).tmps,ps.toArray,a,c,w.heap.size⟩))
   simp only[invoke]
   simpa using this
 . refine uw.2 (Calls.mono (h1 fn w.heap.size (w.heap.size+1) _ _ rfl t) ?_)
   rintro e k ⟨v,rfl,z,p,g⟩
   refine⟨none,_,run_endLoop (g.xR (i:=0) rfl) s_,?_⟩
   refine o z w.heap.size _ p ?_
   exact(g.CT (i:=0) rfl _).sub (LH _ _)
end
section
variable {P:Program} {n:Nat} {s:List (Nat×Value)} {w:World} {fn:Func} {f:FuncId} {c:Code} {vs:List Value} {RR:Ending->World->Prop} {bs:List (World×List Nat)} {L LL:List fU} {d:Nat} {tmps:Array Value}
theorem Al(a:P.funcs[f]? = some fn)(hb:fn.body=some c)(b:fn.ntmps=n)(hs:Nat.ble vs.length n=true)
 (h:WP none P c (bodyPostM (FW none) 0 P fn RR) (Fr n (vJ vs 0) []) w):Calls P f vs.toArray w RR:=by
 refine uw.1 (callsIn_of_wp_marks (F:=FW none) (n:=0) a hb trivial ?_)
 rw[b,LS vs n (oV hs)]
 exact h
theorem xP(i:Nat)(a:St bs L w)(hi:L[i]? = some (jW d (some [])))(b:L.set i (jW d none)=LL)(K:∀ w', St bs LL w' -> ∃ v,(results fn tmps).run P w' = .ok v w' /\ RR (.returned v) w') :
 LeavesInM (FW none) 0 P fn tmps RR [⟨.collected d,#[]⟩] .returning w :=
 ⟨s_,.inl ⟨d,_,rfl,run_takeDeferred (a.own _ (zd hi)),K _ (by subst b;exact a.acM hi none)⟩⟩
end
end Go.Sx
namespace Go.Sx
open Go
section
variable {P:Program} {w:World} {t e:TypeId} {k:IntKind} {by_:Nat} {z:Value}
theorem CZ(d:Nat)(c:P.underlying e=some (.int k))(a b:Int):(Op.equalIn (d+1) e (.int k a) (.int k b)).run P w = .ok (a==b) w:=by
 simp[Op.equalIn,run_underlying c]
theorem Kx(d:Nat)(c:P.underlying t=some .bool)(a b:Bool):(Op.equalIn (d+1) t (.bool a) (.bool b)).run P w = .ok (a==b) w:=by
 simp[Op.equalIn,run_underlying c]
theorem rV(a:P.underlying e=some (.int k))(xs:Array Value)(i:Nat)(v:Value)(h:xs[i]? = some v):(part e xs i).run P w = .ok v w:=by
 simp[part,wJ a,j4,h]
theorem adR(i:P.underlying t=some (.array 4 e))(h:P.underlying e=some (.int k))(hi:TI P e 1 by_ z)(a0 a1 a2 a3 b0 b1 b2 b3:Int) :
 (Op.equal t (.agg #[.int k a0,.int k a1,.int k a2,.int k a3]) (.agg #[.int k b0,.int k b1,.int k b2,.int k b3])).run P w = .ok (decide ([a0,a1,a2,a3]=[b0,b1,b2,b3])) w:=by
 have p:∀ (c d f g:Value),(part e #[c,d,f,g] 0).run P w = .ok c w/\(part e #[c,d,f,g] 1).run P w = .ok d w/\(part e #[c,d,f,g] 2).run P w = .ok f w/\(part e #[c,d,f,g] 3).run P w = .ok g w:=fun c d f g =>
  ⟨rV h _ _ _ rfl,rV h _ _ _ rfl,rV h _ _ _ rfl,rV h _ _ _ rfl⟩
 have q:=fun a b=>CZ (P:=P) (w:=w) 9998 h a b
 simp only[Nat.reduceAdd]at q
 show (Op.equalIn 10000 t _ _).run P w=_
 unfold Op.equalIn
 simp only[zw,run_underlying i,zp,hi.size,Std.Legacy.Range.forIn_eq_forIn_range', Std.Legacy.Range.size]
 simp only[show List.range' 0 ((4-0+1-1) / 1) 1=[0,1,2,3] from rfl,List.forIn_cons,List.forIn_nil,zw,su,(p _ _ _ _).1,(p _ _ _ _).2.1,(p _ _ _ _).2.2.1,(p _ _ _ _).2.2.2,zp,q]
 by_cases h0:a0=b0
 . by_cases h1:a1=b1
   . by_cases h2:a2=b2
     . by_cases h3:a3=b3
       . simp[h0,h1,h2,h3,p,q,Result.andThen]
       . simp[h0,h1,h2,h3,p,q,Result.andThen]
     . simp[h0,h1,h2,p,q,Result.andThen]
   . simp[h0,h1,p,q,Result.andThen]
 . simp[h0,p,q,Result.andThen]
end
section
variable {r:Option Nat} {P:Program} {ops:Array Oper} {Q:Exit->Act->World->Prop} {rest:List Oper} {n:Nat} {s:List (Nat×Value)} {ds:List Deferred} {w:World}
variable {d:Nat} {dd:Option Nat} {ty t t' e:TypeId} {pos:String} {af:Array Edge} {g:Option (Nat×Bool)} {x y:Operand} {k:IntKind} {by_:Nat} {z:Value} {a0 a1 a2 a3 b0 b1 b2 b3:Int} {c:Bool}
theorem run_eqGuard_agg(op:BinOp)(a:P.eqGuardType P.depth t=false)(xs ys:Array Value):(eqGuard op t x y (.agg xs) (.agg ys)).run P w = .ok () w:=by
 unfold eqGuard
 cases op<;>simp[a,program,Sem.run]
theorem abI(i:ev n s x = .agg #[.int k a0,.int k a1,.int k a2,.int k a3])(j:ev n s y = .agg #[.int k b0,.int k b1,.int k b2,.int k b3])(f:P.underlying t=some (.array 4 e))(b:P.underlying e=some (.int k))(hi:TI P e 1 by_ z)
 (d:P.eqGuardType P.depth t=false) (a:(!decide ([a0,a1,a2,a3]=[b0,b1,b2,b3]))=c) :
 (execOp (ev n s) ⟨dd,.binOp .neq t x y t', ty,pos,af,g⟩).run P w = .ok (.value (.bool c)) w:=by
 subst a
 have h:=adR (P:=P) (w:=w) f b hi a0 a1 a2 a3 b0 b1 b2 b3
 simp only[execOp,i,j,zw,run_eqGuard_agg .neq d,zp]
 simp only[binOp,zw,h,zp,jK]
theorem abJ{a b:Bool}(i:ev n s x = .bool a)(j:ev n s y = .bool b)(h:P.underlying t=some .bool)(f:(!(a==b))=c) :
 (execOp (ev n s) ⟨dd,.binOp .neq t x y t', ty,pos,af,g⟩).run P w = .ok (.value (.bool c)) w:=by
 subst f
 have d:(Op.equal t (.bool a) (.bool b)).run P w = .ok (a==b) w:=Kx 9999 h a b
 have e:(eqGuard .neq t x y (.bool a) (.bool b)).run P w = .ok () w:=rfl
 simp only[execOp,i,j,zw,e,zp]
 simp only[binOp,zw,d,zp,jK]
theorem Fu{a b:Bool}(f:gB ops n s g=true)(i:ev n s x = .bool a)(j:ev n s y = .bool b)(h:P.underlying t=some .bool)(e:(!(a==b))=c)(K:WL r P ops Q rest (Fr n ((d,.bool c) :: s) ds) w) :
 WL r P ops Q (⟨some d,.binOp .neq t x y t', ty,pos,af,g⟩ :: rest) (Fr n s ds) w:=pw f (fun _=>abJ i j h e) K
theorem Yp{a b:Bool}(i:ev n s x = .bool a)(j:ev n s y = .bool b)(h:P.underlying t=some .bool)(f:(a==b)=c) :
 (execOp (ev n s) ⟨dd,.binOp .eql t x y t', ty,pos,af,g⟩).run P w = .ok (.value (.bool c)) w:=by
 subst f
 have d:(Op.equal t (.bool a) (.bool b)).run P w = .ok (a==b) w:=Kx 9999 h a b
 have e:(eqGuard .eql t x y (.bool a) (.bool b)).run P w = .ok () w:=rfl
 simp only[execOp,i,j,zw,e,zp]
 simp only[binOp,zw,d,zp,jK]
theorem EJ{a b:Bool}(f:gB ops n s g=true)(i:ev n s x = .bool a)(j:ev n s y = .bool b)(h:P.underlying t=some .bool)(e:(a==b)=c)(K:WL r P ops Q rest (Fr n ((d,.bool c) :: s) ds) w) :
 WL r P ops Q (⟨some d,.binOp .eql t x y t', ty,pos,af,g⟩ :: rest) (Fr n s ds) w:=pw f (fun _=>Yp i j h e) K
theorem abH(f:gB ops n s g=true)(j:ev n s x = .agg #[.int k a0,.int k a1,.int k a2,.int k a3])(l:ev n s y = .agg #[.int k b0,.int k b1,.int k b2,.int k b3])(i:P.underlying t=some (.array 4 e))(b:P.underlying e=some (.int k))(hi:TI P e 1 by_ z)
 (h:P.eqGuardType P.depth t=false) (a:(!decide ([a0,a1,a2,a3]=[b0,b1,b2,b3]))=c) (K:WL r P ops Q rest (Fr n ((d,.bool c) :: s) ds) w) :
 WL r P ops Q (⟨some d,.binOp .neq t x y t', ty,pos,af,g⟩ :: rest) (Fr n s ds) w:=pw f (fun _=>abI j l i b hi h a) K
end
section
variable {w w' : World} {bs:List (World×List Nat)} {L:List fU} {b:Nat} {T:TypeId} {cs:List Value}
theorem St.ads{w0:World}(h:St bs L w)(hb:(w0,[])∈bs)(c:(blk b T cs).holds w0){o:Nat}{vs:List Value}(hv:(cs.drop o).take vs.length=vs):∀ j u,vs[j]? = some u->w.cell? ⟨b,o+j,none⟩=some u:=by
 intro j u a
 refine h.HS hb (B0 c (o:=o+j) ?_) nI
 rw[<-hv,r9]at a
 split at a
 . simpa using a
 . cases a
theorem St.Kt{w0:World}(h:St bs L w)(hb:(w0,[])∈bs)(a:(blk b T cs).holds w0){o:Nat}{u:Value}(hv:cs[o]? = some u):w.cell? ⟨b,o,none⟩=some u:=h.HS hb (B0 a hv) nI
theorem St.M7(h:St bs L w)(c:gx [] w w')(d:w.heap.size<=b)(hb:(blk b T cs).holds w'):St bs (blk b T cs :: L) w' :=
 h.sK c (fun x a=>by simp[blk]at a;omega) (by simp[blk]) (fun x a=>by
  simp only[blk,zz]at a
  subst a
  exact(nW.1 (show w'.heap[x]? = _ from hb)).1) hb
end
end Go.Sx
namespace Go.Sx
open Go
abbrev iw{α:Type}(sz:Nat)(cf:α->List Value)(ok:Nat->Prop)(w:World)(v:Value)(xs:List α):Prop:=Sl sz (fun _ x vs=>vs=cf x) ok w v xs
def jQ(sz:Nat)(v:Value)(i off:Nat):Value:=match v with
 | .slice (some ⟨b,o,_⟩) _ _=>.pointer (some ⟨b,o+i*sz+off,none⟩)
 | _=>.pointer none
theorem Uv(sz:Nat)(v:Value)(i:Nat):jQ sz v i 0=M9 sz v i:=by
 cases v with
 | slice a m c=>cases a<;>rfl
 | _=>rfl
abbrev fL{α:Type}(cf:α->List Value)(v:Value)(e:TypeId)(sz:Nat)(ys:List α):fU:=row v e sz ys.length (ys.flatMap cf)
theorem pK {α:Type}{l:List α}{k:Nat}(h:k<l.length):∃ y,l[k]? = some y:=⟨l[k],zj h⟩
section
variable {α:Type} {sz:Nat} {cf:α->List Value} {ok ok' : Nat->Prop} {w w' w0:World} {v:Value} {xs:List α} {bs:List (World×List Nat)} {L:List fU}
theorem iw.to(h:iw sz cf ok w v xs)(hp:0<sz)(hk:∀ b,ok b->b<w.heap.size->w'.heap[b]? = w.heap[b]?):iw sz cf ok w' v xs:=Sl.to h hk (fun _ _ _ h=>h) hp
theorem St.ac4{X:List Nat}(h:St bs L w)(hb:(w0,X)∈bs)(hp:0<sz)(a:iw sz cf ok w0 v xs)(e:∀ b,ok b->b∉X):iw sz cf ok w v xs:=iw.to a hp fun b c d=>h.keep hb d (e b c)
theorem St.CU(h:St bs L w)(hb:(w0,[])∈bs)(hp:0<sz)(a:iw sz cf ok w0 v xs):iw sz cf ok w v xs:=h.ac4 hb hp a fun _ _=>nI
theorem iw.place{k:Nat}{c:α}(h:iw sz cf ok w v xs)(hk:xs[k]? = some c):∃ b o m d,v = .slice (some ⟨b,o,none⟩) m d/\k<m/\ok b/\(cf c).length=sz/\∀ j u,(cf c)[j]? = some u->w.cell? ⟨b,o+k*sz+j,none⟩=some u:=by
 have i:=(zg.1 hk).1
 obtain⟨a,d,rfl,l,n,e⟩:=h
 obtain⟨b,o,vs,rfl,hb,g,rfl,f⟩:=e k c hk
 exact⟨b,o,_,d,rfl,i,hb,g,f⟩
theorem vW(c:∀ x:α,(cf x).length=sz):∀ (xs:List α) (k j:Nat) (x:α) (u:Value),xs[k]? = some x->(cf x)[j]? = some u->(xs.flatMap cf)[k*sz+j]? = some u:=by
 intro xs
 induction xs with
 | nil=>intro k j x u h;simp at h
 | cons e xs d =>
  intro k j x u b a
  rw[zy]
  cases k with
  | zero =>
   simp at b
   subst b
   have f:j<(cf e).length:=(zg.1 a).1
   rw[rm o_]
   simpa using a
  | succ k =>
   have:=d k j x u (by simpa using b) a
   rw[Dt (by rw[c,sn];omega),c,show (k+1)*sz+j-sz=k*sz+j by rw[sn];omega]
   exact this
theorem St.yF{i:Nat}{e:TypeId}(h:St bs L w)(hi:L[i]? = some (fL cf v e sz xs))(c:∀ x:α,(cf x).length=sz):iw sz cf (fun b=>v.ownBlock=some b) w v xs:=by
 have d:w.ownsRow 0 e sz v xs.length (xs.flatMap cf):=h.own _ (zd hi)
 rcases d.2 with ⟨rfl,k⟩|⟨a, f,cur,rfl,_,p,l,m,_⟩
 . have:xs=[]:=tT k
   subst this
   exact Sl.nil _ _ _ _
 . refine⟨_,f,rfl,l,m,fun j y n=>⟨a, 0,cf y,rfl,rfl,c y,rfl,fun q u o=>?_⟩⟩
   have:=d.cells (g:=a) rfl (j*sz+q) u (vW c xs j q y u n o)
   rw[Addr.add_lit]at this
   simpa[kD]using this
theorem iw.src(h:iw sz cf ok w v xs)(e:∀ x:α,(cf x).length=sz):Src w v sz xs.length (xs.flatMap cf):=by
 obtain⟨a,p,rfl,q,r,f⟩:=h
 have k:(xs.flatMap cf).length=xs.length*sz:=by
  clear q r f
  induction xs with
  | nil=>simp
  | cons x xs z=>rw[zy,zq,e,z,ze,sn];omega
 refine⟨a,p,rfl,k,fun j u g=>?_⟩
 have i := (zg.1 g).1
 rw[k]at i
 have l:0<sz:=by
  rcases yY sz with c|c
  . subst c;omega
  . exact c
 have y:j / sz<xs.length:=(zdt l).2 i
 obtain⟨x,n⟩:=pK y
 obtain⟨b,o,vs,rfl,_,_,rfl,t⟩:=f _ x n
 refine⟨_,rfl,?_⟩
 have hm:j%sz<(cf x).length:=by rw[e];exact Bz _ l
 obtain⟨A, m⟩:=pK hm
 have d:=vW e xs _ _ x A n m
 rw[Bx]at d
 rw[g]at d
 cases d
 have s:=t _ u m
 rw[Addr.add_lit,<-Bx j sz]
 rw[Bx,show o+j=o+j / sz*sz+j%sz by have:=Bx j sz;omega]
 exact s
end
section
variable {α:Type} {cf:α->List Value} {ok:Nat->Prop} {ys zs:List α} {k:Nat} {c:α} {off off' : Nat}
variable {r:Option Nat} {P:Program} {ops:Array Oper} {Q:Exit->Act->World->Prop} {rest:List Oper} {n:Nat} {s:List (Nat×Value)} {ds:List Deferred} {w w0:World}
variable {d:Nat} {dd:Option Nat} {ty:TypeId} {pos:String} {af:Array Edge} {g:Option (Nat×Bool)} {v u:Value} {x y:Operand} {bs:List (World×List Nat)} {L L' : List fU} {t e T:TypeId} {sz by_ m cnt szf byf:Nat} {z zf:Value} {i:Int} {k' : IntKind} {ud:TypeDesc} {fields:Array Field} {f:Field} {j:Nat}
theorem xK(h:ev n s x=v)(j:ev n s y = .int k' i)(f:P.underlying t=some (.slice e))(hi:TI P e sz by_ z)(b:iw sz cf ok w0 v ys)(a:0<=i)(hk:i.toNat=k)(d:ys[k]? = some c) :
 (execOp (ev n s) ⟨dd,.indexAddr t x y,ty,pos,af,g⟩).run P w = .ok (.value (jQ sz v k 0)) w:=by
 subst hk
 rw[Uv]
 exact aae h j f hi b a d
theorem iK(h:gB ops n s g=true)(l:ev n s x=v)(m:ev n s y = .int k' i)(j:P.underlying t=some (.slice e))(hi:TI P e sz by_ z)(b:iw sz cf ok w0 v ys)(a:0<=i)(hk:i.toNat=k)(f:ys[k]? = some c)
 (K:WL r P ops Q rest (Fr n ((d,jQ sz v k 0) :: s) ds) w):WL r P ops Q (⟨some d,.indexAddr t x y,ty,pos,af,g⟩ :: rest) (Fr n s ds) w:=pw h (fun _=>xK l m j hi b a hk f) K
theorem EO(p:ev n s x=jQ sz v k off)(d:P.underlying T=some (.struct fields))(h:fields[j]? = some f)(l:TI P f.type (szf+1) byf zf)(i:off+f.offset=off')(a:iw sz cf ok w0 v ys)(e:ys[k]? = some c) :
 (execOp (ev n s) ⟨dd,.fieldAddr T x j,ty,pos,af,g⟩).run P w = .ok (.value (jQ sz v k off')) w:=by
 obtain⟨b,o,m,q,rfl,_⟩:=a.place e
 subst i
 exact sM p d h l (by simp only[kD])
theorem uE(j:ev n s x=jQ sz v k off)(i:P.underlying t=some ud)(h:j4 ud=false)(d:iw sz cf ok w v ys)(f:ys[k]? = some c)(e:(cf c)[off]? = some u) :
 (execOp (ev n s) ⟨dd,.load t x,ty,pos,af,g⟩).run P w = .ok (.value u) w:=by
 obtain⟨b,o,m,l,rfl,_,_,_,a⟩:=d.place f
 exact kW j i h (a off u e)
theorem jk(f:gB ops n s g=true)(j:ev n s x=jQ sz v k off)(i:P.underlying t=some ud)(h:j4 ud=false)(a:iw sz cf ok w v ys)(e:ys[k]? = some c)(b:(cf c)[off]? = some u)
 (K:WL r P ops Q rest (Fr n ((d,u) :: s) ds) w):WL r P ops Q (⟨some d,.load t x,ty,pos,af,g⟩ :: rest) (Fr n s ds) w:=pv f rfl (uE j i h a e b) K
theorem Qq{cs:List Value}{d : Nat}(y:ev n s x=jQ sz v k off)(r:P.underlying t=some ud)(p:j4 ud=true)(q:TI P t d by_ z)(f:iw sz cf ok w v ys)(i:ys[k]? = some c)(l:cs.length=d)(h:((cf c).drop off).take cs.length=cs) :
 (execOp (ev n s) ⟨dd,.load t x,ty,pos,af,g⟩).run P w = .ok (.value (.agg cs.toArray)) w:=by
 obtain⟨b,o,m,A,rfl,_,_,_,e⟩:=f.place i
 refine tE (b:=b) (o:=o+k*sz+off) y r p q l fun j u a=>?_
 rw[<-h,r9]at a
 split at a
 . rw[DE]at a
   have:=e (off+j) u a
   rw[kD]
   simpa[kD]using this
 . cases a
theorem SF{enc:World->α->List Value->Prop}{low high:Option Operand}{l h:Nat}(b:gB ops n s g=true)(o:ev n s x=v)(m:P.underlying t=some (.slice e))(hi:TI P e sz by_ z)
 (a:Sl sz enc ok w0 v ys) (j:match low with|none=>l=0|some p=>∃ k,ev n s p = .int k (l:Int)) (f:match high with|none=>h=ys.length|some p=>∃ k,ev n s p = .int k (h:Int)) (i:l<=h) (c:h<=ys.length)
 (K:WL r P ops Q rest (Fr n ((d,Go.Sx.mR sz v l h) :: s) ds) w):WL r P ops Q (⟨some d,.slice t x low high none,ty,pos,af,g⟩ :: rest) (Fr n s ds) w:=pv b rfl (aeb o m hi a j f i c) K
theorem lF{LL:Value->List fU}(i:Nat)(f:gB ops n s g=true)(l:ev n s x=v)(m:ev n s y=u)(k:P.underlying t=some (.slice e))(hi:TI P e sz by_ z)(o:z.cells.size=sz)(j:0<sz)
 (h:St bs L w) (b:L[i]? = some (fL cf v e sz ys)) (hs:Src w u sz zs.length (zs.flatMap cf)) (h1:∀ x∈zs.flatMap cf,x.oneCell' = true) (hb:(ys.length+zs.length)*by_<=140737488355328) (p:ys.length+zs.length<=9223372036854775807)
 (c:∀ v', L.set i (fL cf v' e sz (ys++zs))=LL v')
 (K:∀ v' w', St bs (LL v') w' -> gx v.ownBlock.toList w w' -> WL r P ops Q rest (Fr n ((d,v') :: s) ds) w') :
 WL r P ops Q (⟨some d,.call ⟨.builtin .append,#[x,y],#[t,t]⟩,ty,pos,af,g⟩ :: rest) (Fr n s ds) w:=by
 refine Nf i f l m k hi o j h b hs h1 hb (by simp only[maxLen];omega) fun v' w' h1 a=>K v' w' ?_ a
 rw[<-c]
 simpa[fL]using h1
end
structure p5 {α:Type} (sz:Nat) (cf:α->List Value) (w:World) (w' : World) (r:Value) (e:TypeId) (zs:List α):Prop where
 own:w'.ownsRow 0 e sz r zs.length (zs.flatMap cf)
 place:∀ b,r.ownBlock=some b->w.heap.size<=b
section
variable {α:Type} {sz:Nat} {cf:α->List Value} {w w' w0:World} {r:Value} {zs:List α} {bs:List (World×List Nat)} {L:List fU} {e:TypeId}
theorem St.Wo(h:St bs (fL cf r e sz zs :: L) w)(hb:(w0,[])∈bs):p5 sz cf w0 w r e zs:=by
 have c:=h.base _ hb
 refine⟨h.own (fL cf r e sz zs) s_,fun b d => ?_⟩
 rcases c.mine b (by rw[lZ];simp[row,d])with a|a
 . simp at a
 . exact a
theorem St.Us(h:St bs L w)(c:gx [] w w')(a:p5 sz cf w w' r e zs):St bs (fL cf r e sz zs :: L) w' :=
 h.sK c (fun b hb=>a.place b (by simpa[row]using hb)) (by show r.ownBlock.toList.Nodup;cases r.ownBlock<;>simp) (fun b hb=>J9 a.own (by simpa[row]using hb)) a.own
end
end Go.Sx
namespace Go.Sx
open Go
section
variable {α:Type} [Inhabited α] {xs:List α} {k j:Nat} {f:α->α} {x:α}
def fJ(xs:List α)(k:Nat):α:=(xs[k]?).getD default
def fN(xs:List α)(k:Nat)(f:α->α):List α:=xs.set k (f (fJ xs k))
theorem gy(h:k<xs.length):xs[k]? = some (fJ xs k):=by
 obtain⟨y,a⟩:=pK h
 simp[fJ,a]
theorem iE(h:xs[k]? = some x):fJ xs k=x:=by simp[fJ,h]
theorem gC:(fN xs k f).length=xs.length:=by simp[fN]
theorem j9(h:k<xs.length):fJ (fN xs k f) k=f (fJ xs k):=by simp[fJ,fN,si,h]
theorem jX(h:k≠j):fJ (fN xs k f) j=fJ xs j:=by simp[fJ,fN,si,h]
theorem iS(h:k<xs.length):fJ (fN xs k f) j=if k=j then f (fJ xs k)else fJ xs j:=by
 split
 . rename_i e;subst e;exact j9 h
 . rename_i e;exact jX e
end
section
variable {α:Type} {cf:α->List Value} {sz:Nat}
theorem rK(a:∀ x:α,(cf x).length=sz)(xs:List α):(xs.flatMap cf).length=xs.length*sz:=by
 induction xs with
 | nil=>simp
 | cons x xs b=>rw[zy,zq,a,b,ze,sn];omega
theorem Sy{a b vs:List Value}{o:Nat}:setAt (a++b) (a.length+o) vs=a++setAt b o vs:=by
 unfold setAt
 rw[List.take_append,List.drop_append]
 simp only[Nat.add_sub_cancel_left,mL]
 rw[u6 o_,show a.length+o+vs.length-a.length=o+vs.length by omega,GJ o_,rq]
theorem Sw{a b vs:List Value}{o:Nat}(h:o+vs.length<=a.length):setAt (a++b) o vs=setAt a o vs++b:=by
 unfold setAt
 rw[GG o_,List.drop_append_of_le_length o_]
 simp only[mL]
theorem YS(c:∀ x:α,(cf x).length=sz):∀ (xs:List α) (k off:Nat) (x a : α) (vs:List Value),xs[k]? = some x->cf a = setAt (cf x) off vs->off+vs.length<=sz->setAt (xs.flatMap cf) (k*sz+off) vs=(xs.set k a).flatMap cf:=by
 intro xs
 induction xs with
 | nil=>intro k off x a vs h;simp at h
 | cons f xs e =>
  intro k off x a vs b d hv
  cases k with
  | zero =>
   simp at b
   subst b
   rw[List.set_cons_zero,zy,zy,Nat.zero_mul,lD,Sw (by rw[c];exact hv),d]
  | succ k =>
   rw[List.set_cons_succ,zy,zy,show (k+1)*sz+off=(cf f).length+(k*sz+off) by rw[c,sn];omega,Sy]
   rw[e k off x a vs (by simpa using b) d hv]
end
section
variable {α:Type} [Inhabited α] {cf:α->List Value} {sz:Nat} {w:World} {bs:List (World×List Nat)} {L:List fU} {xs:List α} {b i k off:Nat} {T:TypeId} {v:Value} {vs:List Value} {f:α->α}
theorem St.Kk(h:St bs L w)(hi:L[i]? = some (blk b T (xs.flatMap cf)))(c:∀ x:α,(cf x).length=sz)(hk:k<xs.length)(a:(cf (fJ xs k))[off]? = some v):w.cell? ⟨b,k*sz+off,none⟩=some v :=
 h.rH hi (vW c xs k off _ v (gy hk) a)
theorem St.ac3(h:St bs L w)(hi:L[i]? = some (blk b T (xs.flatMap cf)))(d:∀ x:α,(cf x).length=sz)(hk:k<xs.length)(c:((cf (fJ xs k)).drop off).take vs.length=vs):∀ j u,vs[j]? = some u->w.cell? ⟨b,k*sz+off+j,none⟩=some u:=by
 intro j u a
 rw[<-c,r9]at a
 split at a
 . rw[DE]at a
   rw[kD]
   exact h.Kk hi d hk a
 . cases a
theorem FG(a:∀ x:α,(cf x).length=sz)(hk:k<xs.length)(b:cf (f (fJ xs k))=setAt (cf (fJ xs k)) off vs)(hv:off+vs.length<=sz):setAt (xs.flatMap cf) (k*sz+off) vs=(fN xs k f).flatMap cf :=
 YS a xs k off _ _ vs (gy hk) b hv
theorem Kl(a:∀ x:α,(cf x).length=sz)(hk:k<xs.length){n:Nat}(hv:off+n<=sz):k*sz+off+n<=(xs.flatMap cf).length:=by
 rw[rK a]
 have:(k+1)*sz<=xs.length*sz:=DB _ hk
 rw[sn]at this
 omega
end
end Go.Sx
namespace Go.Sx
open Go
section
variable {α:Type} [Inhabited α] {cf:α->List Value} {sz:Nat} {w w0:World} {bs:List (World×List Nat)} {L:List fU} {xs:List α} {b k off:Nat} {T:TypeId} {v:Value} {vs:List Value}
theorem St.Sd(h:St bs L w)(hb:(w0,[])∈bs)(a:(blk b T (xs.flatMap cf)).holds w0)(d:∀ x:α,(cf x).length=sz)(hk:k<xs.length)(c:(cf (fJ xs k))[off]? = some v):w.cell? ⟨b,k*sz+off,none⟩=some v :=
 h.Kt hb a (vW d xs k off _ v (gy hk) c)
theorem St.adt(h:St bs L w)(hb:(w0,[])∈bs)(c:(blk b T (xs.flatMap cf)).holds w0)(e:∀ x:α,(cf x).length=sz)(hk:k<xs.length)(d:((cf (fJ xs k)).drop off).take vs.length=vs):∀ j u,vs[j]? = some u->w.cell? ⟨b,k*sz+off+j,none⟩=some u:=by
 intro j u a
 rw[<-d,r9]at a
 split at a
 . rw[DE]at a
   rw[kD]
   exact h.Sd hb c e hk a
 . cases a
end
end Go.Sx
namespace Go.Sx
open Go
section
variable {r:Option Nat} {P:Program} {ops:Array Oper} {Q:Exit->Act->World->Prop} {rest:List Oper} {n:Nat} {s:List (Nat×Value)} {ds:List Deferred} {w:World}
variable {d:Nat} {dd:Option Nat} {ty t e:TypeId} {pos:String} {af:Array Edge} {g:Option (Nat×Bool)} {x y:Operand} {cs:Array Value} {k:IntKind} {i:Int} {len by_:Nat} {u:TypeDesc} {v z:Value}
theorem ZP(f:ev n s x = .agg cs)(h:ev n s y = .int k i)(d:P.underlying t=some (.array len e))(b:P.underlying e=some u)(c:j4 u=false)(hi:TI P e 1 by_ z)(a:0<=i/\i<(len:Int))(hv:cs[i.toNat]? = some v) :
 (execOp (ev n s) ⟨dd,.index t x y,ty,pos,af,g⟩).run P w = .ok (.value v) w:=by
 simp[execOp,f,h,Instr.index,asIntOf,run_underlying d,a,hi.size,part,wJ b,c,hv]
theorem mB(c:gB ops n s g=true)(j:ev n s x = .agg cs)(l:ev n s y = .int k i)(h:P.underlying t=some (.array len e))(b:P.underlying e=some u)(f:j4 u=false)(hi:TI P e 1 by_ z)(a:0<=i/\i<(len:Int))(hv:cs[i.toNat]? = some v)
 (K:WL r P ops Q rest (Fr n ((d,v) :: s) ds) w):WL r P ops Q (⟨some d,.index t x y,ty,pos,af,g⟩ :: rest) (Fr n s ds) w:=pw c (fun _=>ZP j l h b f hi a hv) K
end
end Go.Sx
namespace Go.Sx
open Go
section
variable {α:Type} {cf:α->List Value} {sz:Nat} {w:World} {bs:List (World×List Nat)} {L:List fU} {ys:List α} {b i:Nat} {v:Value} {e:TypeId}
theorem St.adG(h:St bs L w)(hi:L[i]? = some (fL cf v e sz ys))(o:0<ys.length) :
 ∃ b a ex,v = .slice (some ⟨b,0,none⟩) ys.length a/\ys.length<=a/\a<=maxLen/\(ys.flatMap cf++ex).length=a*sz/\St bs (L.set i (blk b e (ys.flatMap cf++ex))) w:=by
 have m:w.ownsRow 0 e sz v ys.length (ys.flatMap cf):=h.own _ (zd hi)
 rcases m.2 with ⟨_,n⟩|⟨d, a,cur,rfl,_,f,g,j,k,l⟩
 . omega
 . have e1:cur.toList=ys.flatMap cf++cur.toList.drop (ys.length*sz):=by
    rw[<-l,u9]
   refine⟨d, a,cur.toList.drop (ys.length*sz),rfl,g,j,by rw[<-e1];simpa using k,?_⟩
   refine h.iJ hi (gx.refl _ _) (fun x c=>.inl (by simpa[row,Value.ownBlock,blk]using c)) (by simp[blk]) (fun x c=>?_) ?_
   . simp[blk]at c
     subst c
     exact(nW.1 f).1
   . show w.heap[d]? = some (.cells (ys.flatMap cf++cur.toList.drop (ys.length*sz)).toArray e (0,0))
     rw[<-e1]
     simpa using f
theorem St.Nn{ex:List Value}{cap:Nat}(h:St bs L w)(hi:L[i]? = some (blk b e (ys.flatMap cf++ex)))(d:∀ x:α,(cf x).length=sz)(c:ys.length<=cap)(hm:cap<=maxLen)(f:(ys.flatMap cf++ex).length=cap*sz) :
 St bs (L.set i (fL cf (.slice (some ⟨b,0,none⟩) ys.length cap) e sz ys)) w:=by
 have:=h.Ty hi f c hm
 have a:(ys.flatMap cf).length=ys.length*sz:=rK d ys
 rw[<-a,List.take_left]at this
 exact this
theorem St.Sh{m:Nat}(h:St bs L w)(hi:L[i]? = some (fL cf v e sz ys))(g:∀ x:α,(cf x).length=sz)(hm:m<=ys.length):St bs (L.set i (fL cf (mR sz v 0 m) e sz (ys.take m))) w:=by
 have q:w.ownsRow 0 e sz v ys.length (ys.flatMap cf):=h.own _ (zd hi)
 have b:(ys.take m).length=m:=by rw[zx];omega
 have p:(ys.take m).flatMap cf=(ys.flatMap cf).take (m*sz):=by
  have e1:ys.flatMap cf=(ys.take m).flatMap cf++(ys.drop m).flatMap cf:=by rw[<-List.flatMap_append,u9]
  have j:((ys.take m).flatMap cf).length=m*sz:=by rw[rK g,b]
  rw[e1,<-j,List.take_left]
 rcases q.2 with ⟨rfl,r⟩|⟨d, c,cur,rfl,_,f,s,k,l,n⟩
 . have o:m=0:=by omega
   subst o
   refine h.iJ hi (gx.refl _ _) (fun x a=>.inl (by simp[row,Value.ownBlock,mR]at a)) (by simp[row,Value.ownBlock,mR]) (fun x a=>by simp[row,Value.ownBlock,mR]at a) ?_
   exact⟨s_,.inl ⟨by simp[mR],s_⟩⟩
 . have hv:mR sz (.slice (some ⟨d, 0,none⟩) ys.length c) 0 m = .slice (some ⟨d, 0,none⟩) m c:=by
    simp only[mR,Nat.sub_zero,Nat.zero_mul,w5,Addr.add_lit,qC]
    split<;>rfl
   rw[hv]
   refine h.iJ hi (gx.refl _ _) (fun x a=>.inl (by simpa[row,Value.ownBlock]using a)) (by simp[row,Value.ownBlock]) (fun x a=>?_) ?_
   . simp[row,Value.ownBlock]at a
     subst a
     exact(nW.1 f).1
   . refine⟨by rw[rK g],.inr ⟨d, c,cur,by rw[b],mZ _,f,by rw[b];omega,k,l,?_⟩⟩
     rw[b,p,<-n,List.take_take,oZ (DB _ hm)]
end
section
variable {α:Type} [Inhabited α] {cf:α->List Value} {sz:Nat} {w:World} {bs:List (World×List Nat)} {L L' : List fU} {ys:List α} {b i k off:Nat} {v u:Value} {e:TypeId} {vs:List Value} {f:α->α}
variable {r:Option Nat} {P:Program} {ops:Array Oper} {Q:Exit->Act->World->Prop} {rest l:List Oper} {n:Nat} {s s0:List (Nat×Value)} {ds:List Deferred} {Nx:Value->World->Prop}
variable {d:Nat} {dd:Option Nat} {ty t:TypeId} {pos:String} {af:Array Edge} {g:Option (Nat×Bool)} {x y:Operand} {szt by_:Nat} {z:Value}
theorem aeA(i:Nat)(D:ev n s x=jQ sz v k off)(F:ev n s y=u)(hvs:u.cells.toList=vs)(C:TI P t szt by_ z)(B:vs.length=szt)(h1:vs.all (·.oneCell')=true)(A:St bs L w)(hi:L[i]? = some (fL cf v e sz ys))(a:∀ x:α,(cf x).length=sz)(hk:k<ys.length)(c:Nat.ble (off+vs.length) sz=true)
 (l:cf (f (fJ ys k))=setAt (cf (fJ ys k)) off vs) (h:L.set i (fL cf v e sz (fN ys k f))=L') :
 ∃ w', (execOp (ev n s) ⟨dd,.store t x y,ty,pos,af,g⟩).run P w = .ok .skip w' /\ St bs L' w' := by
 have c:=oV c
 have d:=(zg.1 hi).1
 obtain⟨b,cap,ex,rfl,j,hm,o,hs⟩:=A.adG hi o_
 have E : ev n s x = .pointer (some ⟨b,k*sz+off,none⟩):=by rw[D];simp[jQ]
 have m:=Kl a hk (n:=vs.length) c
 have hb:(L.set i (blk b e (ys.flatMap cf++ex)))[i]? = some (blk b e (ys.flatMap cf++ex)):=by simp[d]
 obtain⟨w', q,r, _⟩:=KQ (dd:=dd) (ty:=ty) (pos:=pos) (af:=af) (g:=g) (cs' := (fN ys k f).flatMap cf++ex) i E F hvs C B h1 hs hb (by rw[zq];omega) (by rw[Sw m,FG a hk l c]) rfl
 refine⟨w', q,?_⟩
 have p : ((fN ys k f).flatMap cf++ex).length=cap*sz:=by rw[<-o,zq,zq,rK a,rK a,gC]
 have:=r.Nn (ys:=fN ys k f) (ex:=ex) (cap:=cap) (i:=i) (b:=b) (e:=e) (by simp[d]) a (by rw[gC];exact j) hm p
 subst h
 simpa[gC]using this
theorem aez(i:Nat)(h:gB ops n s g=true)(q:ev n s x=jQ sz v k off)(A:ev n s y=u)(hvs:u.cells.toList=vs)(p:TI P t szt by_ z)(o:vs.length=szt)(h1:vs.all (·.oneCell')=true)(m:St bs L w)(hi:L[i]? = some (fL cf v e sz ys))(j:∀ x:α,(cf x).length=sz)(hk:k<ys.length)(l:Nat.ble (off+vs.length) sz=true)
 (d:cf (f (fJ ys k))=setAt (cf (fJ ys k)) off vs) (c:L.set i (fL cf v e sz (fN ys k f))=L')
 (K:∀ w', St bs L' w' -> WL r P ops Q rest (Fr n s ds) w'):WL r P ops Q (⟨none,.store t x y,ty,pos,af,g⟩ :: rest) (Fr n s ds) w:=by
 obtain⟨w', a,b⟩:=aeA (dd:=none) (ty:=ty) (pos:=pos) (af:=af) (g:=g) i q A hvs p o h1 m hi j hk l d c
 exact Dh h rfl a (K w' b)
end
section
variable {α:Type}
def gK(cf:α->List Value)(T:TypeId)(B:Nat)(ps:List (Option Nat))(xs:List α):fU where
 gG:=ps.filterMap id
 holds w:=∀ (j b:Nat),ps[j]? = some (some b)->w.heap[b]? = some (.cells (((xs.drop (B*j)).take B).flatMap cf).toArray T (0,0))
 loc w w' h hh j b hb:=by
  rw[h b (GN.2 ⟨some b,zd hb,rfl⟩)]
  exact hh j b hb
def ir(p:Option Nat):List Value:=[.pointer (p.map fun b=>⟨b,0,none⟩)]
variable [Inhabited α] {cf:α->List Value} {sz B:Nat} {w:World} {bs:List (World×List Nat)} {L:List fU} {xs C:List α} {b i k off j:Nat} {v:Value} {T:TypeId} {vs:List Value} {f:α->α} {ps:List (Option Nat)}
theorem mem_some{ps:List (Option Nat)}{j b:Nat}(h:ps[j]? = some (some b)):b∈ps.filterMap id:=GN.2 ⟨some b,zd h,rfl⟩
theorem HZ(c:0<B)(hk:k<xs.length):fJ ((xs.drop (B*(k / B))).take B) (k%B)=fJ xs k/\k%B<((xs.drop (B*(k / B))).take B).length:=by
 have a:=Bz k c
 have b:=Nat.div_add_mod k B
 constructor
 . unfold fJ
   rw[r9,if_pos a,DE,b]
 . rw[zx,zA];omega
theorem St.Vd(h:St bs L w)(hi:L[i]? = some (gK cf T B ps xs))(g:∀ x:α,(cf x).length=sz)(d:0<B)(hk:k<xs.length)(hp:ps[k / B]? = some (some b))(e:(cf (fJ xs k))[off]? = some v):w.cell? ⟨b,k%B*sz+off,none⟩=some v:=by
 have f:=h.own _ (zd hi) _ _ hp
 rw[cell_of_row w b _ _ T (0,0) f]
 obtain⟨a,c⟩:=HZ d hk
 have:=vW g _ (k%B) off _ v (gy c) (by rw[a];exact e)
 simpa using this
theorem Vj(a:0<B)(hk:k<xs.length):((fN xs k f).drop (B*(k / B))).take B=fN ((xs.drop (B*(k / B))).take B) (k%B) f:=by
 obtain⟨b,c⟩:=HZ a hk
 have d:=Bz k a
 have e:=Nat.div_add_mod k B
 unfold fN
 rw[b,List.drop_set,if_neg o_,List.take_set]
 congr 1
 omega
theorem Vi(a:0<B){j:Nat}(d:j≠k / B):((fN xs k f).drop (B*j)).take B=(xs.drop (B*j)).take B:=by
 have b:=Bz k a
 have c:=Nat.div_add_mod k B
 unfold fN
 rw[List.drop_set]
 split
 . rfl
 . rename_i e
   rw[List.take_set_of_le]
   rcases xd j (k / B)with h|h
   . have:B*(j+1)<=B*(k / B):=Bw _ h
     rw[By]at this
     omega
   . have:B*(k / B+1)<=B*j:=Bw _ o_
     rw[By]at this
     omega
end
section
variable {α:Type} [Inhabited α] {cf:α->List Value} {sz B:Nat} {w:World} {bs:List (World×List Nat)} {L L' : List fU} {xs C:List α} {b i k off j:Nat} {v u:Value} {T:TypeId} {vs:List Value} {f:α->α} {ps:List (Option Nat)}
variable {r:Option Nat} {P:Program} {ops:Array Oper} {Q:Exit->Act->World->Prop} {rest l:List Oper} {n:Nat} {s s0:List (Nat×Value)} {ds:List Deferred} {Nx:Value->World->Prop}
variable {d:Nat} {dd:Option Nat} {ty t:TypeId} {pos:String} {af:Array Edge} {g:Option (Nat×Bool)} {x y:Operand} {szt by_:Nat} {z:Value}
theorem aey(i:Nat)(a:ev n s x = .pointer (some ⟨b,k%B*sz+off,none⟩))(hy:ev n s y=u)(hvs:u.cells.toList=vs)(Z:TI P t szt by_ z)(Y:vs.length=szt)(h1:vs.all (·.oneCell')=true)(o:St bs L w)(hi:L[i]? = some (gK cf T B ps xs))(F:∀ x:α,(cf x).length=sz)(v:0<B)(hk:k<xs.length)(hp:ps[k / B]? = some (some b))(l:Nat.ble (off+vs.length) sz=true)
 (O:cf (f (fJ xs k))=setAt (cf (fJ xs k)) off vs) (M:L.set i (gK cf T B ps (fN xs k f))=L') :
 ∃ w', (execOp (ev n s) ⟨dd,.store t x y,ty,pos,af,g⟩).run P w = .ok .skip w' /\ St bs L' w' := by
 have l:=oV l
 obtain⟨D,r⟩:=HZ (xs:=xs) v hk
 have I:=o.own _ (zd hi)
 have C:=I _ _ hp
 obtain⟨ch,E⟩:∃ ch,ch=(xs.drop (B*(k / B))).take B:=⟨_,rfl⟩
 rw[<-E]at D r C
 have Q:=Kl F r (n:=vs.length) l
 have J:=run_storeCells_at P b (k%B*sz+off) T vs 0 (ch.flatMap cf).toArray w C (by simpa using Q) (by simpa using h1)
 have U:u.cells.size=szt:=by rw[<-Y,<-hvs];simp
 have X:setAt (ch.flatMap cf) (k%B*sz+off) vs=(fN ch (k%B) f).flatMap cf:=FG F r (by rw[D];exact O) l
 have S:∀ x∈(gK cf T B ps xs).gG,x<w.heap.size:=fun x a=>o.lt x (rP hi a)
 have G:(ps.filterMap id).Nodup:=sublist_nodup' o.sep (zd hi)
 refine⟨w.setRow b ((setAt (ch.flatMap cf) (k%B*sz+off) vs).toArray),?_,?_⟩
 . simp only[execOp,a,hy,Instr.storeAt,Instr.sureAddr,storeVar,zw,jK,zp,Z.size,U,ne_eq,not_true,if_false,hvs]
   simp only[qC]at J
   simp[J,setAt]
 . subst M
   refine o.iJ hi ((gx.setRow w b _).mono (fun x a=>?_)) (fun c A=>.inl A) G (fun c A=>?_) ?_
   . simp only[zz]at a
     subst a
     exact mem_some hp
   . have:=S c A
     simpa using this
   . intro q c m
     by_cases hqk:q=k / B
     . subst hqk
       rw[hp]at m
       cases m
       rw[Vj v hk,<-E,<-X]
       exact setRow_heap w b (ch.flatMap cf).toArray _ T (0,0) C
     . rw[Vi v hqk]
       have W:c≠b:=by
        intro e'
        subst e'
        exact hqk (some_inj G m hp)
       have K:(w.setRow b ((setAt (ch.flatMap cf) (k%B*sz+off) vs).toArray)).heap[c]? = w.heap[c]? := setRow_other w b c _ W
       rw[K]
       exact I q c m
where
 sublist_nodup' {L:List fU} {R:fU} (h:(iU L).Nodup) (N:R∈L):R.gG.Nodup:=KR h N
 some_inj {ps:List (Option Nat)} {b:Nat}:∀ {i j:Nat},(ps.filterMap id).Nodup->ps[i]? = some (some b)->ps[j]? = some (some b)->i=j:=by
  induction ps with
  | nil=>intro i j _ h;simp at h
  | cons p ps ih =>
   intro i j d hi e
   have V : (ps.filterMap id).Nodup:=by
    cases p with
    | none=>simpa using d
    | some q=>rw[oW]at d;exact(zu.1 d).2
   have H:p=some b->b∉ps.filterMap id:=fun e' => by
    subst e'
    rw[oW]at d
    exact(zu.1 d).1
   cases i with
   | zero =>
    simp at hi
    cases j with
    | zero=>rfl
    | succ j=>exact absurd (mem_some (by simpa using e)) (H hi)
   | succ i =>
    cases j with
    | zero =>
     simp at e
     exact absurd (mem_some (by simpa using hi)) (H e)
    | succ j=>exact congrArg (· + 1) (ih V (by simpa using hi) (by simpa using e))
theorem qZ(i:Nat)(j:gB ops n s g=true)(v:ev n s x = .pointer (some ⟨b,k%B*sz+off,none⟩))(A:ev n s y=u)(hvs:u.cells.toList=vs)(q:TI P t szt by_ z)(p:vs.length=szt)(h1:vs.all (·.oneCell')=true)(o:St bs L w)(hi:L[i]? = some (gK cf T B ps xs))(l:∀ x:α,(cf x).length=sz)(d:0<B)(hk:k<xs.length)(hp:ps[k / B]? = some (some b))(m:Nat.ble (off+vs.length) sz=true)
 (h:cf (f (fJ xs k))=setAt (cf (fJ xs k)) off vs) (e:L.set i (gK cf T B ps (fN xs k f))=L')
 (K:∀ w', St bs L' w' -> WL r P ops Q rest (Fr n s ds) w'):WL r P ops Q (⟨none,.store t x y,ty,pos,af,g⟩ :: rest) (Fr n s ds) w:=by
 obtain⟨w', a,c⟩:=aey (dd:=none) (ty:=ty) (pos:=pos) (af:=af) (g:=g) i v A hvs q p h1 o hi l d hk hp m h e
 exact Dh j rfl a (K w' c)
end
section
variable {α:Type} {cf:α->List Value} {sz B:Nat} {w:World} {bs:List (World×List Nat)} {L:List fU} {xs C:List α} {b j:Nat} {T:TypeId} {ps:List (Option Nat)}
theorem St.P7{R R' a : fU}(h:St bs (R :: R' :: L) w)(e:a.gG.Perm (R.gG++R'.gG))(f:R.holds w->R'.holds w->a.holds w):St bs (a :: L) w:=by
 have hp:(iU (a :: L)).Perm (iU (R :: R' :: L)):=by
  rw[lZ,lZ,lZ,<-mL]
  exact e.append_right _
 refine⟨fun p d => ⟨(h.base p d).gz,fun b hb=>(h.base p d).mine b (hp.mem_iff.1 hb)⟩,fun Q c=>?_,hp.nodup_iff.2 h.sep,fun b hb=>h.lt b (hp.mem_iff.1 hb)⟩
 rcases zb.1 c with rfl|c
 . exact f (h.own R s_) (h.own R' s_)
 . exact h.own Q (by simp[c])
theorem aci{ps:List (Option Nat)}{b:Nat}:∀ {j:Nat},ps[j]? = some none->((ps.set j (some b)).filterMap id).Perm (b :: ps.filterMap id):=by
 induction ps with
 | nil=>intro j h;simp at h
 | cons p ps a =>
  intro j h
  cases j with
  | zero =>
   simp at h
   subst h
   simp
  | succ j =>
   have:=a (by simpa using h)
   cases p with
   | none=>simpa using this
   | some q =>
    simp only[List.set_cons_succ,oW,id]
    exact(List.Perm.cons q this).trans (List.Perm.swap _ _ _)
theorem St.Nz{cs:List Value}(h:St bs (blk b T cs :: gK cf T B ps xs :: L) w)(d:ps[j]? = some none)(g:cs=((xs.drop (B*j)).take B).flatMap cf):St bs (gK cf T B (ps.set j (some b)) xs :: L) w:=by
 have i:=(zg.1 d).1
 refine h.P7 (by simpa[gK,blk]using aci d) fun e f q c a=>?_
 rw[si]at a
 split at a
 . rename_i e'
   subst e'
   cases a
   rw[<-g]
   exact e
 . exact f q c a
theorem St.NA{cs:List Value}(h:St bs (blk b T cs :: gK cf T B ps xs :: L) w)(j:xs.length=B*ps.length)(l:C.length=B)(f:cs=C.flatMap cf):St bs (gK cf T B (ps++[some b]) (xs++C) :: L) w:=by
 refine h.P7 (by simp only[gK,blk,LM];exact qB) fun d e q c a=>?_
 rw[Bu]at a
 split at a
 . rename_i g
   have:B*(q+1)<=B*ps.length:=Bw _ g
   rw[By]at this
   rw[List.drop_append_of_le_length o_,GG (by rw[zA];omega)]
   exact e q c a
 . rename_i k
   have i : q=ps.length:=by
    have:=(zg.1 a).1
    simp at this
    omega
   subst i
   simp at a
   subst a
   rw[<-j,List.drop_left,u6 o_,<-f]
   exact d
theorem St.Ep(h:St bs L w)(m:Nat):St bs (gK cf T B (List.replicate m none) xs :: L) w:=by
 refine h.add (lo:=w.heap.size) (fun p hp=>(h.base p hp).gz.size) h.lt (fun b hb=>?_) ?_ (fun b hb=>?_) ?_
 . simp[gK]at hb
 . simp[gK]
 . simp[gK]at hb
 . intro j b hb
   have:=zd hb
   simp at this
end
section
variable {α:Type} {cf:α->List Value} {z0:α}
theorem abb{z:Value}{sz:Nat}(h:z.cells.toList=cf z0)(a:∀ x:α,(cf x).length=sz)(f:0<sz)(c:Nat):madeCells z.cells (c*sz)=((List.replicate c z0).flatMap cf).toArray:=by
 have n:z.cells.size=sz:=by rw[<-r8,h,a]
 apply Array.ext'
 apply mM
 intro i
 by_cases hi:i<c*sz
 . have b:i / sz<c:=(zdt f).2 hi
   have d:i%sz<(cf z0).length:=by rw[a];exact Bz _ f
   obtain⟨u,g⟩:=pK d
   have e:=vW a (List.replicate c z0) (i / sz) (i%sz) z0 u (by rw[sj,if_pos b]) g
   rw[Bx]at e
   have j:z.cells[i%z.cells.size]! = u:=by
    have l:z.cells.toList[i%sz]? = some u:=by rw[h];exact g
    have k:z.cells[i%sz]? = some u:=by rw[<-wV];exact l
    rw[n,getElem!_def,k]
   have m:(madeCells z.cells (c*sz)).toList[i]? = some (z.cells[i%z.cells.size]!):=by simp[madeCells,hi]
   rw[m,j]
   simpa using e.symm
 . have b:(madeCells z.cells (c*sz)).toList[i]? = none:=by rw[zt];simp[madeCells];omega
   have d:((List.replicate c z0).flatMap cf).length=c*sz:=by rw[rK a,sY]
   rw[b]
   symm
   apply zt
   simp only[d]
   omega
end
section
variable {α:Type} {cf:α->List Value} {z0:α}
variable {r:Option Nat} {P:Program} {ops:Array Oper} {Q:Exit->Act->World->Prop} {rest l:List Oper} {n:Nat} {s s0:List (Nat×Value)} {ds:List Deferred} {w:World} {Nx:Value->World->Prop}
variable {d:Nat} {dd:Option Nat} {ty t e:TypeId} {pos:String} {af:Array Edge} {g:Option (Nat×Bool)} {x y:Operand} {sz by_:Nat} {z:Value} {bs:List (World×List Nat)} {L:List fU}
theorem QV{k k' : IntKind}{c m:Nat}(p:ev n s x = .int k (m:Int))(q:ev n s y = .int k' (c:Int))(o:P.underlying t=some (.slice e))(hi:TI P e sz by_ z)(r:z.cells.toList=cf z0)(j:∀ x:α,(cf x).length=sz)(l:0<sz)(hm:m<=c)(hb:by_*c<=281474976710656)(u:c<=9223372036854775807) :
 (execOp (ev n s) ⟨dd,.makeSlice t x y,ty,pos,af,g⟩).run P w = .ok (.value (.slice (some ⟨w.heap.size,0,none⟩) m c)) (w.alloc (.cells ((List.replicate c z0).flatMap cf).toArray e)):=by
 obtain⟨i,h,b,d,f⟩:=hi.get
 subst d
 have a:=run_make (P:=P) w t e i z o h f k k' m c o_ o_ (by rw[<-Int.natCast_mul];omega) o_
 simp only[mj,b]at a
 rw[abb r j l]at a
 simp only[execOp,p,q,zw,a,zp,jK]
theorem qU{k k' : IntKind}{c m:Nat}(f:gB ops n s g=true)(o:ev n s x = .int k (m:Int))(p:ev n s y = .int k' (c:Int))(l:P.underlying t=some (.slice e))(hi:TI P e sz by_ z)(q:z.cells.toList=cf z0)(h:∀ x:α,(cf x).length=sz)(j:0<sz)(hm:m<=c)(hb:by_*c<=281474976710656)(a:c<=9223372036854775807)(i:St bs L w)
 (K:∀ b w', w.heap.size<=b->gx [] w w' -> St bs (blk b e ((List.replicate c z0).flatMap cf) :: L) w' -> WL r P ops Q rest (Fr n ((d,.slice (some ⟨b,0,none⟩) m c) :: s) ds) w') :
 WL r P ops Q (⟨some d,.makeSlice t x y,ty,pos,af,g⟩ :: rest) (Fr n s ds) w :=
 pv f rfl (QV o p l hi q h j hm hb a) (K _ _ (zk _) (gx.alloc [] w _) (xS i e _))
theorem rN{k k' : IntKind}{c m:Nat}(d:gB ops n s g=true)(o:ev n s x = .int k (m:Int))(p:ev n s y = .int k' (c:Int))(j:P.underlying t=some (.slice e))(hi:TI P e sz by_ z)(q:z.cells.toList=cf z0)(f:∀ x:α,(cf x).length=sz)(i:0<sz)(hm:m<=c)(hb:by_*c<=281474976710656)(a:c<=9223372036854775807)(h:St bs L w)
 (K:∀ b w', St bs (blk b e ((List.replicate c z0).flatMap cf) :: L) w' -> Nx (.slice (some ⟨b,0,none⟩) m c) w') :
 ni P ops Q n ds s0 l ⟨dd,.makeSlice t x y,ty,pos,af,g⟩ s Nx w :=
 Fs d rfl (QV o p j hi q f i hm hb a) (K _ _ (xS h e _))
theorem St.U0{b c m i:Nat}(h:St bs L w)(hi:L[i]? = some (blk b e ((List.replicate c z0).flatMap cf)))(a:∀ x:α,(cf x).length=sz)(hm:m<=c)(d:c<=maxLen):St bs (L.set i (fL cf (.slice (some ⟨b,0,none⟩) m c) e sz (List.replicate m z0))) w:=by
 have e1:(List.replicate c z0).flatMap cf=(List.replicate m z0).flatMap cf++(List.replicate (c-m) z0).flatMap cf:=by
  rw[<-List.flatMap_append,List.replicate_append_replicate]
  congr 2
  omega
 rw[e1]at hi
 have:=h.Nn (cf:=cf) (ys:=List.replicate m z0) (cap:=c) hi a (by simpa using hm) d (by rw[<-e1,rK a,sY])
 simpa using this
end
theorem St.made{w w' : World}{bs:List (World×List Nat)}{L:List fU}{R:fU}(h:St bs L w)(a:fZ (gj []) w w' R):St bs (R :: L) w' :=
 h.sK (by simpa[gj,iU]using a.gz) (fun b hb=>(a.place b hb).elim (fun h=>by simp[gj,iU]at h) id) a.nodup a.lt a.holds
theorem St.Oe{w w' : World}{bs:List (World×List Nat)}{L:List fU}{R:fU}(h:St bs (R :: L) w')(hb:(w,[])∈bs):fZ (gj []) w w' R:=h.EA (R:=gj []) hb
theorem AQ{e:Option Nat}{b:Nat}(h:e=some b):Value.pointer (e.map fun b=>(⟨b,0,none⟩:Addr)) = .pointer (some ⟨b,0,none⟩):=by rw[h];rfl
def wo:Value->Bool
 | .slice none _ _=>true
 | _=>false
section
variable {r:Option Nat} {P:Program} {ops:Array Oper} {Q:Exit->Act->World->Prop} {rest:List Oper} {n:Nat} {s:List (Nat×Value)} {ds:List Deferred} {w w0 w' : World} {d:Nat} {ty t t' e:TypeId} {pos:String} {af:Array Edge} {g:Option (Nat×Bool)} {v:Value} {x y:Operand}
theorem Ci{α:Type}{sz:Nat}{enc:World->α->List Value->Prop}{ok:Nat->Prop}{ys:List α}(f:gB ops n s g=true)(i:ev n s x=v)(j:ev n s y = .slice none 0 0)(h:P.underlying t=some (.slice e))(b:Sl sz enc ok w0 v ys)
 (K:WL r P ops Q rest (Fr n ((d,.bool (wo v)) :: s) ds) w):WL r P ops Q (⟨some d,.binOp .eql t x y t', ty,pos,af,g⟩ :: rest) (Fr n s ds) w:=by
 obtain⟨a,c,rfl,_⟩:=b
 have:wo (.slice a ys.length c)=a.isNone:=by cases a<;>rfl
 rw[this]at K
 exact Yt f i j h K
theorem CI{α:Type}{sz:Nat}{enc:World->α->List Value->Prop}{ok:Nat->Prop}{ys:List α}(h:wo v=true)(e:Sl sz enc ok w0 v ys):ys=[]:=by
 obtain⟨a,c,rfl,g,i,d⟩:=e
 cases ys with
 | nil=>rfl
 | cons y ys =>
  obtain⟨b,o,vs,f,_⟩:=d 0 y rfl
  subst f
  cases h
theorem p5.CH {α:Type}{sz:Nat}{cf:α->List Value}{e:TypeId}:p5 sz cf w w' (.slice none 0 0) e ([]:List α):=⟨⟨s_,.inl ⟨rfl,rfl⟩⟩,fun b hb=>by simp[Value.ownBlock]at hb⟩
end
section
variable {α:Type} {cf:α->List Value} {w:World} {bs:List (World×List Nat)} {L:List fU} {xs:List α} {b i j B:Nat} {T:TypeId} {ps:List (Option Nat)}
theorem St.Ny(h:St bs L w)(hi:L[i]? = some (gK cf T B ps xs))(hp:ps[j]? = some (some b)):∀ q u,(((xs.drop (B*j)).take B).flatMap cf)[q]? = some u->w.cell? ⟨b,0+q,none⟩=some u:=by
 intro q u c
 have a:=h.own _ (zd hi) _ _ hp
 rw[cell_of_row w b _ _ T (0,0) a]
 simpa using c
theorem NF{sz:Nat}(b:∀ x:α,(cf x).length=sz)(c:xs.length=B*ps.length)(a:j<ps.length):(((xs.drop (B*j)).take B).flatMap cf).length=B*sz:=by
 rw[rK b,zx,zA]
 have:B*(j+1)<=B*ps.length:=Bw _ a
 rw[By]at this
 have e:min B (xs.length-B*j)=B:=by omega
 rw[e]
theorem Sv{cs vs:List Value}(h:vs.length=cs.length):setAt cs 0 vs=vs:=by
 unfold setAt
 rw[List.take_zero,rq,lD,GJ o_,qA]
end
theorem xH{α:Type}{cf:α->List Value}(h:∀ a,(cf a).all (·.oneCell')=true)(xs:List α):∀ x∈xs.flatMap cf,x.oneCell' = true:=by
 intro x c
 obtain⟨a,_,b⟩:=qy.1 c
 exact zn.1 (h a) x b
structure qD (ps qs:List (Option Nat)) (k:Nat):Prop where
 len:qs.length=ps.length
 rest:∀ j,k<=j->j<ps.length->qs[j]? = some none
 done:∀ j,j<k->qs[j]? = some none->ps[j]? = some none
theorem qD.start(ps:List (Option Nat)):qD ps (List.replicate ps.length none) 0 :=
 ⟨s_,fun j _ a=>by rw[sj,if_pos a],fun j a=>absurd a o_⟩
theorem qD.skip{ps b:List (Option Nat)}{k:Nat}(h:qD ps b k)(hk:ps[k]? = some none):qD ps b (k+1) :=
 ⟨h.len,fun j c a=>h.rest j o_ a,fun j c a=>by
  by_cases e:j=k
  . subst e;exact hk
  . exact h.done j o_ a⟩
theorem qD.set{ps c:List (Option Nat)}{k b:Nat}(h:qD ps c k)(hk:k<ps.length):qD ps (fN c k (fun _=>some b)) (k+1):=by
 have f:=h.len
 refine⟨by rw[gC];exact f,fun j d a=>?_,fun j d a=>?_⟩
 . unfold fN
   rw[List.getElem?_set_ne o_]
   exact h.rest j o_ a
 . unfold fN at a
   by_cases e:k=j
   . subst e
     rw[si,if_pos rfl,if_pos o_]at a
     cases a
   . rw[List.getElem?_set_ne e]at a
     exact h.done j o_ a
theorem qD.next{ps a:List (Option Nat)}{k:Nat}(h:qD ps a k)(hk:k<ps.length):a[k]? = some none:=h.rest k (zk _) hk
end Go.Sx
namespace Go.Sx
open Go
def j7(p:Prop)(R:fU):fU where
 gG:=R.gG
 holds w:=p/\R.holds w
 loc w w' h hh:=⟨hh.1,R.loc w w' h hh.2⟩
section
variable {w w' w0:World} {bs:List (World×List Nat)} {L LL:List fU} {R R' : fU} {p p' : Prop}
theorem Own.fact(h:Own (j7 p R) w):p:=h.holds.1
theorem Own.un(h:Own (j7 p R) w):Own R w:=⟨h.holds.2,h.nodup,h.lt⟩
theorem fZ.pW(h:fZ R w w' R')(hp:p'):fZ (j7 p R) w w' (j7 p' R'):=⟨⟨hp,h.holds⟩,h.gz,h.place,h.nodup,h.lt⟩
theorem fZ.Be(h:fZ R w w' R')(hp:p'):fZ R w w' (j7 p' R'):=⟨⟨hp,h.holds⟩,h.gz,h.place,h.nodup,h.lt⟩
theorem fZ.Gd(h:fZ R w w' R'):fZ (j7 p R) w w' R' := ⟨h.holds,h.gz,h.place,h.nodup,h.lt⟩
theorem St.un(h:St bs (j7 p R :: L) w):St bs (R :: L) w :=
 ⟨fun q b=>⟨(h.base q b).gz,(h.base q b).mine⟩,fun Q a=>by
  rcases zb.1 a with rfl|a
  . exact(h.own (j7 p Q) s_).2
  . exact h.own Q (by simp[a]),h.sep,h.lt⟩
theorem St.pW(h:St bs (R :: L) w)(hp:p):St bs (j7 p R :: L) w :=
 ⟨fun q b=>⟨(h.base q b).gz,(h.base q b).mine⟩,fun Q a=>by
  rcases zb.1 a with rfl|a
  . exact⟨hp,h.own R s_⟩
  . exact h.own Q (by simp[a]),h.sep,h.lt⟩
theorem St.fact(h:St bs (j7 p R :: L) w):p:=(h.own (j7 p R) s_).1
theorem St.YA{i:Nat}(h:St bs L w)(hi:L[i]? = some (j7 p R)):p:=(h.own (j7 p R) (zd hi)).1
theorem Own.of{L:List fU}(h:Own (gj L) w):St [(w,(gj L).gG)] L w:=by
 have a:=(St.Ji h).unpack
 rwa [qA]at a
theorem St.Od(h:St bs L w')(hb:(w,R.gG)∈bs):fZ R w w' (gj L):=by
 have a:St bs (L++[]) w' := by rwa [qA]
 exact(St.pack L [] a).EA hb
theorem fZ.ER{A B:List fU}(h:fZ R w w' (gj (A++B))):fZ R w w' (gj [gj A,gj B]):=by
 have c:(gj [gj A,gj B]).gG=(gj (A++B)).gG:=by simp[gj,iU]
 refine⟨fun Q d=>?_,h.gz,fun b hb=>h.place b (c▸hb),c▸h.nodup,fun b hb=>h.lt b (c▸hb)⟩
 simp only[zb,nI,or_false]at d
 rcases d with rfl|rfl
 . exact fun S a=>h.holds S (wX _ a)
 . exact fun S a=>h.holds S (wW _ a)
theorem fZ.Fh{a : fU}(h:fZ R w w' R')(c:a.gG=R'.gG)(d:R'.holds w' -> a.holds w'):fZ R w w' a :=
 ⟨d h.holds,h.gz,fun b hb=>h.place b (c▸hb),c▸h.nodup,fun b hb=>h.lt b (c▸hb)⟩
end
end Go.Sx
namespace Go.Sx
open Go
def C1(L:List fU):List Nat->List fU
 | []=>[]
 | i :: r=>match L[i]? with
  | some x=>x :: C1 L r
  | none=>C1 L r
theorem Ss(L:List fU):∀ ix,C1 L ix=ix.filterMap fun i=>L[i]?
 | []=>rfl
 | i :: r=>by
  simp only[C1,oW]
  cases L[i]? <;> simp[Ss L r]
theorem adZ(L:List fU):(List.range L.length).filterMap (fun i=>L[i]?)=L:=by
 apply mM
 intro j
 have h:∀ (n:Nat),n<=L.length->(List.range n).filterMap (fun i=>L[i]?)=L.take n:=by
  intro n
  induction n with
  | zero=>intro _;rfl
  | succ n a =>
   intro b
   rw[sB,LM,a o_,nY]
   simp only[oW,List.filterMap_nil]
   cases L[n]? <;> simp
 rw[h _ (zk _),qz]
theorem KD(L:List fU):∀ ix:List Nat,(ix.filter fun i=>decide (i<L.length)).filterMap (fun i=>L[i]?)=ix.filterMap fun i=>L[i]?
 | []=>rfl
 | i :: r=>by
  by_cases h:i<L.length
  . rw[Dz (by simpa using h),oW,oW,KD L r]
  . rw[Dy (by simpa using h),oW,KD L r,zt o_]
theorem St.re{bs:List (World×List Nat)}{L:List fU}{w:World}(ix:List Nat)(h:St bs L w)(f:ix.Nodup:=by decide):St bs (C1 L ix) w:=by
 have hp:((ix.filter fun i=>decide (i<L.length))++((List.range L.length).filter fun i=>decide (i∉ix))).Perm (List.range L.length):=by
  rw[List.perm_ext_iff_of_nodup]
  . intro a
    simp only[zm,z8,z6,decide_eq_true_eq]
    by_cases c:a∈ix<;>simp[c]
  . rw[zr]
    refine⟨f.sublist wY,tW.sublist wY,fun a c b hb e=>?_⟩
    subst e
    simp only[z8,decide_eq_true_eq]at c hb
    exact hb.2 c.1
  . exact tW
 have d:=hp.filterMap fun i=>L[i]?
 rw[adZ,LM,KD,<-Ss]at d
 exact(h.perm d.symm).sub (List.sublist_append_left _ _)
end Go.Sx
namespace Go.Ex
open Go
section
variable {P:Program} {w:World}
theorem adU{F:Fence}{m:Nat}{c:Code}{Q:Exit->Act->World->Prop}{a:Act}(h:c.wpIn F m P (fun e a w=>(∀ l,e ≠ .goto l)/\Q e a w) a w):(Code.scope c).wpIn F m P Q a w:=by
 intro b k cs s hb o
 have d:(lone (b.atR a (.code (.scope c) :: k)) cs w).fenced P F:=fenced_calm hb o rfl
 have s0:Go.step P (lone (b.atR a (.code (.scope c) :: k)) cs w) = .next (lone (b.atR a (.code c :: .inScope c :: k)) cs w):=step_lone_go (by simp[stepG,stepG.exec,Frame.atR])
 have s1:∀ a w,Go.step P (lone (b.atR a (.inScope c :: k)) cs w) = .next (lone (b.atR a k) cs w):=fun a w=>step_lone_go (by simp[stepG,stepG.exec,Frame.atR])
 obtain⟨e,g,j,⟨q,i⟩,f⟩:=h b (.inScope c :: k) cs s hb o
 cases e with
 | normal=>exact⟨.normal,g,j,i,.head d s0 (StepsIn.trans f (.one (fenced_calm hb o rfl) (s1 _ _)))⟩
 | exit id =>
  have p:exitTo id (.inScope c :: k)=exitTo id k:=by simp[exitTo]
  exact⟨.exit id,g,j,i,fun k' n=>.head d s0 (f.1 k' (by rw[p];exact n)),
   fun r n=>let ⟨k₁,h1,h2⟩:=f.2 r (by rw[p];exact n);⟨k₁,h1,.head d s0 h2⟩⟩
 | goto l=>exact absurd rfl (q l)
 | ret=>exact⟨_,g,j,i,.of_steps (.one d s0) f⟩
 | panic ch=>exact⟨_,g,j,i,.of_steps (.one d s0) f⟩
 | outgrown=>exact⟨_,g,j,i,.of_steps (.one d s0) f⟩
end
end Go.Ex
namespace Go.Sx
open Go
def xV(Q:Exit->Act->World->Prop):Exit->Act->World->Prop:=fun e a w=>(∀ l,e ≠ .goto l)/\Q e a w
section
variable {r:Option Nat} {P:Program} {Q:Exit->Act->World->Prop} {c:Code} {a:Act} {w:World} {id:Nat}
theorem scp(h:WP r P c (xV Q) a w):WP r P (.scope c) Q a w:=Go.Ex.adU h
theorem KB(h:Q .normal a w):xV Q .normal a w:=⟨fun _ e=>(by cases e),h⟩
theorem KC(h:Q .ret a w):xV Q .ret a w:=⟨fun _ e=>(by cases e),h⟩
theorem Jv{l:Nat}(h:Q .normal a w):WP r P (.label l) Q a w:=wpIn_label h
end
end Go.Sx
namespace Go.Sx
open Go
class NP (Q:Exit->Act->World->Prop):Prop where
 np:∀ c a w,¬ Q (.panic c) a w
 no:∀ a w,¬ Q .outgrown a w
instance NP.thn {K:Act->World->Prop} {Q:Exit->Act->World->Prop} [h:NP Q]:NP (Exit.then K Q):=⟨fun c a w=>h.np c a w,fun a w=>h.no a w⟩
instance NP.blk {i:Nat} {Q:Exit->Act->World->Prop} [h:NP Q]:NP (Exit.inBlock i Q):=⟨fun c a w=>h.np c a w,fun a w=>h.no a w⟩
instance NP.scp {Q:Exit->Act->World->Prop} [h:NP Q]:NP (xV Q):=⟨fun c a w x=>h.np c a w x.2,fun a w x=>h.no a w x.2⟩
instance NP.yD {P:Program} {l:Nat} {R:Ending->World->Prop}:NP (roundPost P l R):=⟨fun _ _ _ h=>h,fun _ _ h=>h⟩
instance NP.fls:NP (fun _ _ _=>False):=⟨fun _ _ _ h=>h,fun _ _ h=>h⟩
instance NP.bdy {P:Program} {fn:Func} {R:Value->World->Prop}:NP (bodyPost P fn (fun e w' => ∃ v,e = .returned v/\R v w')) where
 np c a w x:=by
  have x:a.defers=[]/\∃ v,Ending.panicked c = .returned v/\R v w:=x
  obtain⟨_,v,h,_⟩:=x
  cases h
 no a w x:=by
  have x:∃ v,Ending.outgrown = .returned v/\R v w:=x
  obtain⟨v,h,_⟩:=x
  cases h
section
variable {r:Option Nat} {P:Program} {ops:Array Oper} {Q:Exit->Act->World->Prop} {o x y:Oper} {a:Act} {w:World} {K K' : Act->World->Prop} {v u:Value}
def wn(ops:Array Oper)(o:Oper)(a:Act):Bool:=Region.wanted o (yielded ops a.tmps)
def iA(r:Option Nat)(P:Program)(ops:Array Oper)(Q:Exit->Act->World->Prop)(o:Oper)(K:Act->World->Prop)(a:Act)(w:World):Prop :=
 if wn ops o a=true then kq r P Q o K a w else K (a.put o.dst undef) w
theorem Gh{rest:List Oper}:wl r P ops Q (o :: rest) a w=iA r P ops Q o (wl r P ops Q rest) a w:=rfl
theorem iA.mono(h:∀ a w,K a w->K' a w)(b:iA r P ops Q o K a w):iA r P ops Q o K' a w:=by
 unfold iA at *
 split<;>rename_i c
 . rw[if_pos c]at b;exact b.mono h
 . rw[if_neg c]at b;exact h _ _ b
def Y0(P:Program)(ops:Array Oper)(o:Oper)(v:Value)(a:Act):Prop:=(wn ops o a=true/\cat o.op=0/\∀ w,(execOp a.eval o).run P w = .ok (.value v) w)\/(wn ops o a=false/\v=undef)
def Y1(P:Program)(ops:Array Oper)(o:Oper)(v:Value)(a:Act)(w:World):Prop:=wn ops o a=true/\cat o.op=1/\(execOp a.eval o).run P w = .ok (.value v) w
theorem iA.get(b:cat o.op=0\/cat o.op=1)(h:iA r P ops Q o K a w):∃ v,(Y0 P ops o v a\/Y1 P ops o v a w)/\K (a.put o.dst v) w:=by
 unfold iA at h
 cases hw:wn ops o a with
 | false=>rw[if_neg (by rw[hw];decide)]at h;exact⟨undef,.inl (.inr ⟨hw,rfl⟩),h⟩
 | true =>
  rw[if_pos hw]at h
  unfold kq at h
  rcases b with b|b<;>rw[b]at h<;>obtain⟨v,c,d⟩:=h
  . exact⟨v,.inl (.inl ⟨hw,b,c⟩),d⟩
  . exact⟨v,.inr ⟨hw,b,c⟩,d⟩
theorem iA.mk(h:Y0 P ops o v a\/Y1 P ops o v a w)(k:K (a.put o.dst v) w):iA r P ops Q o K a w:=by
 unfold iA
 rcases h with (⟨b,c,h⟩|⟨b,rfl⟩)|⟨b,c,h⟩
 . rw[if_pos b];unfold kq;rw[c];exact⟨v,h,k⟩
 . rw[if_neg (by rw[b];decide)];exact k
 . rw[if_pos b];unfold kq;rw[c];exact⟨v,h,k⟩
theorem Y0.vP(i:Y0 P ops o v a)(h:iA r P ops Q o K a w):K (a.put o.dst v) w:=by
 unfold iA at h
 rcases i with ⟨b,g,c⟩|⟨b,rfl⟩
 . rw[if_pos b]at h
   unfold kq at h
   rw[g]at h
   obtain⟨u,d,f⟩:=h
   have e:=(c w).symm.trans (d w)
   simp only[Result.ok.injEq,Next.value.injEq,and_true]at e
   rw[e];exact f
 . rw[if_neg (by rw[b];decide)]at h;exact h
def uJ:Op->Bool
 | .select _ _=>false
 | _=>true
theorem JX{op:Op}(h:uJ op=true):∀ cs b,op ≠ .select cs b:=by intro cs b e;subst e;cases h
structure Ap (ops:Array Oper) (x y:Oper):Prop where
 xy:∀ d,x.dst=some d->d∉y.looksAt ops
 ne:∀ d,x.dst=some d->y.dst≠some d
 yx:∀ d,y.dst=some d->d∉x.looksAt ops
 sx:uJ x.op=true
 sy:uJ y.op=true
 dx:mc x.op=true
 dy:mc y.op=true
theorem Ap.symm(h:Ap ops x y):Ap ops y x:=⟨h.yx,fun d hd e=>h.ne d e hd,h.xy,h.sy,h.sx,h.dy,h.dx⟩
theorem Ap.wn(h:Ap ops x y)(v:Value):wn ops y (a.put x.dst v)=wn ops y a:=by unfold Go.Sx.wn;rw[wanted_put y a x.dst v h.xy]
theorem Ap.ex(h:Ap ops x y)(v:Value):execOp (a.put x.dst v).eval y=execOp a.eval y:=execOp_put y (JX h.sy) a x.dst v h.xy
theorem Ap.mA(h:Ap ops x y)(v u:Value):(a.put x.dst v).put y.dst u=(a.put y.dst u).put x.dst v:=Act.put_comm a v u h.ne
theorem Ap.y0(h:Ap ops x y):Y0 P ops y u (a.put x.dst v)↔Y0 P ops y u a:=by unfold Y0;rw[h.wn,h.ex]
theorem Ap.y1(h:Ap ops x y):Y1 P ops y u (a.put x.dst v) w↔Y1 P ops y u a w:=by unfold Y1;rw[h.wn,h.ex]
theorem FP{ρ:Operand->Value}(h:mc o.op=true):o.semAt r ρ=execOp ρ o:=semAt_eq (wz h)
theorem HR(op:Op):cat op=0\/cat op=1\/cat op=2\/cat op=3:=by
 unfold cat
 split<;>simp
def DR(P:Program)(ops:Array Oper)(x:Oper)(a a' : Act):Prop:=(∀ v,Y0 P ops x v a↔Y0 P ops x v a')/\wn ops x a' = wn ops x a
theorem Ap.upon(h:Ap ops x y)(j:NP Q){z:Result Next}(b:y.uponIn (FW r) 0 P (a.put x.dst v) K Q z):y.uponIn (FW r) 0 P a (fun a' w' => K (a'.put x.dst v) w' /\ DR P ops x a a') Q z:=by
 have i:∀ u,DR P ops x a (a.put y.dst u):=fun u=>⟨fun v=>(h.symm.y0).symm,h.symm.wn u⟩
 cases z with
 | ok nx w' =>
  cases nx<;>simp only[Oper.uponIn]at b ⊢
  case value u=>exact⟨by rw[<-h.mA];exact b,i u⟩
  case skip=>exact⟨by rw[<-h.mA];exact b,i _⟩
  case defer d =>
   refine⟨?_,fun v=>?_,?_⟩
   . rw[Act.put_defers a x.dst v d]at b
     rw[<-h.mA];exact b
   . rw[h.symm.y0];exact Iff.rfl
   . rw[h.symm.wn];rfl
  case enter f args =>
   refine⟨b.1,CallsIn.mono b.2 fun e k g=>?_⟩
   cases e with
   | returned u=>exact⟨by rw[<-h.mA];exact g,i u⟩
   | panicked c=>exact absurd g (j.np _ _ _)
   | outgrown=>exact g
  case row row args=>exact⟨b.1,RowsIn.mono b.2 fun u k g=>⟨by rw[<-h.mA];exact g,i u⟩⟩
  case round l f tmps assign body =>
   refine⟨b.1,RoundIn.mono b.2 fun e k g=>?_⟩
   cases e with
   | returned u=>exact⟨by rw[<-h.mA];exact g,i u⟩
   | panicked c=>exact absurd g (j.np _ _ _)
   | outgrown=>exact g
 | halt z w' => cases z<;>simp only[Oper.uponIn]at b ⊢ <;> exact absurd b (j.np _ _ _)
theorem Ap.act(h:Ap ops x y)(g:cat y.op=2->NP Q)(b:cat y.op=2\/cat y.op=3)(c:kq r P Q y K (a.put x.dst v) w):kq r P Q y (fun a' w' => K (a'.put x.dst v) w' /\ DR P ops x a a') a w:=by
 have f:∀ u,DR P ops x a (a.put y.dst u):=fun u=>⟨fun v=>(h.symm.y0).symm,h.symm.wn u⟩
 unfold kq at *
 rcases b with b|b<;>rw[b]at c<;>rw[b]
 . rw[FP h.dy,h.ex]at c
   rw[FP h.dy]
   exact h.upon (g b) c
 . rw[h.ex]at c
   obtain⟨z,w', e,⟨u,rfl,d⟩|⟨rfl,d⟩⟩:=c
   . exact⟨_,w', e,.inl ⟨u,rfl,by rw[<-h.mA];exact d,f u⟩⟩
   . exact⟨_,w', e,.inr ⟨rfl,by rw[<-h.mA];exact d,f _⟩⟩
theorem Ap.back(h:Ap ops x y)(k:cat y.op=2->NP Q)(j:cat y.op=2\/cat y.op=3)(o:Y0 P ops x v a)(b:kq r P Q y (iA r P ops Q x K) a w):kq r P Q y K (a.put x.dst v) w:=by
 have i:∀ u,Y0 P ops x v (a.put y.dst u):=fun u=>(h.symm.y0).2 o
 unfold kq at *
 rcases j with j|j<;>rw[j]at b<;>rw[j]
 . rw[FP h.dy]at b
   rw[FP h.dy,h.ex]
   have k:=k j
   generalize (execOp a.eval y).run P w=z at *
   cases z with
   | ok nx w' =>
    cases nx<;>simp only[Oper.uponIn]at b ⊢
    case value u=>rw[h.mA];exact(i u).vP b
    case skip=>rw[h.mA];exact(i _).vP b
    case defer d =>
     rw[Act.put_defers a x.dst v d,h.mA]
     refine Y0.vP ?_ b
     exact(h.symm.y0 (a:={ a with defers:=d :: a.defers })).2 o
    case enter f args =>
     refine⟨b.1,CallsIn.mono b.2 fun e p g=>?_⟩
     cases e with
     | returned u=>show K _ _;rw[h.mA];exact(i u).vP g
     | panicked c=>exact absurd g (k.np _ _ _)
     | outgrown=>exact g
    case row row args=>exact⟨b.1,RowsIn.mono b.2 fun u p g=>by rw[h.mA];exact(i u).vP g⟩
    case round l f tmps assign body =>
     refine⟨b.1,RoundIn.mono b.2 fun e p g=>?_⟩
     cases e with
     | returned u=>show K _ _;rw[h.mA];exact(i u).vP g
     | panicked c=>exact absurd g (k.np _ _ _)
     | outgrown=>exact g
   | halt z w' => cases z<;>simp only[Oper.uponIn]at b ⊢ <;> exact absurd b (k.np _ _ _)
 . rw[h.ex]
   obtain⟨z,w', n,⟨u,rfl,m⟩|⟨rfl,m⟩⟩:=b
   . exact⟨_,w', n,.inl ⟨u,rfl,by rw[h.mA];exact(i u).vP m⟩⟩
   . exact⟨_,w', n,.inr ⟨rfl,by rw[h.mA];exact(i _).vP m⟩⟩
theorem kq.ends(h:cat y.op=2->NP Q)(hd:mc y.op=true)(i:cat y.op=2\/cat y.op=3)(g:kq r P Q y K a w):∃ a' w', K a' w' /\ (∃ u,a' = a.put y.dst u\/∃ d,a' = { a with defers:=d :: a.defers }.put y.dst u):=by
 unfold kq at *
 rcases i with i|i<;>rw[i]at g
 . have h:=h i
   generalize (y.semAt r a.eval).run P w=z at *
   cases z with
   | ok nx w' =>
    cases nx<;>simp only[Oper.uponIn]at g
    case value u=>exact⟨_,_,g,u,.inl rfl⟩
    case skip=>exact⟨_,_,g,_,.inl rfl⟩
    case defer d=>exact⟨_,_,g,_,.inr ⟨d,rfl⟩⟩
    case enter f args =>
     obtain⟨e,k, m,b,_⟩:=g.2.2 [] (GV _ _)
     cases e with
     | returned u=>exact⟨_,_,b,u,.inl rfl⟩
     | panicked c=>exact absurd b (h.np _ _ _)
     | outgrown=>obtain⟨a,w,b⟩:=b;exact absurd b (h.no _ _)
    case row row args =>
     obtain⟨u,k, b,_⟩:=g.2 default [] (GV _ _)
     exact⟨_,_,b,u,.inl rfl⟩
    case round l f tmps assign body =>
     obtain⟨e,k, b,_⟩:=g.2.2 default [] (GV _ _)
     cases e with
     | returned u=>exact⟨_,_,b,u,.inl rfl⟩
     | panicked c=>exact absurd b (h.np _ _ _)
     | outgrown=>obtain⟨a,w,b⟩:=b;exact absurd b (h.no _ _)
   | halt z w' => cases z<;>simp only[Oper.uponIn]at g<;>exact absurd g (h.np _ _ _)
 . obtain⟨z,w', n,⟨u,rfl,j⟩|⟨rfl,j⟩⟩:=g
   . exact⟨_,_,j,u,.inl rfl⟩
   . exact⟨_,_,j,_,.inl rfl⟩
def rJ(x y:Op):Bool:=bif Nat.ble (cat x) 1 then(Nat.ble (cat y) 1||Nat.beq (cat x) 0)else Nat.beq (cat y) 0
theorem swap(h:Ap ops x y)(hk:rJ x.op y.op=true)(l:cat x.op=2->NP Q)(q:cat y.op=2->NP Q)(f:iA r P ops Q x (iA r P ops Q y K) a w):iA r P ops Q y (iA r P ops Q x K) a w:=by
 have s:∀ o:Oper,Nat.ble (cat o.op) 1=true->cat o.op=0\/cat o.op=1:=fun o h=>by have:=oV h;omega
 have j:∀ o:Oper,¬ (cat o.op=0\/cat o.op=1)->cat o.op=2\/cat o.op=3:=fun o h=>by rcases HR o.op with b|b|b|b<;>simp_all
 by_cases hx:cat x.op=0\/cat x.op=1
 . obtain⟨v,hv,c⟩:=f.get hx
   by_cases i:cat y.op=0\/cat y.op=1
   . obtain⟨u,e,k⟩:=c.get i
     refine iA.mk (v:=u) ?_ (iA.mk (v:=v) ?_ (by rw[<-h.mA];exact k))
     . rw[h.y0,h.y1]at e;exact e
     . rw[h.symm.y0,h.symm.y1];exact hv
   . have n:Y0 P ops x v a:=by
      rcases hv with hv|hv
      . exact hv
      . exfalso
        have b:=hv.2.1
        rcases j y i with c|c<;>simp[rJ,b,c]at hk
     unfold iA at c
     rw[h.wn]at c
     unfold iA
     split<;>rename_i g
     . rw[if_pos g]at c
       refine(h.act q (j y i) c).mono fun a' w' ⟨k,p⟩=>?_
       exact iA.mk (.inl ((p.1 v).1 n)) k
     . rw[if_neg g]at c
       exact iA.mk (.inl ((h.symm.y0).2 n)) (by rw[<-h.mA];exact c)
 . have i:cat y.op=0:=by
    rcases j x hx with b|b<;>simpa[rJ,b]using hk
   unfold iA at f
   cases g:wn ops x a with
   | false =>
    rw[if_neg (by rw[g];decide)]at f
    obtain⟨u,e,k⟩:=iA.get (.inl i) f
    rw[h.y0,h.y1]at e
    refine iA.mk e (iA.mk (v:=undef) (.inl (.inr ⟨?_,rfl⟩)) (by rw[<-h.mA];exact k))
    rw[h.symm.wn];exact g
   | true =>
    rw[if_pos g]at f
    obtain⟨a', w', b,t,c⟩:=f.ends l h.dx (j x hx)
    have b:iA r P ops Q y K a' w' := b
    obtain⟨u,e,_⟩:=b.get (.inl i)
    have m:Y0 P ops y u a:=by
     have:Y0 P ops y u a' := by
      rcases e with e|e
      . exact e
      . exact absurd (e.2.1.symm.trans i) d_
     rcases c with rfl|⟨d,rfl⟩
     . exact h.y0.1 this
     . exact(h.y0 (a:={ a with defers:=d :: a.defers })).1 this
    refine iA.mk (.inl m) ?_
    unfold iA
    rw[h.symm.wn,if_pos g]
    exact h.symm.back l (j x hx) m f
def r0(r:Option Nat)(P:Program)(ops:Array Oper)(Q:Exit->Act->World->Prop):List Nat->Act->World->Prop
 | [],a,w=>Q .normal a w
 | i :: is,a,w=>match ops[i]? with
  | none=>r0 r P ops Q is a w
  | some o=>iA r P ops Q o (r0 r P ops Q is) a w
theorem ahw(l:List Oper):∀ (k:Nat) (a:Act) (w:World),(∀ j,l[j]? = ops[k+j]?)->wl r P ops Q l a w->r0 r P ops Q (List.range' k l.length) a w:=by
 induction l with
 | nil=>intro k a w _ h;exact h
 | cons o l d =>
  intro k a w b h
  have c:ops[k]? = some o:=by simpa using(b 0).symm
  rw[ze,List.range'_succ]
  unfold r0
  rw[c]
  rw[Gh]at h
  exact h.mono fun a w=>d (k+1) a w (fun j=>by have:=b (j+1);simpa[kD,Nat.add_comm 1 j]using this)
theorem pull{i:Nat}(hi:ops[i]? = some y)(c:(∃ o∈ops.toList,cat o.op=2)->NP Q)(L2:List Nat):∀ (L1:List Nat) (a:Act) (w:World),(∀ j∈L1,∀ x,ops[j]? = some x->Ap ops x y/\rJ x.op y.op=true) ->
 r0 r P ops Q (L1++i :: L2) a w->iA r P ops Q y (r0 r P ops Q (L1++L2)) a w:=by
 intro L1
 induction L1 with
 | nil=>intro a w _ h;simp only[rq]at h ⊢;unfold r0 at h;rw[hi]at h;exact h
 | cons j L1 g =>
  intro a w d h
  have f : ∀ k∈L1,∀ x,ops[k]? = some x->Ap ops x y/\rJ x.op y.op=true:=fun k b=>d k (lV _ b)
  simp only[ng]at h ⊢
  unfold r0 at h
  have mem:∀ {k:Nat} {o:Oper},ops[k]? = some o->o∈ops.toList:=fun b=>by simpa using Array.mem_of_getElem? b
  cases hj:ops[j]? with
  | none =>
   rw[hj]at h
   refine(g a w f h).mono fun a w h=>?_
   unfold r0;rw[hj];exact h
  | some x =>
   rw[hj]at h
   obtain⟨l,m⟩:=d j za x hj
   have n:=swap l m (fun e=>c ⟨x,mem hj,e⟩) (fun e=>c ⟨y,mem hi,e⟩) (h.mono fun a w h=>g a w f h)
   refine n.mono fun a w h=>?_
   unfold r0;rw[hj];exact h
end
def Ut(s t:List Nat):List Nat:=t.foldl (fun s i=>bif s.contains i then s else i :: s) s
def FD:List Oper->List (List Nat)->List (List Nat)
 | [],acc=>acc
 | o :: l,acc=>FD l (acc++[o.after.toList.foldl (fun s e=>bif Region.binds .any e then Ut s (e.on :: acc.getD e.on [])else s) []])
def zZ(ops:Array Oper)(x y:Oper):Bool:=uJ x.op&&uJ y.op&&mc x.op&&mc y.op&&rJ x.op y.op&&x.apart ops y
theorem UI{ops:Array Oper}{x y:Oper}(h:zZ ops x y=true):Ap ops x y/\rJ x.op y.op=true:=by
 simp only[zZ,lW]at h
 obtain⟨⟨⟨⟨⟨d,e⟩,f⟩,g⟩,i⟩,j⟩:=h
 obtain⟨a,b,c⟩:=Oper.apart_spec j
 exact⟨⟨a,b,c,d,e,f,g⟩,i⟩
def AN(ops:Array Oper)(pre:List (List Nat)):List Oper->Nat->List Oper->Bool
 | _,_,[]=>true
 | before,j,y :: l=>(goP ops (pre.getD j []) y before 0)&&AN ops pre (before++[y]) (j+1) l
where goP (ops:Array Oper) (a:List Nat) (y:Oper):List Oper->Nat->Bool
 | [],_=>true
 | x :: l,i=>(a.contains i||zZ ops x y)&&goP ops a y l (i+1)
theorem PF{ops:Array Oper}{a:List Nat}{y:Oper}:∀ (l:List Oper) (b:Nat),AN.goP ops a y l b=true->∀ i x,l[i]? = some x->a.contains (b+i)=true\/zZ ops x y=true
 | [],_,_,i,x,hx=>by simp at hx
 | z :: l,b,h,i,x,hx=>by
  simp only[AN.goP,lW,zB]at h
  cases i with
  | zero=>simp at hx;subst hx;exact h.1
  | succ i =>
   have:=PF l (b+1) h.2 i x (by simpa using hx)
   rw[show b+(i+1)=b+1+i by omega];exact this
theorem Rp{ops:Array Oper}{pre:List (List Nat)}:∀ (l before:List Oper) (k:Nat),k=before.length->AN ops pre before k l=true ->
 ∀ i j x y,before.length<=j->i<j->(before++l)[i]? = some x->(before++l)[j]? = some y->(pre.getD j []).contains i=true\/zZ ops x y=true
 | [],before,k,_,_,i,j,x,y,hj,_,_,hy=>by simp at hy;have:=(zg.1 hy).1;omega
 | z :: l,before,k,hk,h,i,j,x,y,hj,hij,hx,hy=>by
  simp only[AN,lW]at h
  by_cases e:j=before.length
  . subst e
    rw[Dt (zk _)]at hy
    simp at hy
    subst hy
    rw[rm hij]at hx
    have:=PF before 0 h.1 i x hx
    rw[hk]at this
    simpa using this
  . exact Rp l (before++[z]) (k+1) (by simp[hk]) h.2 i j x y (by simp;omega) hij (by simpa using hx) (by simpa using hy)
def Fz(l:List Oper):Bool:=let p:=FD l [];CS l p&&(l.zipIdx.all fun q=>q.1.after.toList.all fun e => !Region.binds .any e||decide (e.on<q.2))&&AN l.toArray p [] 0 l
def xI(l:List Oper):Bool:=l.any fun o=>Nat.beq (cat o.op) 2
section
variable {r:Option Nat} {P:Program} {Q:Exit->Act->World->Prop} {l:List Oper} {a:Act} {w:World}
theorem ado{id:Nat}(hm:P.follows .mixedOrders=true)(K:Fz l=true)(s:xI l=false\/NP Q)(h:wl r P l.toArray Q l a w.drew):WP r P (.region id l.toArray true) Q a w:=by
 simp only[Fz,lW]at K
 obtain⟨⟨ae,V⟩,ad⟩:=K
 have T : (∃ o∈l.toArray.toList,cat o.op=2)->NP Q:=fun⟨o,p,g⟩=>by
  rcases s with s|s
  . have f:xI l=true:=DI.2 ⟨o,by simpa using p,by show Nat.beq (cat o.op) 2=true;rw[g];rfl⟩
    rw[s]at f;cases f
  . exact s
 have R:∀ (j:Nat) (o:Oper),l[j]? = some o->∀ e∈o.after,Region.binds .any e=true->e.on<j:=by
  intro j o c e k hb
  have f:=zn.1 V (o,j) (by rw[List.mem_zipIdx_iff_getElem?];exact c)
  have m:=zn.1 f e (by simpa using k)
  simpa[hb]using m
 have ah:∀ i j x y,i<j->l[i]? = some x->l[j]? = some y->((FD l []).getD j []).contains i=true\/zZ l.toArray x y=true:=fun i j x y Z B hy =>
  Rp l [] 0 rfl ad i j x y (mZ _) Z (by simpa using B) (by simpa using hy)
 refine wpIn_region_any hm ?_
 have ai:l.toArray.size=l.length:=by simp
 let d:Array Bool->Nat->Bool:=fun b i=>b.getD i false
 let rem:Array Bool->List Nat:=fun b=>(List.range l.length).filter fun i => !d b i
 have af:∀ (fuel:Nat) (b:Array Bool) (a:Act) (w:World),b.size=l.length->(rem b).length<=fuel->Down l (d b)->r0 r P l.toArray Q (rem b) a w ->
  wpAnyIn (FW r) 0 P .any l.toArray Q fuel b a w:=by
  intro fuel
  have ag:∀ (b:Array Bool),b.size=l.length->Region.ready .any l.toArray b=[]->rem b=[]:=by
   intro b hs t
   have all:∀ i,i<l.length->d b i=true:=by
    intro i
    induction i using Nat.strongRecOn with
    | _ i C =>
     intro hi
     cases g:d b i with
     | true=>rfl
     | false =>
      exfalso
      have:i∈Region.ready .any l.toArray b:=by
       rw[mem_ready]
       refine⟨?_,l[i],by simp[hi],fun e k hb=>?_⟩
       . have:i<b.size:=by omega
         simp only[d]at g
         simp[this]at g ⊢
         exact g
       . have m:=R i l[i] (zj hi) e k hb
         exact C e.on m o_
      rw[t]at this
      cases this
   simp only[rem,GK,z6]
   intro i hi
   rw[all i hi];decide
  induction fuel with
  | zero =>
   intro b a w hs g hd h
   have k:rem b=[]:=tT o_
   rw[k]at h
   refine⟨?_,h⟩
   cases t:Region.ready .any l.toArray b with
   | nil=>rfl
   | cons i rs =>
    exfalso
    have J : i∈Region.ready .any l.toArray b:=by rw[t];simp
    rw[mem_ready]at J
    obtain⟨f,o,p,_⟩:=J
    have hi:i<l.length:=by simpa using(nW.1 p).1
    have:i∈rem b:=by
     simp only[rem,z8,z6,d]
     have Y : i<b.size:=by omega
     refine⟨hi,?_⟩
     simp[Y]at f ⊢
     exact f
    rw[k]at this
    cases this
  | succ fuel C =>
   intro b a w hs g hd h
   refine⟨fun t=>by rw[ag b hs t]at h;exact h,fun i hi=>?_⟩
   obtain⟨M,o,p,X⟩:=mem_ready.1 hi
   have z : l[i]? = some o:=by simpa using p
   have G:i<l.length:=(zg.1 z).1
   have H : i<b.size:=by omega
   have U:d b i=false:=by
    simp only[d];simp[H]at M ⊢;exact M
   have u : ∀ j,d (b.setIfInBounds i true) j=(d b j||j==i):=fun j=>EU b i j H
   have F : Down l (d (b.setIfInBounds i true)):=⟨fun j O c D e k hb=>by
    rw[u]at D ⊢
    rcases ve.1 D with h|h
    . rw[show d b e.on=true from hd.closed j O c h e k hb];rfl
    . have:j=i:=by simpa using h
      subst this
      have:O=o:=Option.some.inj (c.symm.trans z)
      subst this
      rw[show d b e.on=true from X e k hb];rfl⟩
   have ac:i∈rem b:=by simp only[rem,z8,z6];exact⟨G,by rw[U];rfl⟩
   obtain⟨L1,L2,q⟩:=DD ac
   have A:(rem b).Pairwise (· < ·):=List.Pairwise.filter _ (GL)
   rw[q]at A
   have v:∀ j∈L1,j<i:=fun j c=>(LP.1 A).2.2 j c i za
   have ab:∀ j∈L2,i<j:=fun j c=>(sZ.1 (LP.1 A).2.1).1 j c
   have L:rem (b.setIfInBounds i true)=L1++L2:=by
    have e1:rem (b.setIfInBounds i true)=(rem b).filter fun j => !(j==i):=by
     simp only[rem,List.filter_filter]
     refine wZ fun j _=>?_
     rw[u]
     cases d b j<;>cases (j==i)<;>rfl
    rw[e1,q,vh,qx]
    simp only[BEq.rfl,DK,Bool.false_eq_true,if_false]
    rw[tV.2 (fun j c=>by have:=v j c;simp;omega),tV.2 (fun j c=>by have:=ab j c;simp;omega)]
   have W:∀ j∈L1,∀ x,l.toArray[j]? = some x->Ap l.toArray x o/\rJ x.op o.op=true:=by
    intro j c x B
    have I:j∈rem b:=by rw[q];simp[c]
    simp only[rem,z8,z6]at I
    rcases ah j i x o (v j c) (by simpa using B) z with f|f
    . exfalso
      have:=AP ae F i (by rw[u];simp) G j f
      rw[u]at this
      have m:d b j=false:=by simpa using I.2
      have n:(j==i)=false:=by have:=v j c;simp;omega
      rw[m,n]at this
      cases this
    . exact UI f
   rw[q]at h
   have m:=pull (i:=i) p T L2 L1 a w W h
   have aa:(rem (b.setIfInBounds i true)).length<=fuel:=by
    rw[L];rw[q]at g;simp at g ⊢;omega
   have n:iA r P l.toArray Q o (wpAnyIn (FW r) 0 P .any l.toArray Q fuel (b.setIfInBounds i true)) a w :=
    m.mono fun a' w' h=>C (b.setIfInBounds i true) a' w' (by simpa using hs) aa F (by rw[L];exact h)
   unfold wpOpIn
   rw[p]
   unfold iA at n
   show if Region.wanted o (yielded l.toArray a.tmps)=true then _ else _
   split<;>rename_i N
   . rw[if_pos (show wn l.toArray o a=true from N)]at n
     exact⟨fun _ _=>trivial,n.upon⟩
   . rw[if_neg (show ¬ wn l.toArray o a=true from N)]at n
     exact⟨fun _ _=>trivial,n⟩
 have S:r0 r P l.toArray Q (List.range l.length) a w.drew:=by
  rw[List.range_eq_range']
  exact ahw l 0 a _ (fun j=>by simp) h
 have E:rem (Array.replicate l.toArray.size false)=List.range l.length:=by
  simp only[rem,tV,z6]
  intro i hi
  show (!d (Array.replicate l.toArray.size false) i)=true
  simp only[d,tB]
  rfl
 refine af _ _ a _ s_ (by rw[E];simp) ⟨fun j o _ c=>?_⟩ (by rw[E];exact S)
 simp only[d,tB]at c
 cases c
theorem Kp{id n:Nat}{s:List (Nat×Value)}{ds:List Deferred}{bs:List (World×List Nat)}{L:List fU}(hm:P.follows .mixedOrders=true)(c:St bs L w)(K:∀ w', St bs L w' -> WL r P l.toArray Q l (Fr n s ds) w')(b:Fz l=true)(a:xI l=false\/NP Q) :
 WP r P (.region id l.toArray true) Q (Fr n s ds) w:=ado hm b a (K _ (c.grow (gx.drew [] w))).out
end
end Go.Sx
namespace Go.Sx
open Go
section
variable {r:Option Nat} {P:Program} {ops:Array Oper} {Q:Exit->Act->World->Prop} {rest:List Oper} {n:Nat} {s:List (Nat×Value)} {ds:List Deferred} {w:World}
variable {d:Nat} {dd:Option Nat} {ty t:TypeId} {pos:String} {af:Array Edge} {g:Option (Nat×Bool)} {x:Operand} {cs:Array Value} {v:Value} {i:Nat} {u:TypeDesc}
theorem YT{a:Array Field}{f:Field}(h:ev n s x = .agg cs)(e:P.underlying t=some (.struct a))(c:a[i]? = some f)(b:P.underlying f.type=some u)(d:j4 u=false)(hv:cs[f.offset]? = some v) :
 (execOp (ev n s) ⟨dd,.field t x i,ty,pos,af,g⟩).run P w = .ok (.value v) w:=by
 simp[execOp,h,Instr.field,asAgg,run_underlying e,c,part,wJ b,d,hv]
theorem Py{a:Array Field}{f:Field}(e:gB ops n s g=true)(k:ev n s x = .agg cs)(j:P.underlying t=some (.struct a))(c:a[i]? = some f)(b:P.underlying f.type=some u)(h:j4 u=false)(hv:cs[f.offset]? = some v)
 (K:WL r P ops Q rest (Fr n ((d,v) :: s) ds) w):WL r P ops Q (⟨some d,.field t x i,ty,pos,af,g⟩ :: rest) (Fr n s ds) w:=pw e (fun _=>YT k j c b h hv) K
end
end Go.Sx
namespace Go.Sx
open Go
section
variable {r:Option Nat} {P:Program} {ops:Array Oper} {Q:Exit->Act->World->Prop} {rest:List Oper} {n:Nat} {s:List (Nat×Value)} {ds:List Deferred} {w:World}
variable {d:Nat} {dd:Option Nat} {ty t t' e:TypeId} {pos:String} {af:Array Edge} {g:Option (Nat×Bool)} {x y:Operand} {a:Option Addr} {c:Bool}
theorem Sn(k:Nat)(b:P.underlying t=some (.pointer e)):(Op.equalIn (k+1) t (.pointer a) (.pointer none)).run P w = .ok a.isNone w:=by
 cases a<;>simp[Op.equalIn,run_underlying b]
theorem Yx(f:ev n s x = .pointer a)(h:ev n s y = .pointer none)(d:P.underlying t=some (.pointer e))(b:a.isNone=c) :
 (execOp (ev n s) ⟨dd,.binOp .eql t x y t', ty,pos,af,g⟩).run P w = .ok (.value (.bool c)) w:=by
 subst b
 simp[execOp,f,h,eqGuard,binOp,Op.equal,Op.maxDepth,Sn 9999 d]
theorem uz(f:gB ops n s g=true)(i:ev n s x = .pointer a)(j:ev n s y = .pointer none)(h:P.underlying t=some (.pointer e))(b:a.isNone=c)
 (K:WL r P ops Q rest (Fr n ((d,.bool c) :: s) ds) w):WL r P ops Q (⟨some d,.binOp .eql t x y t', ty,pos,af,g⟩ :: rest) (Fr n s ds) w:=pw f (fun _=>Yx i j h b) K
theorem abL(f:ev n s x = .pointer a)(h:ev n s y = .pointer none)(d:P.underlying t=some (.pointer e))(b:(!a.isNone)=c) :
 (execOp (ev n s) ⟨dd,.binOp .neq t x y t', ty,pos,af,g⟩).run P w = .ok (.value (.bool c)) w:=by
 subst b
 simp[execOp,f,h,eqGuard,binOp,Op.equal,Op.maxDepth,Sn 9999 d]
theorem lS(f:gB ops n s g=true)(i:ev n s x = .pointer a)(j:ev n s y = .pointer none)(h:P.underlying t=some (.pointer e))(b:(!a.isNone)=c)
 (K:WL r P ops Q rest (Fr n ((d,.bool c) :: s) ds) w):WL r P ops Q (⟨some d,.binOp .neq t x y t', ty,pos,af,g⟩ :: rest) (Fr n s ds) w:=pw f (fun _=>abL i j h b) K
end
section
variable {P:Program} {n:Nat} {s:List (Nat×Value)} {w w0:World} {fn:Func} {bs:List (World×List Nat)} {L:List fU} {x:ResultVar} {v:Value} {b:Nat} {T:TypeId} {cs:List Value}
theorem St.Ks(h:St bs L w)(hb:(w0,[])∈bs)(a:(blk b T cs).holds w0):(blk b T cs).holds w :=
 (h.keep hb (nW.1 a).1 s_).trans a
end
end Go.Sx
