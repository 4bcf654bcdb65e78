/- Plain lemmas: rules for walking through code, one for each operation, over any program; an evaluator of closed calls with its soundness; and plain mathematics. No conditions. -/
import Derived.WalkKit
import Derived.TacticsIn
import Derived.RangeFuncIn
import Derived.Shelf.Abstract
import Derived.Laws.CopyOwn
import Derived.OrdersIn
import Derived.WalkSpells
import Derived.Lib.SliceRun
import Derived.RecoverIn
import Derived.WideLaws
import Derived.RangeFuncRecord
import Derived.ControlIn
import Derived.KernelRfl
set_option linter.unusedVariables false
set_option linter.unusedSectionVars false
set_option linter.unusedSimpArgs false
namespace Go.Sx
open Go
abbrev za:=@List.mem_cons_self
abbrev zb:=@List.length_cons
abbrev zd:=@List.mem_of_getElem?
abbrev ze:=@List.mem_cons
abbrev zg:=@List.length_nil
abbrev zh:=@List.getElem?_eq_some_iff
abbrev zj:=@Nat.le_refl
abbrev zk:=@List.all_eq_true
abbrev zm:=@List.getElem?_eq_getElem
abbrev zn:=@List.mem_append
abbrev zo:=@Result.andThen_ok
abbrev zp:=@List.length_append
abbrev zq:=@List.length_map
abbrev zr:=@List.nodup_append
abbrev zt:=@Sem.run_bind
abbrev zu:=@List.nodup_cons
abbrev zw:=@List.length_take
abbrev zx:=@List.getElem?_map
abbrev zy:=@List.mem_map
abbrev zz:=@Sem.run_pure
abbrev z6:=@List.mem_filter
abbrev z7:=@List.flatMap_cons
abbrev z8:=@List.mem_singleton
abbrev kz:=@Nat.le_trans
abbrev qg:=@Array.getElem?_eq_some_iff
abbrev mW:=@List.ext_getElem?
abbrev mC:=@Bool.and_eq_true
abbrev ox:=@List.getElem?_range
abbrev nu:=@List.length_range
abbrev oS:=@List.mem_cons_of_mem
abbrev pK:=@List.getElem?_eq_none
abbrev lU:=@List.mem_range
abbrev pL:=@Nat.le_of_ble_eq_true
abbrev oB:=@Nat.lt_of_lt_of_le
abbrev nT:=@Int.toNat_natCast
abbrev qh:=@List.length_replicate
abbrev lV:=@List.map_cons
abbrev lW:=@Nat.add_assoc
abbrev rD:=@List.getElem?_replicate
abbrev lD:=@Nat.zero_le
abbrev qG:=@List.perm_append_comm
abbrev oT:=@List.append_assoc
abbrev oU:=@List.take_add_one
abbrev lX:=@Nat.zero_add
abbrev oV:=@List.not_mem_nil
abbrev qH:=@List.filter_sublist
abbrev qI:=@List.filter_append
abbrev uo:=@Array.getElem?_eq_getElem
abbrev uq:=@List.pairwise_iff_getElem
abbrev rC:=@List.filterMap_cons
abbrev s9:=@List.singleton_sublist
abbrev um:=@List.sublist_append_left
abbrev xo:=@List.eq_nil_of_length_eq_zero
abbrev tc:=@List.length_filter_le
abbrev tf:=@List.take_append_drop
abbrev qd:=@List.map_append
abbrev qF:=@List.cons_append
abbrev tg:=@Array.length_toList
abbrev tj:=@Bool.or_eq_true_iff
abbrev rE:=@List.mem_flatMap
abbrev ur:=@List.mem_append_left
abbrev rF:=@List.range_succ
abbrev pM:=@Nat.add_zero
abbrev uu:=@List.getElem?_take
abbrev uw:=@List.pairwise_cons
abbrev tq:=@List.take_length
abbrev zJ:=@List.drop_eq_getElem_cons
abbrev ux:=@List.filter_congr
abbrev vC:=@Nat.add_sub_cancel
abbrev uy:=@List.filter_cons
abbrev uz:=@List.perm_middle
abbrev vD:=@List.getElem?_set
abbrev uA:=@List.nil_append
abbrev zK:=@Array.getElem?_toList
abbrev zL:=@List.mem_append_right
abbrev zM:=@Nat.eq_of_beq_eq_true
abbrev rG:=@Nat.add_mul
abbrev zN:=@Nat.mul_le_mul_right
abbrev vE:=@Option.map_some
abbrev zO:=@List.filter_eq_self
abbrev zP:=@List.getElem_of_mem
abbrev BF:=@List.filter_eq_nil_iff
abbrev BG:=@List.take_of_length_le
abbrev sD:=@Nat.mul_one
abbrev xw:=@List.nodup_range
abbrev BB:=@List.getElem?_toArray
abbrev Dq:=@List.getElem?_append_left
abbrev GK:=@List.eraseIdx_eq_take_drop_succ
abbrev xq:=@List.append_nil
abbrev Dr:=@List.getElem?_take_of_lt
abbrev Dt:=@List.length_erase_of_mem
abbrev xu:=@Nat.min_eq_left
abbrev BC:=@List.countP_eq_zero
abbrev BD:=@Nat.mul_le_mul_left
abbrev BE:=@List.append_of_mem
abbrev BI:=@Nat.eq_zero_or_pos
abbrev Dw:=@Array.getElem?_modify
abbrev zQ:=@Bool.or_eq_true
abbrev Dx:=@List.length_singleton
abbrev GM:=@List.exists_mem_of_ne_nil
abbrev Ml:=@List.set_eq_take_append_cons_drop
abbrev BJ:=@List.countP_cons
abbrev BK:=@List.length_drop
abbrev BL:=@Nat.div_add_mod'
abbrev Dy:=@List.map_congr_left
abbrev GN:=@List.filter_cons_of_pos
abbrev GO:=@List.length_eq_zero_iff
abbrev Dz:=@List.getElem?_drop
abbrev DA:=@List.getLast?_cons
abbrev DB:=@List.mem_replicate
abbrev GP:=@List.drop_of_length_le
abbrev GQ:=@List.length_pos_of_mem
abbrev Mm:=@List.take_append_of_le_length
abbrev DC:=@List.foldl_append
abbrev Mn:=@Array.getElem?_setIfInBounds
abbrev BM:=@List.nodup_nil
abbrev GR:=@List.getElem?_append
abbrev GS:=@List.mem_iff_getElem
abbrev GU:=@List.mem_of_getLast?
abbrev DD:=@Nat.testBit_succ
abbrev Mo:=@Array.getElem?_append_left
abbrev Md:=@Array.toList_setIfInBounds
abbrev Me:=@Int.tmod_eq_emod_of_nonneg
abbrev Mh:=@List.getElem?_append_right
abbrev Du:=@Int.emod_nonneg
abbrev Mi:=@List.getLast?_eq_none_iff
abbrev Mj:=@List.mem_or_eq_of_mem_set
abbrev Mk:=@List.sublist_append_right
abbrev Dv:=@Nat.one_ne_zero
abbrev GL:=@List.filter_filter
abbrev BH:=@List.map_nil
abbrev GV:=@List.mem_filterMap
abbrev BN:=@Nat.lt_or_ge
abbrev DE:=@Bool.xor_false
abbrev GX:=@Bool.not_eq_true'
abbrev GY:=@Nat.le_succ_of_le
abbrev GZ:=@Nat.lt_trichotomy
abbrev BO:=@Int.le_refl
abbrev Mp:=@List.sublist_cons_self
abbrev G0:=@List.map_toArray
abbrev Mq:=@Array.getElem?_mapIdx
abbrev Mr:=@List.countP_le_length
abbrev Ms:=@List.filterMap_append
abbrev Mt:=@Nat.div_lt_iff_lt_mul
abbrev Mu:=@List.mem_of_mem_take
abbrev DF:=@Nat.le_total
abbrev BP:=@Nat.mod_lt
abbrev G1:=@Nat.not_lt_zero
abbrev DG:=@Nat.pow_succ
abbrev DH:=@Nat.sub_zero
abbrev zdt:=@List.drop_drop
theorem o_{p:Prop}(h:p:=by omega):p:=h
theorem s_{p:Prop}(h:p:=by simp):p:=h
theorem d_{p:Prop}(h:p:=by decide):p:=h
end Go.Sx
namespace Go.Sx
open Go
def look:List (Nat×Value)->Nat->Value
 | [],_=>undef
 | (i,v) :: s,t=>bif Nat.beq i t then v else look s t
def Fr(n:Nat)(s:List (Nat×Value))(ds:List Deferred):Act :=
 { tmps:=Array.ofFn (n:=n) fun i=>look s i.val,defers:=ds }
def ev(n:Nat)(s:List (Nat×Value)):Operand->Value
 | .tmp t=>bif Nat.blt t n then look s t else undef
 | .const v=>v
 | .global g=>.pointer (some ⟨g,0,none⟩)
 | .func f=>.func (.func f) #[] #[]
theorem N0{a b:Nat}(h:a<b):Nat.blt a b=true:=by simp[Nat.blt];omega
theorem NZ{a b:Nat}(h:¬ a<b):Nat.blt a b=false:=by
 cases hb:Nat.blt a b with
 | false=>rfl
 | true=>exact absurd (by simpa[Nat.blt,Nat.lt_iff_add_one_le]using hb) h
theorem DL(n:Nat)(s:List (Nat×Value))(ds:List Deferred)(x:Operand):(Fr n s ds).eval x=ev n s x:=by
 cases x with
 | tmp t =>
  by_cases h:t<n
  . simp[Act.eval,Fr,ev,h,N0 h]
  . simp[Act.eval,Fr,ev,h,NZ h]
 | _=>rfl
theorem pR (n:Nat)(s:List (Nat×Value))(ds:List Deferred):(Fr n s ds).eval=ev n s:=funext (DL n s ds)
theorem CJ(i t:Nat)(v:Value)(s:List (Nat×Value)):look ((i,v) :: s) t=if i=t then v else look s t:=by
 by_cases h:i=t
 . simp[look,h]
 . have:Nat.beq i t=false:=by
    cases hb:Nat.beq i t with
    | false=>rfl
    | true=>exact absurd (zM hb) h
   simp[look,this,h]
theorem vF{n:Nat}{s s' : List (Nat×Value)}(ds:List Deferred)(h:∀ t,look s t=look s' t):Fr n s ds=Fr n s' ds:=by
 unfold Fr
 congr 2
 funext i
 exact h i.val
theorem zT(n:Nat)(s:List (Nat×Value))(ds:List Deferred)(d:Nat)(v:Value):(Fr n s ds).put (some d) v=Fr n ((d,v) :: s) ds:=by
 unfold Act.put Fr
 simp only[Act.mk.injEq,and_true]
 apply Array.ext
 . simp
 . intro i b a
   simp at b a
   rw[Array.getElem_setIfInBounds (by simpa using a)]
   simp[CJ]
theorem abe(pre s:List (Nat×Value))(h:∀ p∈pre,look s p.1=p.2)(t:Nat):look (pre++s) t=look s t:=by
 induction pre with
 | nil=>rfl
 | cons p pre b =>
  have c := b (fun q a=>h q (oS _ a))
  obtain⟨i,v⟩:=p
  rw[qF,CJ]
  split
  . rename_i e;subst e;exact(h (i,v) (za ..)).symm
  . exact c
def Holds(s:List (Nat×Value)):List (Nat×Value)->Prop
 | []=>True
 | p :: l=>look s p.1=p.2/\Holds s l
theorem Holds.mem{s:List (Nat×Value)}:∀ {l:List (Nat×Value)},Holds s l->∀ p∈l,look s p.1=p.2
 | [],_,p,hp=>by cases hp
 | q :: l,h,p,hp=>by
  cases hp with
  | head=>exact h.1
  | tail _ hp=>exact Holds.mem h.2 p hp
theorem MA{n:Nat}{s:List (Nat×Value)}{ds:List Deferred}(pre:List (Nat×Value))(h:Holds s pre):Fr n s ds=Fr n (pre++s) ds :=
 vF ds fun t=>(abe pre s h.mem t).symm
def FW(r:Option Nat):Fence:={ fn:=fun _=>True,depth:=none,alive:=false,round:=r }
theorem G3(r:Option Nat)(m:Nat):(FW r).room m:=fun _ h=>by simp[FW]at h
abbrev WP(r:Option Nat)(P:Program)(c:Code)(Q:Exit->Act->World->Prop)(a:Act)(w:World):Prop:=c.wpIn (FW r) 0 P Q a w
def cat:Op->Nat
 | .move _ | .assign _ | .pick _ _ _ | .extract _ _ | .nilCheck _ | .fieldAddr _ _ _ | .indexAddr _ _ _ | .binOp _ _ _ _ _ | .unOp _ _ _ | .field _ _ _ | .index _ _ _ | .convert _ _ _ | .build _ _=>0
 | .load _ _ | .lookup _ _ _ _=>1
 | .store _ _ _ | .alloc _ | .box _ _ | .buildSlice _ _ _ | .makeSlice _ _ _ | .mapUpdate _ _ _ _ | .mapEntry _ _ _ | .entryStore _ _ _ _=>3
 | .call ⟨.builtin .len,_,_⟩=>1
 | .call ⟨.builtin .min,_,_⟩ | .call ⟨.builtin .max,_,_⟩=>0
 | .call ⟨.builtin .append,_,_⟩=>3
 | _=>2
def kJ(r:Option Nat)(P:Program)(Q:Exit->Act->World->Prop)(o:Oper)(K:Act->World->Prop)(a:Act)(w:World):Prop :=
 match cat o.op with
 | 0=>∃ v,(∀ w', (execOp a.eval o).run P w' = .ok (.value v) w')/\K (a.put o.dst v) w
 | 1=>∃ v,(execOp a.eval o).run P w = .ok (.value v) w/\K (a.put o.dst v) w
 | 3=>∃ x w', (execOp a.eval o).run P w = .ok x w' /\ ((∃ v,x = .value v/\K (a.put o.dst v) w')\/(x = .skip/\K (a.put o.dst undef) w'))
 | _=>o.uponIn (FW r) 0 P a K Q ((o.semAt r a.eval).run P w)
def wl(r:Option Nat)(P:Program)(ops:Array Oper)(Q:Exit->Act->World->Prop):List Oper->Act->World->Prop
 | [],a,w=>Q .normal a w
 | o :: rest,a,w=>if Region.wanted o (yielded ops a.tmps)then kJ r P Q o (wl r P ops Q rest) a w else wl r P ops Q rest (a.put o.dst undef) w
structure WL (r:Option Nat) (P:Program) (ops:Array Oper) (Q:Exit->Act->World->Prop) (l:List Oper) (a:Act) (w:World):Prop where
 out:wl r P ops Q l a w
theorem Vz{op:Op}(h:cat op≠2):∀ c,op ≠ .defer c:=by
 intro c e;subst e;exact h rfl
theorem agi{r:Option Nat}{P:Program}{Q:Exit->Act->World->Prop}{o:Oper}{a:Act}{K K' : Act->World->Prop}(h:∀ a w,K a w->K' a w){x:Result Next}
 (b:o.uponIn (FW r) 0 P a K Q x):o.uponIn (FW r) 0 P a K' Q x:=by
 cases x with
 | ok x w' =>
  cases x<;>simp only[Oper.uponIn]at b ⊢ <;>
   first
    | exact h _ _ b
    | exact⟨b.1,CallsIn.mono b.2 (fun e d c=>by cases e<;>first|exact h _ _ c|exact c)⟩
    | exact⟨b.1,RowsIn.mono b.2 (fun _ _ c=>h _ _ c)⟩
    | exact⟨b.1,RoundIn.mono b.2 (fun e d c=>by cases e<;>first|exact h _ _ c|exact c)⟩
 | halt x w' => cases x<;>simp only[Oper.uponIn]at b ⊢ <;> exact b
theorem kJ.mono{r:Option Nat}{P:Program}{Q:Exit->Act->World->Prop}{o:Oper}{a:Act}{w:World}{K K' : Act->World->Prop}(h:∀ a w,K a w->K' a w)
 (d:kJ r P Q o K a w):kJ r P Q o K' a w:=by
 unfold kJ at *
 split<;>rename_i f<;>simp only[f]at d
 . obtain⟨v,c,b⟩:=d;exact⟨v,c,h _ _ b⟩
 . obtain⟨v,c,b⟩:=d;exact⟨v,c,h _ _ b⟩
 . obtain⟨x,w', c,⟨v,b,e⟩|⟨b,e⟩⟩:=d
   . exact⟨x,w', c,.inl ⟨v,b,h _ _ e⟩⟩
   . exact⟨x,w', c,.inr ⟨b,h _ _ e⟩⟩
 . exact agi h d
theorem kJ.upon{r:Option Nat}{P:Program}{Q:Exit->Act->World->Prop}{o:Oper}{a:Act}{w:World}{K:Act->World->Prop}
 (d:kJ r P Q o K a w):o.uponIn (FW r) 0 P a K Q ((o.semAt r a.eval).run P w):=by
 have e:cat o.op≠2->o.semAt r a.eval=execOp a.eval o:=fun c=>by
  cases r with
  | none=>exact Oper.semAt_none _ o
  | some l=>exact Oper.semAt_some l _ o (Vz c)
 unfold kJ at d
 split at d<;>rename_i c
 . obtain⟨v,b,f⟩:=d;rw[e (by rw[c];decide),b];exact f
 . obtain⟨v,b,f⟩:=d;rw[e (by rw[c];decide),b];exact f
 . obtain⟨x,w', b,⟨v,rfl,g⟩|⟨rfl,g⟩⟩:=d
   . rw[e (by rw[c];decide),b];exact g
   . rw[e (by rw[c];decide),b];exact g
 . exact d
theorem L8{r:Option Nat}{P:Program}{ops:Array Oper}{Q:Exit->Act->World->Prop}:∀ (l:List Oper) (a:Act) (w:World),wl r P ops Q l a w->wpListIn (FW r) 0 P ops Q l a w
 | [],_,_,h=>h
 | o :: rest,a,w,h=>by
  unfold wl at h
  unfold wpListIn
  split<;>rename_i b
  . rw[if_pos b]at h
    exact⟨fun _ _=>trivial,(h.mono (L8 rest)).upon⟩
  . rw[if_neg b]at h
    exact⟨fun _ _=>trivial,L8 rest _ _ h⟩
theorem uK{r:Option Nat}{m:Nat}{P:Program}{f:FuncId}{args:Array Value}{w:World}{R:Ending->World->Prop} :
 CallsIn (FW r) m P f args w R↔Calls P f args w R:=callsIn_wide (n:=m)
def vW:List Oper->Nat->Option Nat
 | [],_=>none
 | o :: _,0=>o.dst
 | _ :: l,j+1=>vW l j
theorem It(l:List Oper):∀ j,vW l j=(l[j]?).bind (·.dst):=by
 induction l with
 | nil=>intro j;simp[vW]
 | cons o l a=>intro j;cases j with|zero=>rfl|succ j=>simpa[vW]using a j
def K0:Value->Bool->Bool
 | .bool b,want=>bif want then b else !b
 | _,_=>false
def gC(ops:Array Oper)(n:Nat)(s:List (Nat×Value)):Option (Nat×Bool)->Bool
 | none=>true
 | some (j,want) =>
  match vW ops.toList j with
  | some d=>K0 (ev n s (.tmp d)) want
  | none=>false
theorem rz(ops:Array Oper)(n:Nat)(s:List (Nat×Value))(ds:List Deferred)(o:Oper) :
 Region.wanted o (yielded ops (Fr n s ds).tmps)=gC ops n s o.guard:=by
 unfold Region.wanted gC
 cases o.guard with
 | none=>rfl
 | some g =>
  obtain⟨j,a⟩:=g
  have e:vW ops.toList j=(ops[j]?).bind (·.dst):=by rw[It];simp
  simp only[yielded,e]
  cases (ops[j]?).bind (·.dst)with
  | none=>simp
  | some d =>
   simp only[Option.bind_some]
   by_cases h:d<n
   . have:(Fr n s ds).tmps[d]? = some (look s d):=by simp[Fr,h]
     rw[this]
     simp only[ev,N0 h,cond_true]
     cases look s d<;>simp[K0]
     rename_i b
     cases b<;>cases a<;>rfl
   . have:(Fr n s ds).tmps[d]? = none:=Array.getElem?_eq_none (by simpa[Fr]using h)
     rw[this]
     simp[ev,NZ h,undef,K0]
section ops
variable {r:Option Nat} {P:Program} {ops:Array Oper} {Q:Exit->Act->World->Prop} {rest:List Oper} {n:Nat} {s:List (Nat×Value)} {ds:List Deferred} {w w' : World}
theorem agK(h:Q .normal (Fr n s ds) w):WL r P ops Q [] (Fr n s ds) w:=⟨h⟩
theorem semAt_eq{r:Option Nat}{ρ:Operand->Value}{o:Oper}(h:∀ c,o.op ≠ .defer c):o.semAt r ρ=execOp ρ o:=by
 cases r with
 | none=>exact congrFun (congrFun (funext fun ρ=>funext fun o=>Oper.semAt_none ρ o) ρ) o
 | some l=>exact Oper.semAt_some l ρ o h
def nI:Op->Bool
 | .defer _=>false
 | _=>true
theorem wD{op:Op}(h:nI op=true):∀ c,op ≠ .defer c:=by
 intro c e;subst e;cases h
theorem agL{o:Oper}{v:Value}(b:gC ops n s o.guard=true)(h:∀ w,(execOp (ev n s) o).run P w = .ok (.value v) w)
 (K:WL r P ops Q rest ((Fr n s ds).put o.dst v) w) (a:cat o.op=0:=by rfl):WL r P ops Q (o :: rest) (Fr n s ds) w:=by
 refine⟨?_⟩
 unfold wl
 rw[rz,b,if_pos rfl]
 unfold kJ
 rw[a]
 exact⟨v,fun w=>by rw[pR, h w],K.out⟩
theorem Ur{o:Oper}{v:Value}(b:gC ops n s o.guard=true)(hd:nI o.op=true)(h:(execOp (ev n s) o).run P w = .ok (.value v) w')
 (K:WL r P ops Q rest ((Fr n s ds).put o.dst v) w') (a:(cat o.op=2\/cat o.op=3)\/(cat o.op=1/\w=w'):=by first|exact .inl (.inr rfl)|exact .inl (.inl rfl)|exact .inr ⟨rfl,rfl⟩):WL r P ops Q (o :: rest) (Fr n s ds) w:=by
 refine⟨?_⟩
 unfold wl
 rw[rz,b,if_pos rfl]
 unfold kJ
 rcases a with (a|a)|⟨a,rfl⟩<;>rw[a]
 . show o.uponIn _ _ _ _ _ _ _
   rw[semAt_eq (wD hd),pR, h]
   exact K.out
 . exact⟨_,w', by rw[pR, h],.inl ⟨v,rfl,K.out⟩⟩
 . exact⟨v,by rw[pR, h],K.out⟩
theorem Dh{o:Oper}(b:gC ops n s o.guard=true)(hd:nI o.op=true)(h:(execOp (ev n s) o).run P w = .ok .skip w')
 (K:WL r P ops Q rest ((Fr n s ds).put o.dst undef) w') (a:cat o.op=2\/cat o.op=3:=by first|exact .inr rfl|exact .inl rfl):WL r P ops Q (o :: rest) (Fr n s ds) w:=by
 refine⟨?_⟩
 unfold wl
 rw[rz,b,if_pos rfl]
 unfold kJ
 rcases a with a|a<;>rw[a]
 . show o.uponIn _ _ _ _ _ _ _
   rw[semAt_eq (wD hd),pR, h]
   exact K.out
 . exact⟨_,w', by rw[pR, h],.inr ⟨rfl,K.out⟩⟩
theorem Uq{o:Oper}(b:gC ops n s o.guard=true)(h:o.uponIn (FW r) 0 P (Fr n s ds) (wl r P ops Q rest) Q ((o.semAt r (Fr n s ds).eval).run P w))(a:cat o.op=2:=by rfl):WL r P ops Q (o :: rest) (Fr n s ds) w:=by
 refine⟨?_⟩
 unfold wl
 rw[rz,b,if_pos rfl]
 unfold kJ
 rw[a]
 exact h
theorem Up{o:Oper}{f:FuncId}{args:Array Value}(c:gC ops n s o.guard=true)(hd:nI o.op=true)(h:(execOp (ev n s) o).run P w = .ok (.enter f args) w')
 (K:Calls P f args w' fun
  | .returned v,w'' => WL r P ops Q rest ((Fr n s ds).put o.dst v) w''
  | .panicked chain,w'' => Q (.panic chain) (Fr n s ds) w''
  | .outgrown,_=>LetsOut Q) (b:cat o.op=2:=by rfl):WL r P ops Q (o :: rest) (Fr n s ds) w:=by
 refine Uq c ?_ b
 rw[semAt_eq (wD hd),pR, h]
 exact⟨fun h=>by simp[FW]at h,uK.2 (Calls.mono K fun e w' a=>by cases e<;>first|exact a.out|exact a)⟩
theorem sk{d:Nat}{op:Op}{ty:TypeId}{pos:String}{af:Array Edge}{g:Nat×Bool}(a:gC ops n s (some g)=false)
 (K:WL r P ops Q rest (Fr n ((d,undef) :: s) ds) w):WL r P ops Q (⟨some d,op,ty,pos,af,some g⟩ :: rest) (Fr n s ds) w:=by
 refine⟨?_⟩
 unfold wl
 rw[rz]
 simp only[a]
 show wl r P ops Q rest ((Fr n s ds).put (some d) undef) w
 rw[zT]
 exact K.out
theorem gj{k:IntKind}{a b:Int}(h:a=b):Value.int k a=Value.int k b:=by rw[h]
theorem EH{a b:Bool}(h:a=b):Value.bool a=Value.bool b:=by rw[h]
end ops
end Go.Sx
namespace Go.Sx
open Go
section
variable {r:Option Nat} {P:Program} {ops:Array Oper} {Q:Exit->Act->World->Prop} {rest:List Oper} {n:Nat} {s:List (Nat×Value)} {ds:List Deferred} {w w' : World}
variable {d:Nat} {ty:TypeId} {pos:String} {af:Array Edge} {g:Option (Nat×Bool)}
theorem pv{op:Op}{v:Value}(b:gC ops n s g=true)(hd:nI op=true)(h:(execOp (ev n s) ⟨some d,op,ty,pos,af,g⟩).run P w = .ok (.value v) w')
 (K:WL r P ops Q rest (Fr n ((d,v) :: s) ds) w') (a:(cat op=2\/cat op=3)\/(cat op=1/\w=w'):=by first|exact .inl (.inr rfl)|exact .inl (.inl rfl)|exact .inr ⟨rfl,rfl⟩):WL r P ops Q (⟨some d,op,ty,pos,af,g⟩ :: rest) (Fr n s ds) w :=
 Ur b hd h (by rw[zT];exact K) a
theorem pw{op:Op}{v:Value}(b:gC ops n s g=true)(h:∀ w,(execOp (ev n s) ⟨some d,op,ty,pos,af,g⟩).run P w = .ok (.value v) w)
 (K:WL r P ops Q rest (Fr n ((d,v) :: s) ds) w) (a:cat op=0:=by rfl):WL r P ops Q (⟨some d,op,ty,pos,af,g⟩ :: rest) (Fr n s ds) w :=
 agL b h (by rw[zT];exact K) a
theorem lI{x:Operand}{v:Value}(a:ev n s x=v){dd:Option Nat} :
 (execOp (ev n s) ⟨dd,.move x,ty,pos,af,g⟩).run P w = .ok (.value v) w:=by simp[execOp,a]
theorem mv{x:Operand}{v:Value}(a:gC ops n s g=true)(b:ev n s x=v)(K:WL r P ops Q rest (Fr n ((d,v) :: s) ds) w) :
 WL r P ops Q (⟨some d,.move x,ty,pos,af,g⟩ :: rest) (Fr n s ds) w:=pw a (fun _=>lI b) K
theorem vS{x:Operand}{v:Value}(a:ev n s x=v){dd:Option Nat} :
 (execOp (ev n s) ⟨dd,.assign x,ty,pos,af,g⟩).run P w = .ok (.value v) w:=by simp[execOp,a]
theorem rS{x:Operand}{v:Value}(a:gC ops n s g=true)(b:ev n s x=v)(K:WL r P ops Q rest (Fr n ((d,v) :: s) ds) w) :
 WL r P ops Q (⟨some d,.assign x,ty,pos,af,g⟩ :: rest) (Fr n s ds) w:=pw a (fun _=>vS b) K
theorem ac0{c x y:Operand}{v:Value}(a:ev n s c = .bool true)(b:ev n s x=v){dd:Option Nat} :
 (execOp (ev n s) ⟨dd,.pick c x y,ty,pos,af,g⟩).run P w = .ok (.value v) w:=by simp[execOp,b,a,asBool]
theorem acZ{c x y:Operand}{v:Value}(a:ev n s c = .bool false)(b:ev n s y=v){dd:Option Nat} :
 (execOp (ev n s) ⟨dd,.pick c x y,ty,pos,af,g⟩).run P w = .ok (.value v) w:=by simp[execOp,b,a,asBool]
def k9:BinOp->Int->Int->Option Bool
 | .eql,a,b=>some (a==b)
 | .neq,a,b=>some (a != b)
 | .lss,a,b=>some (decide (a<b))
 | .leq,a,b=>some (decide (a<=b))
 | .gtr,a,b=>some (decide (b<a))
 | .geq,a,b=>some (decide (b<=a))
 | _,_,_=>none
theorem Bl(op:BinOp)(t:TypeId)(x y:Operand)(k k' : IntKind)(a b:Int):(eqGuard op t x y (.int k a) (.int k' b)).run P w = .ok () w:=by
 unfold eqGuard
 cases op<;>simp
theorem aes{op:BinOp}{t:TypeId}{k:IntKind}{a b:Int}{c:Bool}(h:k9 op a b=some c):(binOp op t (.int k a) (.int k b)).run P w = .ok (.bool c) w:=by
 cases op<;>simp[k9]at h<;>subst h<;>simp[binOp,Op.intCmp]
theorem Oq{op:BinOp}{x y:Operand}{t t' : TypeId}{k:IntKind}{a b:Int}{c:Bool}(e:ev n s x = .int k a)(f:ev n s y = .int k b)
 (d:k9 op a b=some c) {dd:Option Nat} :
 (execOp (ev n s) ⟨dd,.binOp op t x y t', ty,pos,af,g⟩).run P w = .ok (.value (.bool c)) w:=by simp[execOp,e,f,Bl,aes d]
theorem cmp{op:BinOp}{x y:Operand}{t t' : TypeId}{k:IntKind}{a b:Int}{c:Bool}(f:gC ops n s g=true)(h:ev n s x = .int k a)(i:ev n s y = .int k b)
 (e:k9 op a b=some c) (K:WL r P ops Q rest (Fr n ((d,.bool c) :: s) ds) w) :
 WL r P ops Q (⟨some d,.binOp op t x y t', ty,pos,af,g⟩ :: rest) (Fr n s ds) w:=pw f (fun _=>Oq h i e) K
theorem pZ{a b:Int}(h:a<b):k9 .lss a b=some true:=by simp[k9,h]
theorem lG{a b:Int}(h:¬ a<b):k9 .lss a b=some false:=by simp[k9,h]
theorem xO{a b:Int}(h:a<=b):k9 .leq a b=some true:=by simp[k9,h]
theorem N9{a b:Int}(h:¬ a<=b):k9 .leq a b=some false:=by simp[k9,h]
theorem qx{a b:Int}(h:¬ a>b):k9 .gtr a b=some false:=by simp[k9];omega
theorem nG{a b:Int}(h:a≥b):k9 .geq a b=some true:=by simp[k9];omega
theorem p5{a b:Int}(h:¬ a≥b):k9 .geq a b=some false:=by simp[k9];omega
theorem rV{a b:Int}(h:a=b):k9 .eql a b=some true:=by simp[k9,h]
theorem vU{a b:Int}(h:¬ a=b):k9 .eql a b=some false:=by simp[k9,h]
theorem HW{a b:Int}(h:¬ a=b):k9 .neq a b=some true:=by simp[k9,h]
theorem o7{a b:Int}(h:a=b):k9 .neq a b=some false:=by simp[k9,h]
def Cj:BinOp->Int->Int->Option Int
 | .add,a,b=>some (a+b)
 | .sub,a,b=>some (a-b)
 | .mul,a,b=>some (a*b)
 | _,_,_=>none
theorem aer{op:BinOp}{t:TypeId}{k:IntKind}{a b c:Int}(h:Cj op a b=some c):(binOp op t (.int k a) (.int k b)).run P w = .ok (.int k (k.wrap c)) w:=by
 cases op<;>simp[Cj]at h<;>subst h<;>simp[binOp,Op.intArith]
theorem Eg{op:BinOp}{x y:Operand}{t t' : TypeId}{k:IntKind}{a b c e:Int}(h:ev n s x = .int k a)(i:ev n s y = .int k b)
 (d:Cj op a b=some c) (f:k.wrap c=e) {dd:Option Nat} :
 (execOp (ev n s) ⟨dd,.binOp op t x y t', ty,pos,af,g⟩).run P w = .ok (.value (.int k e)) w:=by simp[execOp,h,i,Bl,aer d,f]
theorem ar{op:BinOp}{x y:Operand}{t t' : TypeId}{k:IntKind}{a b c e:Int}(h:gC ops n s g=true)(j:ev n s x = .int k a)(l:ev n s y = .int k b)
 (f:Cj op a b=some c) (i:k.wrap c=e) (K:WL r P ops Q rest (Fr n ((d,.int k e) :: s) ds) w) :
 WL r P ops Q (⟨some d,.binOp op t x y t', ty,pos,af,g⟩ :: rest) (Fr n s ds) w:=pw h (fun _=>Eg j l f i) K
theorem oh{a:Int}(h : -9223372036854775808<=a/\a<=9223372036854775807):IntKind.i64.wrap a=a:=IntWalk.i64_in a h
theorem Gl{a:Int}(h:0<=a/\a<=18446744073709551615):IntKind.u64.wrap a=a:=IntWalk.u64_in a h
theorem Uh{a:Int}(h:0<=a/\a<=255):IntKind.u8.wrap a=a:=IntWalk.u8_in a h
theorem adM{x y:Operand}{t t' : TypeId}{k:IntKind}{a b e:Int}(d:ev n s x = .int k a)(f:ev n s y = .int k b)
 (hb:b≠0) (c:k.wrap (a.tdiv b)=e) {dd:Option Nat} :
 (execOp (ev n s) ⟨dd,.binOp .quo t x y t', ty,pos,af,g⟩).run P w = .ok (.value (.int k e)) w:=by simp[execOp,d,f,Bl,binOp,Op.intDiv,hb,c]
theorem quo{x y:Operand}{t t' : TypeId}{k:IntKind}{a b e:Int}(c:gC ops n s g=true)(h:ev n s x = .int k a)(i:ev n s y = .int k b)
 (hb:b≠0) (f:k.wrap (a.tdiv b)=e) (K:WL r P ops Q rest (Fr n ((d,.int k e) :: s) ds) w) :
 WL r P ops Q (⟨some d,.binOp .quo t x y t', ty,pos,af,g⟩ :: rest) (Fr n s ds) w:=pw c (fun _=>adM h i hb f) K
theorem adS{x y:Operand}{t t' : TypeId}{k:IntKind}{a b e:Int}(d:ev n s x = .int k a)(f:ev n s y = .int k b)
 (hb:b≠0) (c:a.tmod b=e) {dd:Option Nat} :
 (execOp (ev n s) ⟨dd,.binOp .rem t x y t', ty,pos,af,g⟩).run P w = .ok (.value (.int k e)) w:=by simp[execOp,d,f,Bl,binOp,Op.intDiv,hb,c]
theorem rem{x y:Operand}{t t' : TypeId}{k:IntKind}{a b e:Int}(c:gC ops n s g=true)(h:ev n s x = .int k a)(i:ev n s y = .int k b)
 (hb:b≠0) (f:a.tmod b=e) (K:WL r P ops Q rest (Fr n ((d,.int k e) :: s) ds) w) :
 WL r P ops Q (⟨some d,.binOp .rem t x y t', ty,pos,af,g⟩ :: rest) (Fr n s ds) w:=pw c (fun _=>adS h i hb f) K
def tJ(op:BinOp)(k:IntKind)(x y:Int):Option Int :=
 let a:=BitVec.ofInt k.bits x
 let b:=BitVec.ofInt k.bits y
 match op with
 | .and=>some (k.wrap (a &&& b).toNat)
 | .or=>some (k.wrap (a ||| b).toNat)
 | .xor=>some (k.wrap (a ^^^ b).toNat)
 | .andNot=>some (k.wrap (a &&& ~~~b).toNat)
 | _=>none
theorem Vp{op:BinOp}{x y:Operand}{t t' : TypeId}{k:IntKind}{a b e:Int}(d:ev n s x = .int k a)(f:ev n s y = .int k b)
 (c:tJ op k a b=some e) {dd:Option Nat} :
 (execOp (ev n s) ⟨dd,.binOp op t x y t', ty,pos,af,g⟩).run P w = .ok (.value (.int k e)) w:=by
 simp only[tJ]at c
 cases op<;>simp at c<;>simp[execOp,d,f,Bl,binOp,Op.intBits,c]
theorem bi{op:BinOp}{x y:Operand}{t t' : TypeId}{k:IntKind}{a b e:Int}(c:gC ops n s g=true)(h:ev n s x = .int k a)(i:ev n s y = .int k b)
 (f:tJ op k a b=some e) (K:WL r P ops Q rest (Fr n ((d,.int k e) :: s) ds) w) :
 WL r P ops Q (⟨some d,.binOp op t x y t', ty,pos,af,g⟩ :: rest) (Fr n s ds) w:=pw c (fun _=>Vp h i f) K
theorem aeO{x y:Operand}{t t' : TypeId}{k i:IntKind}{a b e:Int}(f:ev n s x = .int k a)(h:ev n s y = .int i b)
 (hb:0<=b) (d:a.fdiv (2 ^ (min b.toNat k.bits))=e) {dd:Option Nat} :
 (execOp (ev n s) ⟨dd,.binOp .shr t x y t', ty,pos,af,g⟩).run P w = .ok (.value (.int k e)) w:=by
 have c : ¬ b<0:=by omega
 simp[execOp,f,h,Bl,binOp,Op.shift,c, d]
theorem shr{x y:Operand}{t t' : TypeId}{k j:IntKind}{a b e:Int}(c:gC ops n s g=true)(h:ev n s x = .int k a)(i:ev n s y = .int j b)
 (hb:0<=b) (f:a.fdiv (2 ^ (min b.toNat k.bits))=e) (K:WL r P ops Q rest (Fr n ((d,.int k e) :: s) ds) w) :
 WL r P ops Q (⟨some d,.binOp .shr t x y t', ty,pos,af,g⟩ :: rest) (Fr n s ds) w:=pw c (fun _=>aeO h i hb f) K
theorem acp{x:Operand}{t:TypeId}{b c:Bool}(d:ev n s x = .bool b)(a:(!b)=c){dd:Option Nat} :
 (execOp (ev n s) ⟨dd,.unOp .not t x,ty,pos,af,g⟩).run P w = .ok (.value (.bool c)) w:=by simp[execOp,d,Op.unary,a]
theorem Wn{x:Operand}{t t' : TypeId}{k k' : IntKind}{u:TypeDesc}{a e:Int}(d:ev n s x = .int k a)
 (hs:P.underlying t=some u) (b:P.underlying t' = some (.int k')) (c:k'.wrap a=e) {dd:Option Nat} :
 (execOp (ev n s) ⟨dd,.convert t t' x,ty,pos,af,g⟩).run P w = .ok (.value (.int k' e)) w:=by simp[execOp,d,convert,run_underlying hs,run_underlying b,Conv.intToInt,c]
theorem EJ{x:Operand}{i:Nat}{vs:Array Value}{v:Value}(a:ev n s x = .tuple vs)(hv:vs[i]? = some v){dd:Option Nat} :
 (execOp (ev n s) ⟨dd,.extract x i,ty,pos,af,g⟩).run P w = .ok (.value v) w:=by simp[execOp,a,Instr.extract,hv]
theorem Q2{x:Operand}{t e:TypeId}{a:Option Addr}{m c:Nat}(d:ev n s x = .slice a m c)(b:P.underlying t=some (.slice e)){dd:Option Nat} :
 (execOp (ev n s) ⟨dd,.call ⟨.builtin .len,#[x],#[t]⟩,ty,pos,af,g⟩).run P w = .ok (.value (.int .i64 m)) w:=by simp[execOp,resolve,invoke,builtin,d,Builtin.len_,run_underlying b];rfl
theorem E8{x:Operand}{t e:TypeId}{a:Option Addr}{m c:Nat}(b:gC ops n s g=true)(h:ev n s x = .slice a m c)(f:P.underlying t=some (.slice e))
 (K:WL r P ops Q rest (Fr n ((d,.int .i64 m) :: s) ds) w) :
 WL r P ops Q (⟨some d,.call ⟨.builtin .len,#[x],#[t]⟩,ty,pos,af,g⟩ :: rest) (Fr n s ds) w:=pv b rfl (Q2 h f) K
theorem yF{x:Operand}{a:Addr}(b:ev n s x = .pointer (some a)){dd:Option Nat} :
 (execOp (ev n s) ⟨dd,.nilCheck x,ty,pos,af,g⟩).run P w = .ok (.value (.pointer (some a))) w:=by simp[execOp,b]
theorem uZ{x:Operand}{a:Addr}(b:gC ops n s g=true)(c:ev n s x = .pointer (some a))
 (K:WL r P ops Q rest (Fr n ((d,.pointer (some a)) :: s) ds) w) :
 WL r P ops Q (⟨some d,.nilCheck x,ty,pos,af,g⟩ :: rest) (Fr n s ds) w:=pw b (fun _=>yF c) K
theorem abT{fn:Fn}{fi ca:List Operand}{vf vc:List Value}(b:fi.map (ev n s)=vf)(a:ca.map (ev n s)=vc){dd:Option Nat} :
 (execOp (ev n s) ⟨dd,.makeFunc fn fi.toArray ca.toArray,ty,pos,af,g⟩).run P w = .ok (.value (.func fn vf.toArray vc.toArray)) w:=by subst b a;simp[execOp,Instr.makeFunc]
theorem mO{fn:Fn}{fi ca:List Operand}{vf vc:List Value}(c:gC ops n s g=true)(b:fi.map (ev n s)=vf)(a:ca.map (ev n s)=vc)
 (K:WL r P ops Q rest (Fr n ((d,.func fn vf.toArray vc.toArray) :: s) ds) w) :
 WL r P ops Q (⟨some d,.makeFunc fn fi.toArray ca.toArray,ty,pos,af,g⟩ :: rest) (Fr n s ds) w:=pv c rfl (abT b a) K
theorem aal{x y:Operand}{t:TypeId}{k:IntKind}{b:ByteArray}{i:Int}{c:UInt8}(f:ev n s x = .string b)(h:ev n s y = .int k i)
 (e:P.underlying t=some .string) (a:0<=i) (d:b[i.toNat]? = some c) {dd:Option Nat} :
 (execOp (ev n s) ⟨dd,.index t x y,ty,pos,af,g⟩).run P w = .ok (.value (.int .u8 c.toNat)) w:=by simp[execOp,f,h,Instr.index,asIntOf,run_underlying e,a,d]
theorem aaj{x y:Operand}{t:TypeId}{k:IntKind}{b:ByteArray}{i:Int}{c:UInt8}(f:gC ops n s g=true)(j:ev n s x = .string b)(l:ev n s y = .int k i)
 (h:P.underlying t=some .string) (a:0<=i) (e:b[i.toNat]? = some c) (K:WL r P ops Q rest (Fr n ((d,.int .u8 c.toNat) :: s) ds) w) :
 WL r P ops Q (⟨some d,.index t x y,ty,pos,af,g⟩ :: rest) (Fr n s ds) w:=pw f (fun _=>aal j l h a e) K
end
end Go.Sx
namespace Go.Sx
open Go
section
variable {r:Option Nat} {P:Program} {Q:Exit->Act->World->Prop} {n:Nat} {s:List (Nat×Value)} {ds:List Deferred} {w w' : World}
theorem rg{id:Nat}{l:List Oper}(h:WL r P l.toArray Q l (Fr n s ds) w):WP r P (.region id l.toArray false) Q (Fr n s ds) w:=wpIn_region_lit (L8 _ _ _ h.out)
theorem sp(h:Q .normal (Fr n s ds) w):WP r P .skip Q (Fr n s ds) w:=wpIn_skip h
theorem bk{id:Nat}{c:Code}(h:WP r P c (Exit.inBlock id Q) (Fr n s ds) w):WP r P (.block id c) Q (Fr n s ds) w:=wpIn_block h
theorem xt{id:Nat}(h:Q (.exit id) (Fr n s ds) w):WP r P (.exit id) Q (Fr n s ds) w:=wpIn_exit h
theorem rt(h:Q .ret (Fr n s ds) w):WP r P .ret Q (Fr n s ds) w:=wpIn_ret h
theorem VC{c:Operand}{x y:Code}(a:ev n s c = .bool true)(h:WP r P x Q (Fr n s ds) w):WP r P (.cond c x y) Q (Fr n s ds) w :=
 wpIn_cond_true (by rw[DL];exact a) h
theorem VB{c:Operand}{x y:Code}(a:ev n s c = .bool false)(h:WP r P y Q (Fr n s ds) w):WP r P (.cond c x y) Q (Fr n s ds) w :=
 wpIn_cond_false (by rw[DL];exact a) h
section
variable {K:Act->World->Prop} {a:Act} {i j:Nat} {ch:List PanicEntry}
theorem tN(h:K a w):Exit.then K Q .normal a w:=h
theorem bX(h:Q .normal a w):Exit.inBlock i Q (.exit i) a w:=by simp only[Exit.inBlock,if_true];exact h
theorem HT(b:Nat.beq j i=false)(h:Q (.exit j) a w):Exit.inBlock i Q (.exit j) a w:=by
 have:¬ j=i:=fun e=>by subst e;simp at b
 simp only[Exit.inBlock,this,if_false];exact h
end
def Mx{α:Type}(n:Nat)(ds:List Deferred)(pre:α->List (Nat×Value))(C:α->World->Prop)(μ:α->Nat)(m:Nat)(a:Act)(w:World):Prop :=
 ∃ x s,a=Fr n s ds/\Holds s (pre x)/\C x w/\μ x<m
theorem again{α:Type}{pre:α->List (Nat×Value)}{C:α->World->Prop}{μ:α->Nat}{m:Nat}(x:α)(h:Holds s (pre x))(a:C x w)(hm:μ x<m):Mx n ds pre C μ m (Fr n s ds) w :=
 ⟨x,s,rfl,h,a,hm⟩
theorem lp{α:Type}{c:Code}(pre:α->List (Nat×Value))(C:α->World->Prop)(μ:α->Nat)(i:α)(q:Holds s (pre i))(t:C i w)
 (G:∀ x H w', C x w' -> WP r P c (Exit.then (Mx n ds pre C μ (μ x)) Q) (Fr n (pre x++H) ds) w'):WP r P (.loop c) Q (Fr n s ds) w:=by
 intro b k cs D hb h
 have key:∀ j x s w,μ x=j->Holds s (pre x)->C x w ->
  ∃ e a' w', Q e a' w' /\ ArrivesIn (Machine.fenced P (FW r)) P (lone (b.atR (Fr n s ds) (.code c :: .inLoop c :: k)) cs w) b k cs e a' w' := by
  intro j
  induction j using Nat.strongRecOn with
  | _ j F =>
   intro x s w A hs v
   obtain⟨e,g,f,d,a⟩:=G x s w v b (.inLoop c :: k) cs D hb h
   rw[<-MA (pre x) hs]at a
   cases e with
   | normal =>
    obtain⟨m,I,rfl,E,u,z⟩:=d
    obtain⟨p,o,J,B,y⟩:=F (μ m) (A▸z) m I f rfl E u
    exact⟨p,o,J,B,.of_steps (StepsIn.trans a (.one (fenced_calm hb h rfl) stepR_inLoop)) y⟩
   | exit id=>exact⟨_,g,f,d,.pass (x:=.inLoop c) rfl (fun _ _=>.inl s_) a⟩
   | goto l=>exact⟨_,g,f,d,.pass (x:=.inLoop c) rfl (fun _ _=>.inl s_) a⟩
   | ret=>exact⟨_,g,f,d,.pass (x:=.inLoop c) rfl (fun _ _=>.inl s_) a⟩
   | panic ch=>exact⟨_,g,f,d,.pass (x:=.inLoop c) rfl (fun _ _=>.inl s_) a⟩
   | outgrown=>exact⟨_,g,f,d,.pass (x:=.inLoop c) rfl (fun _ _=>.inl s_) a⟩
 obtain⟨e,a', w', d,a⟩:=key _ i s w rfl q t
 exact⟨e,a', w', d,.of_steps (.one (fenced_calm hb h rfl) stepR_loop) a⟩
def BS(r:Option Nat)(P:Program)(c:Code)(Q:Exit->Act->World->Prop):Nat->Act->World->Prop
 | 0,_,_=>False
 | k+1,a,w=>WP r P c (Exit.then (BS r P c Q k) Q) a w
theorem ry{c:Code}(k:Nat)(h:BS r P c Q k (Fr n s ds) w):WP r P (.loop c) Q (Fr n s ds) w:=by
 intro b kk cs t hb j
 have key:∀ k a w,BS r P c Q k a w ->
  ∃ e a' w', Q e a' w' /\ ArrivesIn (Machine.fenced P (FW r)) P (lone (b.atR a (.code c :: .inLoop c :: kk)) cs w) b kk cs e a' w' := by
  intro k
  induction k with
  | zero=>intro a w h;exact h.elim
  | succ k u =>
   intro a w h
   obtain⟨e,g,i,f,d⟩:=h b (.inLoop c :: kk) cs t hb j
   cases e with
   | normal =>
    obtain⟨o,m,v,q,p⟩:=u g i f
    exact⟨o,m,v,q,.of_steps (StepsIn.trans d (.one (fenced_calm hb j rfl) stepR_inLoop)) p⟩
   | exit id=>exact⟨_,g,i,f,.pass (x:=.inLoop c) rfl (fun _ _=>.inl s_) d⟩
   | goto l=>exact⟨_,g,i,f,.pass (x:=.inLoop c) rfl (fun _ _=>.inl s_) d⟩
   | ret=>exact⟨_,g,i,f,.pass (x:=.inLoop c) rfl (fun _ _=>.inl s_) d⟩
   | panic ch=>exact⟨_,g,i,f,.pass (x:=.inLoop c) rfl (fun _ _=>.inl s_) d⟩
   | outgrown=>exact⟨_,g,i,f,.pass (x:=.inLoop c) rfl (fun _ _=>.inl s_) d⟩
 obtain⟨e,a', w', f,d⟩:=key k _ w h
 exact⟨e,a', w', f,.of_steps (.one (fenced_calm hb j rfl) stepR_loop) d⟩
theorem iG{c:Code}{k:Nat}{a:Act}(h:WP r P c (Exit.then (BS r P c Q k) Q) a w):BS r P c Q (k+1) a w:=h
def vR:List Value->Nat->List (Nat×Value)
 | [],_=>[]
 | v :: vs,i=>(i,v) :: vR vs (i+1)
theorem abf(vs:List Value):∀ i t,i<=t->look (vR vs i) t=(vs[t-i]?).getD undef:=by
 induction vs with
 | nil=>intro i t _;simp[vR,look]
 | cons v vs a =>
  intro i t h
  rw[vR,CJ]
  split
  . rename_i e;subst e;simp
  . rename_i e
    rw[a (i+1) t o_]
    rw[show t-i=(t-(i+1))+1 by omega]
    simp
theorem Mz(vs:List Value)(n:Nat)(h:vs.length<=n):({ tmps:=vs.toArray++Array.replicate (n-vs.toArray.size) undef,defers:=[] }:Act)=Fr n (vR vs 0) []:=by
 unfold Fr
 simp only[Act.mk.injEq,and_true]
 apply Array.ext
 . simp;omega
 . intro i a b
   simp only[Array.getElem_ofFn]
   rw[abf vs 0 i o_]
   by_cases hi:i<vs.length
   . rw[Array.getElem_append_left (by simpa using hi)]
     simp[hi]
   . rw[Array.getElem_append_right (by simpa using hi)]
     simp[hi]
def CR(P:Program)(f:FuncId)(vs:Array Value)(w:World)(R:Value->World->Prop):Prop :=
 Calls P f vs w fun e w' => ∃ v,e = .returned v/\R v w'
theorem CR.mono{f:FuncId}{vs:Array Value}{R R' : Value->World->Prop}(h:CR P f vs w R)(c:∀ v w', R v w' -> R' v w'):CR P f vs w R' :=
 Calls.mono h fun e w' ⟨v,b,a⟩=>⟨v,b,c v w' a⟩
theorem enter{f:FuncId}{fn:Func}{c:Code}{vs:List Value}{R:Ending->World->Prop}(a:P.funcs[f]? = some fn)(hb:fn.body=some c)(b:fn.ntmps=n)(hs:Nat.ble vs.length n=true)
 (h:WP none P c (bodyPost P fn R) (Fr n (vR vs 0) []) w):Calls P f vs.toArray w R:=by
 refine uK.1 (callsIn_of_wp (F:=FW none) (n:=0) a hb trivial ?_)
 rw[b,Mz vs n (pL hs)]
 exact h
theorem qW(t:Nat):(Fr n s ds).tmps.getD t undef=ev n s (.tmp t):=DL n s ds (.tmp t)
theorem gq{fn:Func}{t:Nat}{v:Value}{R:Value->World->Prop}(a:fn.results = #[.tmp t])(hv:ev n s (.tmp t)=v)(h:R v w) :
 bodyPost P fn (fun e w' => ∃ v,e = .returned v/\R v w') .ret (Fr n s []) w :=
 ⟨rfl,_,results_tmp a _ _ _,_,rfl,by rw[qW,hv];exact h⟩
theorem wN{fn:Func}{R:Value->World->Prop}(a:fn.results = #[])(h:R (.tuple #[]) w) :
 bodyPost P fn (fun e w' => ∃ v,e = .returned v/\R v w') .ret (Fr n s []) w :=
 ⟨rfl,_,results_none a _ _ _,_,rfl,h⟩
theorem iS{fn:Func}{R:Value->World->Prop}(a:fn.results = #[])(h:R (.tuple #[]) w) :
 bodyPost P fn (fun e w' => ∃ v,e = .returned v/\R v w') .normal (Fr n s []) w :=
 ⟨rfl,_,results_none a _ _ _,_,rfl,h⟩
theorem iD{fn:Func}{t u:Nat}{v v' : Value}{R:Value->World->Prop}(a:fn.results = #[.tmp t,.tmp u])(hv:ev n s (.tmp t)=v)(b : ev n s (.tmp u)=v')(h:R (.tuple #[v,v']) w) :
 bodyPost P fn (fun e w' => ∃ v,e = .returned v/\R v w') .ret (Fr n s []) w :=
 ⟨rfl,_,results_tmp2 a _ _ _,_,rfl,by rw[qW,qW,hv,b];exact h⟩
theorem ad3 {fn:Func}{t u x:Tmp}(h:fn.results = #[.tmp t,.tmp u,.tmp x])(tmps:Array Value)(P:Program)(w:World) :
 (results fn tmps).run P w = .ok (.tuple #[tmps.getD t undef,tmps.getD u undef,tmps.getD x undef]) w:=by
 simp[results,h]
theorem tZ{fn:Func}{t u x:Nat}{v v' v'' : Value}{R:Value->World->Prop}(a:fn.results = #[.tmp t,.tmp u,.tmp x])(hv:ev n s (.tmp t)=v)(b : ev n s (.tmp u)=v')(c : ev n s (.tmp x)=v'')(h:R (.tuple #[v,v', v'']) w) :
 bodyPost P fn (fun e w' => ∃ v,e = .returned v/\R v w') .ret (Fr n s []) w :=
 ⟨rfl,_,ad3 a _ _ _,_,rfl,by rw[qW,qW,qW,hv,b, c];exact h⟩
variable {ops:Array Oper} {rest:List Oper} {d:Option Nat} {ty:TypeId} {pos:String} {af:Array Edge} {g:Option (Nat×Bool)}
def kT(d:Option Nat)(v:Value)(s:List (Nat×Value)):List (Nat×Value):=match d with|some i=>(i,v) :: s|none=>s
theorem zU(d:Option Nat)(v:Value):(Fr n s ds).put d v=Fr n (kT d v s) ds:=by
 cases d with
 | none=>rfl
 | some i=>exact zT n s ds i v
abbrev gi(P:Program)(f:FuncId):Prop:=∀ (args:Array Value) (w:World),(callFunc f args).run P w = .ok (.enter f args) w
theorem Fh (a:List Operand):a.toArray.map (ev n s)=(a.map (ev n s)).toArray:=by simp
theorem jO{f:FuncId}{a:List Operand}{T:Array TypeId}{vl:List Value}{R:Value->World->Prop}(i:gC ops n s g=true)(hvs:a.map (ev n s)=vl)(h:gi P f)
 (c:CR P f vl.toArray w R) (K:∀ v w', R v w' -> WL r P ops Q rest (Fr n (kT d v s) ds) w') :
 WL r P ops Q (⟨d,.call ⟨.value (.func f),a.toArray,T⟩,ty,pos,af,g⟩ :: rest) (Fr n s ds) w:=by
 refine Up (f:=f) (args:=vl.toArray) (w' := w) i rfl ?_ (Calls.mono c ?_)
 . simp only[execOp,resolve,invoke,Deferred.ofValue,Fh, hvs]
   simp[ev,h _ _]
 . rintro e w' ⟨v,rfl,b⟩
   simp only[zU]
   exact K v w' b
theorem nV{x:Operand}{f:FuncId}{fi ca:List Value}{a:List Operand}{T:Array TypeId}{vl:List Value}{R:Value->World->Prop}(i:gC ops n s g=true)
 (j:ev n s x = .func (.func f) fi.toArray ca.toArray) (hvs:fi++a.map (ev n s)++ca=vl) (h:gi P f)
 (c:CR P f vl.toArray w R) (K:∀ v w', R v w' -> WL r P ops Q rest (Fr n (kT d v s) ds) w') :
 WL r P ops Q (⟨d,.call ⟨.value x,a.toArray,T⟩,ty,pos,af,g⟩ :: rest) (Fr n s ds) w:=by
 refine Up (f:=f) (args:=vl.toArray) (w' := w) i rfl ?_ (Calls.mono c ?_)
 . subst hvs
   simp only[execOp,resolve,invoke,Deferred.ofValue,Fh, j]
   simp[h _ _]
 . rintro e w' ⟨v,rfl,b⟩
   simp only[zU]
   exact K v w' b
end
end Go.Sx
namespace Go.Sx
open Go
structure gw (S:List Nat) (w w' : World):Prop where
 os:w'.os=w.os
 tape:w'.tape=w.tape
 output:w'.output=w.output
 size:w.heap.size<=w'.heap.size
 block:∀ b,b<w.heap.size->b∉S->w'.heap[b]? = w.heap[b]?
theorem gw.refl(S:List Nat)(w:World):gw S w w:=⟨rfl,rfl,rfl,zj _,fun _ _ _=>rfl⟩
theorem gw.trans{S:List Nat}{a b c:World}(h:gw S a b)(k:gw S b c):gw S a c :=
 ⟨k.os.trans h.os,k.tape.trans h.tape,k.output.trans h.output,kz h.size k.size,fun i hi d=>(k.block i (oB hi h.size) d).trans (h.block i hi d)⟩
theorem gw.mono{S c : List Nat}{a b:World}(h:gw S a b)(hs:∀ x∈S,x∈c):gw c a b :=
 ⟨h.os,h.tape,h.output,h.size,fun i hi d=>h.block i hi (fun e=>d (hs i e))⟩
theorem gw.drew(S:List Nat)(w:World):gw S w w.drew:=⟨rfl,rfl,rfl,zj _,fun _ _ _=>rfl⟩
theorem gw.alloc(S:List Nat)(w:World)(o:Obj):gw S w (w.alloc o) :=
 ⟨rfl,rfl,rfl,s_,fun b hb _=>RowKit.Below.heap_alloc w o b hb⟩
theorem gw.setRow(w:World)(g:Nat)(cs:Array Value):gw [g] w (w.setRow g cs) :=
 ⟨rfl,rfl,rfl,s_,fun b _ hb=>setRow_other w g b cs (by simpa using hb)⟩
theorem gw.acw{w w' : World}{row:Option Nat}(h:w.grownBy w' row):gw row.toList w w' :=
 ⟨h.os,h.tape,h.output,h.size,fun b hb a=>h.block b hb (fun e=>a (by rw[<-e];simp))⟩
theorem gw.below{w w' : World}(h:gw [] w w'):RowKit.Below w.heap.size w w' :=
 ⟨h.os,h.tape,h.output,h.size,fun b hb=>h.block b hb s_⟩
structure fT where
 gH:List Nat
 holds:World->Prop
 loc:∀ w w', (∀ b∈gH,w'.heap[b]? = w.heap[b]?)->holds w->holds w'
def blk(b:Nat)(T:TypeId)(cs:List Value):fT where
 gH:=[b]
 holds w:=w.heap[b]? = some (.cells cs.toArray T (0,0))
 loc w w' h hh:=(h b s_).trans hh
def row(v:Value)(e:TypeId)(sz m:Nat)(xs:List Value):fT where
 gH:=v.ownBlock.toList
 holds w:=w.ownsRow 0 e sz v m xs
 loc w w' h hh:=by
  refine⟨hh.1,?_⟩
  rcases hh.2 with c|⟨g,a,cur,rfl,hb,b,rest⟩
  . exact .inl c
  . exact .inr ⟨g,a,cur,rfl,hb,(h g (by simp[Value.ownBlock])).trans b,rest⟩
def iZ(L:List fT):List Nat:=L.flatMap (·.gH)
structure Bs (wb:World) (X:List Nat) (L:List fT) (w:World):Prop where
 gA:gw X wb w
 mine:∀ b∈iZ L,b∈X\/wb.heap.size<=b
structure St (bs:List (World×List Nat)) (L:List fT) (w:World):Prop where
 base:∀ p∈bs,Bs p.1 p.2 L w
 own:∀ R∈L,R.holds w
 sep:(iZ L).Nodup
 lt:∀ b∈iZ L,b<w.heap.size
variable {bs:List (World×List Nat)} {L L' : List fT} {w w' w0:World}
theorem St.init(w:World):St [(w,[])] [] w :=
 ⟨fun p hp=>by simp only[z8]at hp;subst hp;exact⟨gw.refl _ _,by simp[iZ]⟩,s_,by simp[iZ],by simp[iZ]⟩
theorem St.Qv(w:World)(L:List fT)(d:∀ R∈L,R.holds w)(c:(iZ L).Nodup)(a:∀ b∈iZ L,b<w.heap.size):St [(w,iZ L)] L w :=
 ⟨fun p hp=>by simp only[z8]at hp;subst hp;exact⟨gw.refl _ _,fun b hb=>.inl hb⟩,d,c,a⟩
theorem St.gA{X:List Nat}(h:St bs L w)(hb:(w0,X)∈bs):gw X w0 w:=(h.base _ hb).gA
theorem St.keep{X:List Nat}(h:St bs L w)(hb:(w0,X)∈bs){b:Nat}(c:b<w0.heap.size)(a:b∉X):w.heap[b]? = w0.heap[b]? :=
 (h.base _ hb).gA.block b c a
theorem St.HZ{X:List Nat}(h:St bs L w)(hb:(w0,X)∈bs){a:Addr}{v:Value}(b:w0.cell? a=some v)(c:a.block∉X):w.cell? a=some v :=
 (World.cell?_of_block (h.keep hb (World.block_lt_of_cell? w0 a b) c)).trans b
theorem ng(R:fT)(L:List fT):iZ (R :: L)=R.gH++iZ L:=by simp[iZ]
theorem r0{R:fT}{L:List fT}{i:Nat}(hi:L[i]? = some R){b:Nat}(hb:b∈R.gH):b∈iZ L :=
 rE.2 ⟨R,zd hi,hb⟩
theorem St.iR{i:Nat}{R R' : fT}(h:St bs L w)(hi:L[i]? = some R)(k:gw R.gH w w')(t:∀ b∈R'.gH,b∈R.gH\/w.heap.size<=b)
 (E:R'.gH.Nodup) (r:∀ b∈R'.gH,b<w'.heap.size) (F:R'.holds w'):St bs (L.set i R') w' := by
 obtain⟨f,j,rfl,D⟩:∃ f j,L=f++R :: j/\f.length=i:=by
  have r:=(zh.1 hi).1
  refine⟨L.take i,L.drop (i+1),?_,by simp;omega⟩
  have:=(zh.1 hi).2
  rw[<-this,<-zJ r,tf]
 have G:(f++R :: j).set i R' = f++R' :: j:=by rw[<-D];simp
 have g:∀ R:fT,iZ (f++R :: j)=iZ f++(R.gH++iZ j):=fun R=>by simp[iZ]
 rw[G]
 have y:=h.sep
 rw[g,zr]at y
 obtain⟨n1,A,B⟩:=y
 rw[zr]at A
 obtain⟨J,H,I⟩:=A
 have m:∀ b,b∈iZ f\/b∈iZ j->b<w.heap.size/\b∉R.gH:=by
  intro b hb
  refine⟨h.lt b (by rw[g];simp only[zn];rcases hb with hb|hb<;>simp[hb]),fun o=>?_⟩
  rcases hb with hb|hb
  . exact B b hb b (by simp[o]) rfl
  . exact I b o b hb rfl
 have u:∀ b,b∈iZ f\/b∈iZ j->w'.heap[b]? = w.heap[b]? := fun b hb=>k.block b (m b hb).1 (m b hb).2
 refine⟨fun p hp=>?_,fun X s=>?_,?_,?_⟩
 . have hb:=h.base p hp
   refine⟨⟨k.os.trans hb.gA.os,k.tape.trans hb.gA.tape,k.output.trans hb.gA.output,kz hb.gA.size k.size,fun b v z=>?_⟩,fun b q => ?_⟩
   . refine(k.block b (oB v hb.gA.size) (fun o=>?_)).trans (hb.gA.block b v z)
     rcases hb.mine b (by rw[g];simp[o])with d|d
     . exact z d
     . omega
   . rw[g]at q
     simp only[zn]at q
     rcases q with d|d|d
     . exact hb.mine b (by rw[g];simp[d])
     . rcases t b d with l|l
       . exact hb.mine b (by rw[g];simp[l])
       . exact .inr (kz hb.gA.size l)
     . exact hb.mine b (by rw[g];simp[d])
 . simp only[zn,ze]at s
   rcases s with d|rfl|d
   . exact X.loc w w' (fun b hb=>u b (.inl (rE.2 ⟨X,d,hb⟩))) (h.own X (by simp[d]))
   . exact F
   . exact X.loc w w' (fun b hb=>u b (.inr (rE.2 ⟨X,d,hb⟩))) (h.own X (by simp[d]))
 . rw[g,zr]
   have x:∀ b,(b∈iZ f\/b∈iZ j)->∀ c∈R'.gH,b≠c:=by
    rintro b hb c C rfl
    rcases t b C with l|l
    . exact(m b hb).2 l
    . have:=(m b hb).1;omega
   refine⟨n1,zr.2 ⟨E,H,fun a n b hb e=>x b (.inr hb) a n e.symm⟩,fun a n b hb=>?_⟩
   simp only[zn]at hb
   rcases hb with hb|hb
   . exact x a (.inl n) b hb
   . exact B a n b (by simp[hb])
 . intro b hb
   rw[g]at hb
   simp only[zn]at hb
   rcases hb with d|d|d
   . exact oB (m b (.inl d)).1 k.size
   . exact r b d
   . exact oB (m b (.inr d)).1 k.size
theorem St.grow(h:St bs L w)(a:gw [] w w'):St bs L w' :=
 ⟨fun p hp=>by
  have hb:=h.base p hp
  exact⟨⟨a.os.trans hb.gA.os,a.tape.trans hb.gA.tape,a.output.trans hb.gA.output,kz hb.gA.size a.size,
   fun b d e=>(a.block b (oB d hb.gA.size) s_).trans (hb.gA.block b d e)⟩,hb.mine⟩,
  fun X c=>X.loc w w' (fun b hb=>a.block b (h.lt b (rE.2 ⟨X,c,hb⟩)) s_) (h.own X c),
  h.sep,fun b hb=>oB (h.lt b hb) a.size⟩
theorem St.add{R:fT}{lo:Nat}(h:St bs L w)(g:∀ p∈bs,p.1.heap.size<=lo)(i : ∀ b∈iZ L,b<lo)(d:∀ b∈R.gH,lo<=b)(k:R.gH.Nodup)(j:∀ b∈R.gH,b<w.heap.size)(l:R.holds w):St bs (R :: L) w:=by
 refine⟨fun p hp=>⟨(h.base p hp).gA,fun b hb=>?_⟩,fun X c=>?_,?_,?_⟩
 . rw[ng,zn]at hb
   rcases hb with hb|hb
   . exact .inr (kz (g p hp) (d b hb))
   . exact(h.base p hp).mine b hb
 . simp only[ze]at c
   rcases c with rfl|c
   . exact l
   . exact h.own X c
 . rw[ng,zr]
   exact⟨k,h.sep,fun a f b hb e=>by have m:=d a f;have n:=i b hb;omega⟩
 . intro b hb
   rw[ng,zn]at hb
   rcases hb with hb|hb
   . exact j b hb
   . exact h.lt b hb
theorem St.sN{R:fT}(h:St bs L w)(a:gw [] w w')(c:∀ b∈R.gH,w.heap.size<=b)(e:R.gH.Nodup)(d:∀ b∈R.gH,b<w'.heap.size)(f:R.holds w'):St bs (R :: L) w' :=
 (h.grow a).add (lo:=w.heap.size) (fun p hp=>(h.base p hp).gA.size) h.lt c e d f
theorem St.sub(h:St bs L w)(hs:L'.Sublist L):St bs L' w:=by
 have hm:∀ b∈iZ L', b∈iZ L:=fun b hb=>by
  obtain⟨X,c,e⟩:=rE.1 hb
  exact rE.2 ⟨X,hs.subset c,e⟩
 refine⟨fun p hp=>⟨(h.base p hp).gA,fun b hb=>(h.base p hp).mine b (hm b hb)⟩,fun X c=>h.own X (hs.subset c),?_,fun b hb=>h.lt b (hm b hb)⟩
 exact h.sep.sublist (by
  clear h hm
  induction hs with
  | slnil=>exact List.Sublist.slnil
  | cons a _ d=>rw[ng];exact d.trans (Mk _ _)
  | cons_cons a _ d=>rw[ng,ng];exact List.Sublist.append_left d _)
theorem St.El{i b:Nat}{T:TypeId}{cs:List Value}(h:St bs L w)(hi:L[i]? = some (blk b T cs)):w.heap[b]? = some (.cells cs.toArray T (0,0)) :=
 h.own _ (zd hi)
theorem St.rU{i b o:Nat}{T:TypeId}{cs:List Value}{v:Value}(h:St bs L w)(hi:L[i]? = some (blk b T cs))(hv:cs[o]? = some v):w.cell? ⟨b,o,none⟩=some v:=by
 rw[cell_of_row w b o cs.toArray T (0,0) (h.El hi)]
 simpa using hv
def setAt(cs:List Value)(o:Nat)(vs:List Value):List Value:=cs.take o++vs++cs.drop (o+vs.length)
abbrev TI(P:Program)(t:TypeId)(sz by_:Nat)(z:Value):Prop:=(P.info? t).map (fun i=>(i.size,i.bytes,i.zero))=some (sz,by_,some z)
theorem TI.get{P:Program}{t:TypeId}{sz by_:Nat}{z:Value}(h:TI P t sz by_ z):∃ i,P.info? t=some i/\i.size=sz/\i.bytes=by_/\i.zero=some z:=by
 unfold TI at h
 cases hi:P.info? t with
 | none=>rw[hi]at h;simp at h
 | some i=>rw[hi]at h;simp at h;exact⟨i,rfl,h.1,h.2.1,h.2.2⟩
variable {P:Program} {t:TypeId} {sz by_:Nat} {z:Value}
theorem TI.size(h:TI P t sz by_ z)(w:World):(sizeOf t).run P w = .ok sz w:=by
 obtain⟨i,hi,a,_,_⟩:=h.get
 simp[sizeOf,typeInfo,hi,a]
theorem TI.zR(h:TI P t sz by_ z)(w:World):(zeroValue t).run P w = .ok z w:=by
 obtain⟨i,hi,_,_,a⟩:=h.get
 simp[zeroValue,typeInfo,hi,a]
def j6:TypeDesc->Bool
 | .struct _ | .array _ _=>true
 | _=>false
section
variable {r:Option Nat} {ops:Array Oper} {Q:Exit->Act->World->Prop} {rest:List Oper} {n:Nat} {s:List (Nat×Value)} {ds:List Deferred}
variable {d:Nat} {ty:TypeId} {pos:String} {af:Array Edge} {g:Option (Nat×Bool)} {v:Value} {x y:Operand} {u:TypeDesc}
theorem wS(a:P.underlying t=some u)(w:World):(isAgg t).run P w = .ok (j6 u) w:=by
 unfold isAgg
 cases u<;>simp[run_underlying a,j6]
theorem mM{a:Addr}(d:ev n s x = .pointer (some a))(c:P.underlying t=some u)(b:j6 u=false)(hv:w.cell? a=some v){dd:Option Nat} :
 (execOp (ev n s) ⟨dd,.load t x,ty,pos,af,g⟩).run P w = .ok (.value v) w:=by
 simp only[execOp,d,Instr.loadAt,Instr.sureAddr,loadVar,zt,zz,zo,wS c,b]
 simp[load,Sem.run,hv]
theorem ld{a:Addr}(b:gC ops n s g=true)(f:ev n s x = .pointer (some a))(e:P.underlying t=some u)(c:j6 u=false)(hv:w.cell? a=some v)
 (K:WL r P ops Q rest (Fr n ((d,v) :: s) ds) w) :
 WL r P ops Q (⟨some d,.load t x,ty,pos,af,g⟩ :: rest) (Fr n s ds) w:=pv b rfl (mM f e c hv) K
theorem tP{b o:Nat}{cs:List Value}(h:ev n s x = .pointer (some ⟨b,o,none⟩))(f:P.underlying t=some u)(d:j6 u=true)(e:TI P t sz by_ z)
 (c:cs.length=sz) (hv:∀ j u,cs[j]? = some u->w.cell? ⟨b,o+j,none⟩=some u) {dd:Option Nat} :
 (execOp (ev n s) ⟨dd,.load t x,ty,pos,af,g⟩).run P w = .ok (.value (.agg cs.toArray)) w:=by
 subst c
 have:=run_loadCells_list (P:=P) w ⟨b,o,none⟩ cs (fun j u a=>by rw[Addr.add_lit];exact hv j u a)
 simp only[execOp,h,Instr.loadAt,Instr.sureAddr,loadVar,zt,zz,zo,wS f,d,e.size,this,if_true]
theorem uU{b o:Nat}{cs:List Value}(a:gC ops n s g=true)(i:ev n s x = .pointer (some ⟨b,o,none⟩))(h:P.underlying t=some u)(e:j6 u=true)(f:TI P t sz by_ z)
 (c:cs.length=sz) (hv:∀ j u,cs[j]? = some u->w.cell? ⟨b,o+j,none⟩=some u)
 (K:WL r P ops Q rest (Fr n ((d,.agg cs.toArray) :: s) ds) w) :
 WL r P ops Q (⟨some d,.load t x,ty,pos,af,g⟩ :: rest) (Fr n s ds) w:=pv a rfl (tP i h e f c hv) K
theorem St.HV{i b o:Nat}{T:TypeId}{cs:List Value}{vs:List Value}(h:St bs L w)(hi:L[i]? = some (blk b T cs))(hv:(cs.drop o).take vs.length=vs) :
 ∀ j u,vs[j]? = some u->w.cell? ⟨b,o+j,none⟩=some u:=by
 intro j u a
 refine h.rU hi ?_
 rw[<-hv,uu]at a
 split at a
 . simpa using a
 . cases a
theorem FX{b o:Nat}{T:TypeId}{cs cs' vs:List Value}(i:Nat)(k:gC ops n s g=true)(q:ev n s x = .pointer (some ⟨b,o,none⟩))(u:ev n s y=v)(hvs:v.cells.toList=vs)
 (p:TI P t sz by_ z) (m:vs.length=sz) (h1:vs.all (·.oneCell')=true) (f:St bs L w) (hi:L[i]? = some (blk b T cs)) (j:Nat.ble (o+vs.length) cs.length=true)
 (hcs:setAt cs o vs=cs') (h:L.set i (blk b T cs')=L')
 (K:∀ w', St bs L' w' -> WL r P ops Q rest (Fr n s ds) w'):WL r P ops Q (⟨none,.store t x y,ty,pos,af,g⟩ :: rest) (Fr n s ds) w:=by
 have d:=f.El hi
 have e:=run_storeCells_at P b o T vs 0 cs.toArray w d (by simpa using pL j) (by simpa using h1)
 have l:v.cells.size=sz:=by rw[<-m,<-hvs];simp
 refine Dh (w' := w.setRow b (cs'.toArray)) k rfl ?_ ?_
 . simp only[execOp,q,u,Instr.storeAt,Instr.sureAddr,storeVar,zt,zz,zo,p.size,l,ne_eq,not_true,if_false,hvs]
   subst hcs
   simp only[pM]at e
   simp[e,setAt]
 . subst h
   refine K _ ?_
   refine f.iR hi (gw.setRow w b _) (fun c a=>.inl a) (by simp[blk]) (fun c a=>?_) (setRow_heap w b cs.toArray cs'.toArray T (0,0) d)
   simp only[blk,z8]at a
   subst a
   simpa using(qg.1 d).1
theorem yE{bs:List (World×List Nat)}{L:List fT}(a:St bs L w)(T:TypeId)(cs:List Value):St bs (blk w.heap.size T cs :: L) (w.alloc (.cells cs.toArray T)) :=
 a.sN (gw.alloc [] w _) (fun b hb=>by simp[blk]at hb;omega) (by simp[blk]) (fun b hb=>by simp[blk]at hb;simp;omega) (heap_alloc_new w _)
theorem al{cs:List Value}(a:gC ops n s g=true)(e:TI P t sz by_ z)(hcs:z.cells.toList=cs)(c:St bs L w)
 (K:∀ b w', w.heap.size<=b->gw [] w w' -> St bs (blk b t cs :: L) w' -> WL r P ops Q rest (Fr n ((d,.pointer (some ⟨b,0,none⟩)) :: s) ds) w') :
 WL r P ops Q (⟨some d,.alloc t,ty,pos,af,g⟩ :: rest) (Fr n s ds) w:=by
 subst hcs
 refine pv (w' := w.alloc (.cells z.cells t)) a rfl ?_ (K _ _ (zj _) (gw.alloc [] w _) ?_)
 . simp only[execOp,Instr.alloc,zt,e.zR,zo]
   rfl
 . have:=yE c t z.cells.toList
   simpa using this
theorem bx{cs:List Value}(a:gC ops n s g=true)(e:ev n s x=v)(hcs:v.cells.toList=cs)(c:St bs L w)
 (K:∀ b w', w.heap.size<=b->gw [] w w' -> St bs (blk b t cs :: L) w' -> WL r P ops Q rest (Fr n ((d,.pointer (some ⟨b,0,none⟩)) :: s) ds) w') :
 WL r P ops Q (⟨some d,.box t x,ty,pos,af,g⟩ :: rest) (Fr n s ds) w:=by
 subst hcs
 refine pv (w' := w.alloc (.cells v.cells t)) a rfl ?_ (K _ _ (zj _) (gw.alloc [] w _) ?_)
 . simp only[execOp,e,Instr.box]
   rfl
 . have:=yE c t v.cells.toList
   simpa using this
theorem uN{T:TypeId}{i b o o' szf byf:Nat}{zf:Value}{fields:Array Field}{f:Field}(h:ev n s x = .pointer (some ⟨b,o,none⟩))(a:P.underlying T=some (.struct fields))
 (c:fields[i]? = some f) (e:TI P f.type (szf+1) byf zf) (d:o+f.offset=o') {dd:Option Nat} :
 (execOp (ev n s) ⟨dd,.fieldAddr T x i,ty,pos,af,g⟩).run P w = .ok (.value (.pointer (some ⟨b,o', none⟩))) w:=by subst d;simp[execOp,h,Instr.fieldAt,run_underlying a,c,Instr.sureAddr,fieldPlace,e.size,Addr.add_lit]
theorem fa{T:TypeId}{i b o o' szf byf:Nat}{zf:Value}{fields:Array Field}{f:Field}(e:gC ops n s g=true)(k:ev n s x = .pointer (some ⟨b,o,none⟩))(a:P.underlying T=some (.struct fields))
 (c:fields[i]? = some f) (j:TI P f.type (szf+1) byf zf) (h:o+f.offset=o') (K:WL r P ops Q rest (Fr n ((d,.pointer (some ⟨b,o', none⟩)) :: s) ds) w) :
 WL r P ops Q (⟨some d,.fieldAddr T x i,ty,pos,af,g⟩ :: rest) (Fr n s ds) w:=pw e (fun _=>uN k a c j h) K
theorem Jr{T e:TypeId}{k:IntKind}{b o m c o' : Nat}{i:Int}(j:ev n s x = .slice (some ⟨b,o,none⟩) m c)(l:ev n s y = .int k i)(d:P.underlying T=some (.slice e))
 (h:TI P e sz by_ z) (a:0<=i/\i<m) (f:o+i.toNat*sz=o') {dd:Option Nat} :
 (execOp (ev n s) ⟨dd,.indexAddr T x y,ty,pos,af,g⟩).run P w = .ok (.value (.pointer (some ⟨b,o', none⟩))) w:=by subst f;simp[execOp,j,l,Instr.indexAt,run_underlying d,asIntOf,a,h.size,Addr.add_lit]
theorem jq{T e:TypeId}{k:IntKind}{b o m c o' : Nat}{i:Int}(h:gC ops n s g=true)(p:ev n s x = .slice (some ⟨b,o,none⟩) m c)(q:ev n s y = .int k i)(f:P.underlying T=some (.slice e))
 (l:TI P e sz by_ z) (a:0<=i/\i<m) (j:o+i.toNat*sz=o') (K:WL r P ops Q rest (Fr n ((d,.pointer (some ⟨b,o', none⟩)) :: s) ds) w) :
 WL r P ops Q (⟨some d,.indexAddr T x y,ty,pos,af,g⟩ :: rest) (Fr n s ds) w:=pw h (fun _=>Jr p q f l a j) K
end
end Go.Sx
namespace Go.Sx
open Go
def ia(k:IntKind)(x:Int):Prop:=k.min<=x/\x<=k.max
theorem ia.i64{x:Int}(h:ia .i64 x) : -9223372036854775808<=x/\x<=9223372036854775807:=h
def Sl{α:Type}(sz:Nat)(enc:World->α->List Value->Prop)(ok:Nat->Prop)(w:World)(v:Value)(xs:List α):Prop :=
 ∃ a c,v = .slice a xs.length c/\xs.length<=c/\c<=maxLen/\∀ i x,xs[i]? = some x->∃ b o vs,a=some ⟨b,o,none⟩/\ok b/\vs.length=sz/\enc w x vs/\∀ j u,vs[j]? = some u->w.cell? ⟨b,o+i*sz+j,none⟩=some u
def encI(k:IntKind)(_:World)(x:Int)(vs:List Value):Prop:=vs=[.int k x]/\ia k x
abbrev Ints(k:IntKind)(ok:Nat->Prop)(w:World)(v:Value)(xs:List Int):Prop:=Sl 1 (encI k) ok w v xs
section
variable {α:Type} {sz:Nat} {enc:World->α->List Value->Prop} {ok ok' : Nat->Prop} {w w' w0:World} {v:Value} {xs:List α}
theorem Sl.nil(sz:Nat)(enc:World->α->List Value->Prop)(ok:Nat->Prop)(w:World):Sl sz enc ok w (.slice none 0 0) [] :=
 ⟨none,0,rfl,zj _,lD _,fun i x h=>by simp at h⟩
theorem Sl.len(h:Sl sz enc ok w v xs):xs.length<=9223372036854775807:=by
 obtain⟨a,c,_,d,b,_⟩:=h
 simp only[maxLen]at b;omega
theorem Sl.mono(h:Sl sz enc ok w v xs)(j:∀ b,ok b->ok' b):Sl sz enc ok' w v xs:=by
 obtain⟨a,c,e,d,f,g⟩:=h
 exact⟨a,c,e,d,f,fun i x hi=>let ⟨b,o,vs,ha,hb,rest⟩:=g i x hi;⟨b,o,vs,ha,j b hb,rest⟩⟩
theorem Sl.any(h:Sl sz enc ok w v xs):Sl sz enc (fun _=>True) w v xs:=h.mono fun _ _=>trivial
theorem Sl.to(h:Sl sz enc ok w v xs)(hk:∀ b,ok b->b<w.heap.size->w'.heap[b]? = w.heap[b]?)(m:∀ x vs,x∈xs->enc w x vs->enc w' x vs)(hp:0<sz):Sl sz enc ok w' v xs:=by
 obtain⟨a,c,e,d,f,g⟩:=h
 refine⟨a,c,e,d,f,fun i x hi=>?_⟩
 obtain⟨b,o,vs,k,hb,p,q,l⟩:=g i x hi
 refine⟨b,o,vs,k,hb,p,m x vs (zd hi) q,fun j u n=>?_⟩
 have:=l j u n
 exact(World.cell?_of_block (hk b hb (World.block_lt_of_cell? w _ this))).trans this
theorem Ints.to{k:IntKind}{xs:List Int}(h:Ints k ok w v xs)(hk:∀ b,ok b->b<w.heap.size->w'.heap[b]? = w.heap[b]?):Ints k ok w' v xs :=
 Sl.to h hk (fun _ _ _ h=>h) d_
theorem St.ints{k:IntKind}{xs:List Int}{X:List Nat}{bs:List (World×List Nat)}{L:List fT}(h:St bs L w)(hb:(w0,X)∈bs)(a:Ints k ok w0 v xs)(e:∀ b,ok b->b∉X):Ints k ok w v xs :=
 Ints.to a fun b c d=>h.keep hb d (e b c)
theorem St.EV{k:IntKind}{xs:List Int}{bs:List (World×List Nat)}{L:List fT}(h:St bs L w)(hb:(w0,[])∈bs)(a:Ints k ok w0 v xs):Ints k ok w v xs :=
 h.ints hb a fun _ _=>oV
theorem Sl.cut{a:Option Addr}{m c l h:Nat}(hs:Sl sz enc ok w (.slice a m c) xs)(z:l<=h)(v:h<=m) :
 Sl sz enc ok w (.slice (if c=l then a else a.map (·.add (l*sz))) (h-l) (c-l)) ((xs.take h).drop l):=by
 obtain⟨a', c', e,s,t,f⟩:=hs
 cases e
 have d:((xs.take h).drop l).length=h-l:=by simp;omega
 refine⟨_,c-l,by rw[d],by rw[d];omega,o_,fun i x hi=>?_⟩
 have y : i<h-l:=by have:=(zh.1 hi).1;omega
 have r:xs[l+i]? = some x:=by
  rw[Dz,uu,if_pos o_]at hi
  exact hi
 obtain⟨b,o,vs,g,hb,q, n,k⟩:=f (l+i) x r
 refine⟨b,o+l*sz,vs,?_,hb,q, n,fun j u p=>?_⟩
 . have:¬ c=l:=by
    intro e;subst e;omega
   rw[if_neg this,g]
   simp[Addr.add_lit]
 . have:=k j u p
   rw[rG]at this
   rw[show o+l*sz+i*sz+j=o+(l*sz+i*sz)+j by omega]
   exact this
end
theorem Kt{w:World}{e:TypeId}{sz m b:Nat}{v:Value}{xs:List Value}(h:w.ownsRow 0 e sz v m xs)(hb:v.ownBlock=some b):b<w.heap.size:=(h.lt b hb).2
theorem aeq{P:Program}{w:World}{t ty e:TypeId}{i:TypeInfo}(d:P.underlying t=some (.slice e))(hi:P.info? e=some i){v:Value}{m:Nat}{xs:List Value}{sz:Nat}(h:w.ownsRow 0 e sz v m xs)
 {a:Option Addr} {c:Nat}:(Builtin.append_ #[t,t] ty #[v,.slice a 0 c]).run P w = .ok v w:=by
 have b:(Builtin.firstCells i.size 0 (.slice a 0 c)).run P w = .ok #[] w:=by
  cases a with
  | none=>simp[Builtin.firstCells]
  | some a=>simp[Builtin.firstCells,loadCells,loadCellsFrom]
 rcases h.2 with ⟨rfl,rfl⟩|⟨g,j,cur,rfl,_,k,f,_,_,_⟩
 . simp[Builtin.append_,run_underlying d,sizeOf,typeInfo,hi,Builtin.lenOf,b]
 . simp[Builtin.append_,run_underlying d,sizeOf,typeInfo,hi,Builtin.lenOf,b,f,storeCells]
def Src(w:World)(u:Value)(sz cnt:Nat)(news:List Value):Prop :=
 ∃ a c,u = .slice a cnt c/\news.length=cnt*sz/\∀ j x,news[j]? = some x->∃ b,a=some b/\w.cell? (b.add j)=some x
theorem aep{P:Program}{w:World}{t ty e:TypeId}{sz by_:Nat}{z:Value}(o:P.underlying t=some (.slice e))(hi:TI P e sz by_ z)(L:z.cells.size=sz)(D:0<sz)
 {v u:Value} {m cnt:Nat} {xs news:List Value} (d:w.ownsRow 0 e sz v m xs) (hs:Src w u sz cnt news) (h1:∀ x∈news,x.oneCell' = true) (hb:(m+cnt)*by_<=140737488355328) (y:m+cnt<=maxLen) :
 ∃ v' w', (Builtin.append_ #[t,t] ty #[v,u]).run P w = .ok v' w' /\ w'.ownsRow 0 e sz v' (m+cnt) (xs++news)/\gw v.ownBlock.toList w w' /\ (∀ b,v'.ownBlock=some b->(v.ownBlock=some b\/w.heap.size<=b)/\b<w'.heap.size) /\
  (v' = .slice none 0 0↔v = .slice none 0 0/\cnt=0):=by
 obtain⟨i,n,rfl,rfl,A⟩:=hi.get
 obtain⟨a,c,rfl,k,C⟩:=hs
 by_cases h0:cnt=0
 . subst h0
   have K:news=[]:=xo (by simpa using k)
   subst K
   exact⟨v,w,aeq o n d,by simpa using d,gw.refl _ _,fun b hb=>⟨.inl hb,Kt d hb⟩,s_⟩
 . have R:0<news.length:=by rw[k];exact Nat.mul_pos o_ D
   obtain⟨l,rfl,_⟩:=C 0 news[0] s_
   have q : ∀ j x,news[j]? = some x->w.cell? (l.add j)=some x:=fun j x J=>by
    obtain⟨M, e,h⟩:=C j x J
    cases e;exact h
   obtain⟨v', w', r,B,E,F⟩:=run_append_own (P:=P) w 0 t ty e i z i.size i.bytes o n A rfl rfl L D v m xs d l cnt c news k q h1 y hb (lD _)
   refine⟨v', w', r,B,gw.acw E,fun b p => ⟨?_,Kt B p⟩,by simpa[h0]using F⟩
   rcases d.2 with ⟨rfl,rfl⟩|⟨g,s,cur,rfl,N,I,Q,O,G,S⟩
   . have T:xs=[]:=xo (by simpa using d.1)
     have f := run_append_nil (P:=P) w t ty e i z o n A l cnt c news k q o_ (by simp only[maxLen]at y;omega) (by simp only[lX]at hb;omega)
     rw[r]at f
     cases f
     right
     simp only[Value.ownBlock,Option.some.injEq]at p
     omega
   . by_cases hroom:m+cnt<=s
     . have H:m*i.size+news.length<=cur.size:=by rw[k,G,<-rG];exact zN _ hroom
       have f := run_append_room (P:=P) w t ty e i o n g m s cur I l cnt c news k q h1 hroom H
       rw[r]at f
       cases f
       left
       simpa[Value.ownBlock]using p
     . have holds:∀ j u,xs[j]? = some u->w.cell? ((⟨g,0,none⟩:Addr).add j)=some u:=d.cells (g:=g) rfl
       have f := run_append_grow (P:=P) w t ty e i z o n A ⟨g,0,none⟩ m s xs d.1 holds l cnt c news k q o_ (by simp only[maxLen]at y;omega) (growslice_fits o_ hb)
       rw[r]at f
       cases f
       right
       simp only[Value.ownBlock,Option.some.injEq]at p
       omega
section
variable {r:Option Nat} {P:Program} {ops:Array Oper} {Q:Exit->Act->World->Prop} {rest:List Oper} {n:Nat} {s:List (Nat×Value)} {ds:List Deferred} {w:World}
variable {d:Nat} {ty:TypeId} {pos:String} {af:Array Edge} {g:Option (Nat×Bool)} {v u:Value} {x y:Operand} {bs:List (World×List Nat)} {L L' : List fT} {t e:TypeId} {sz by_ m cnt:Nat} {z:Value} {xs news:List Value}
theorem NO(i:Nat)(p:gC ops n s g=true)(D:ev n s x=v)(E:ev n s y=u)(C:P.underlying t=some (.slice e))(hi:TI P e sz by_ z)(F:z.cells.size=sz)(B:0<sz)
 (k:St bs L w) (j:L[i]? = some (row v e sz m xs)) (hs:Src w u sz cnt news) (h1:∀ x∈news,x.oneCell' = true) (hb:(m+cnt)*by_<=140737488355328) (o:m+cnt<=maxLen)
 (K:∀ v' w', St bs (L.set i (row v' e sz (m+cnt) (xs++news))) w' -> gw v.ownBlock.toList w w' -> WL r P ops Q rest (Fr n ((d,v') :: s) ds) w') :
 WL r P ops Q (⟨some d,.call ⟨.builtin .append,#[x,y],#[t,t]⟩,ty,pos,af,g⟩ :: rest) (Fr n s ds) w:=by
 have q:w.ownsRow 0 e sz v m xs:=k.own _ (zd j)
 obtain⟨v', w', A,l,c,f,_⟩:=aep (ty:=ty) C hi F B q hs h1 hb o
 refine pv p rfl (v:=v') (w' := w') (by simp only[execOp,resolve,invoke,builtin,zt,zz,zo,G0,lV,BH,D,E,A]) (K v' w' ?_ c)
 refine k.iR j c (fun b a => ?_) ?_ (fun b a => ?_) l
 . simp only[row,Option.mem_toList]at a
   rcases(f b a).1 with h|h
   . exact .inl (by simp[row,h])
   . exact .inr h
 . show v'.ownBlock.toList.Nodup
   cases v'.ownBlock<;>simp
 . simp only[row,Option.mem_toList]at a
   exact(f b a).2
theorem iM(i:Nat)(a:gC ops n s g=true)(c:ev n s x=v)(b:P.underlying t=some (.slice e))(j:St bs L w)(f:L[i]? = some (row v e sz m xs))
 (K:WL r P ops Q rest (Fr n ((d,.int .i64 m) :: s) ds) w):WL r P ops Q (⟨some d,.call ⟨.builtin .len,#[x],#[t]⟩,ty,pos,af,g⟩ :: rest) (Fr n s ds) w:=by
 have h:w.ownsRow 0 e sz v m xs:=j.own _ (zd f)
 rcases h.2 with ⟨rfl,rfl⟩|⟨l, k,cur,rfl,_⟩
 . exact E8 a c b K
 . exact E8 a c b K
theorem j8{α:Type}{enc:World->α->List Value->Prop}{ok:Nat->Prop}{w0:World}{ys:List α}(f:gC ops n s g=true)(i:ev n s x=v)(h:P.underlying t=some (.slice e))(b:Sl sz enc ok w0 v ys)
 (K:WL r P ops Q rest (Fr n ((d,.int .i64 ys.length) :: s) ds) w):WL r P ops Q (⟨some d,.call ⟨.builtin .len,#[x],#[t]⟩,ty,pos,af,g⟩ :: rest) (Fr n s ds) w:=by
 obtain⟨a,c,rfl,_⟩:=b
 exact E8 f i h K
theorem CC{k k' : IntKind}{ok:Nat->Prop}{ys:List Int}{i:Int}{el:Int}(p:gC ops n s g=true)(B:ev n s x=v)(C:ev n s y = .int k' i)(A:P.underlying t=some (.slice e))(hi:TI P e 1 by_ z)
 (l:Ints k ok w v ys) (h:0<=i) (f:ys[i.toNat]? = some el)
 (K:∀ b o,w.cell? ⟨b,o,none⟩=some (.int k el)->ia k el->ok b->WL r P ops Q rest (Fr n ((d,.pointer (some ⟨b,o,none⟩)) :: s) ds) w) :
 WL r P ops Q (⟨some d,.indexAddr t x y,ty,pos,af,g⟩ :: rest) (Fr n s ds) w:=by
 have E:=(zh.1 f).1
 obtain⟨a,c,rfl,_,_,j⟩:=l
 obtain⟨b,o,vs,rfl,u,D,⟨rfl,q⟩,m⟩:=j i.toNat el f
 refine jq p B C A hi ⟨h,o_⟩ rfl (K b _ ?_ q u)
 have:=m 0 (.int k el) s_
 simpa using this
end
end Go.Sx
namespace Go.Sx
open Go
def ja(S:Nat->Bool):Nat->List Oper->List Value->List (Nat×Value)->List (Nat×Value)
 | i,o :: l,v :: vs,s=>ja S (i+1) l vs (bif S i then kT o.dst v s else s)
 | _,_,_,s=>s
def ni(S:Nat->Bool)(t:Nat):Nat->List Oper->List Value->Option Value
 | i,o :: l,v :: vs=>match ni S t (i+1) l vs with
  | some u=>some u
  | none=>bif S i&&(o.dst==some t)then some v else none
 | _,_,_=>none
theorem JK(d:Option Nat)(v:Value)(s:List (Nat×Value))(t:Nat):look (kT d v s) t=if d=some t then v else look s t:=by
 cases d with
 | none=>simp[kT]
 | some i=>simp only[kT,CJ,Option.some.injEq]
theorem pg(S:Nat->Bool)(t:Nat)(l:List Oper):∀ (i:Nat) (vs:List Value) (s:List (Nat×Value)),look (ja S i l vs s) t=(ni S t i l vs).getD (look s t):=by
 induction l with
 | nil=>intro i vs s;cases vs<;>simp[ja,ni]
 | cons o l a =>
  intro i vs s
  cases vs with
  | nil=>simp[ja,ni]
  | cons v vs =>
   simp only[ja,ni]
   rw[a]
   cases ni S t (i+1) l vs with
   | some u=>rfl
   | none =>
    simp only[Option.getD_none]
    cases hS:S i with
    | false=>simp
    | true =>
     simp only[cond_true,Bool.true_and,JK]
     by_cases hd:o.dst=some t
     . simp[hd]
     . have:(o.dst==some t)=false:=by simpa using hd
       simp[hd,this]
theorem AS{S b : Nat->Bool}{t:Nat}(l:List Oper):∀ (i:Nat) (vs a : List Value),vs.length=a.length ->
 (∀ j o,l[j]? = some o->o.dst=some t->S (i+j)=b (i+j)/\(S (i+j)=true->vs[j]? = a[j]?))->ni S t i l vs=ni b t i l a := by
 induction l with
 | nil=>intro i vs a _ _;cases vs<;>cases a <;> simp[ni]
 | cons o l k =>
  intro i vs a d h
  cases vs with
  | nil =>
   cases a with
   | nil=>simp[ni]
   | cons v' a => simp at d
  | cons v vs =>
   cases a with
   | nil=>simp at d
   | cons v' a =>
    simp only[ni]
    rw[k (i+1) vs a (by simpa using d) (fun j m g hd=>by
     have:=h (j+1) m (by simpa using g) hd
     rw[show i+1+j=i+(j+1) by omega]
     simpa using this)]
    cases ni b t (i+1) l a with
    | some u=>rfl
    | none =>
     simp only
     by_cases hd:o.dst=some t
     . have:=h 0 o rfl hd
       simp only[pM]at this
       obtain⟨c,e⟩:=this
       rw[c]at e
       cases hS:b i with
       | false=>simp[c,hS]
       | true=>have f:=e hS;simp at f;simp[c,hS,f]
     . have:(o.dst==some t)=false:=by simpa using hd
       simp[this]
theorem CF{S:Nat->Bool}{t:Nat}(l:List Oper):∀ (i:Nat) (vs:List Value),(∀ j o,l[j]? = some o->o.dst=some t->S (i+j)=false)->ni S t i l vs=none:=by
 induction l with
 | nil=>intro i vs _;cases vs<;>simp[ni]
 | cons o l b =>
  intro i vs h
  cases vs with
  | nil=>simp[ni]
  | cons v vs =>
   simp only[ni]
   rw[b (i+1) vs (fun j c a hd=>by rw[show i+1+j=i+(j+1) by omega];exact h (j+1) c (by simpa using a) hd)]
   simp only
   by_cases hd:o.dst=some t
   . have:=h 0 o rfl hd
     simp only[pM]at this
     simp[this]
   . have:(o.dst==some t)=false:=by simpa using hd
     simp[this]
theorem QO{S:Nat->Bool}{t:Nat}(l:List Oper):∀ (i k:Nat) (vs:List Value) (o:Oper) (v:Value),l[k]? = some o->o.dst=some t->vs[k]? = some v->S (i+k)=true ->
 (∀ j a, k<j->l[j]? = some a -> a.dst=some t->S (i+j)=false)->ni S t i l vs=some v:=by
 induction l with
 | nil=>intro i k vs o v h;simp at h
 | cons n l g =>
  intro i k vs o v e hd hv b f
  cases vs with
  | nil=>simp at hv
  | cons p vs =>
   simp only[ni]
   cases k with
   | zero =>
    simp at e hv
    subst e hv
    rw[CF l (i+1) vs (fun j a d c => by rw[show i+1+j=i+(j+1) by omega];exact f (j+1) a o_ (by simpa using d) c)]
    simp only[pM]at b
    simp[b,hd]
   | succ k =>
    rw[g (i+1) k vs o v (by simpa using e) hd (by simpa using hv) (by rw[show i+1+k=i+(k+1) by omega];exact b)
     (fun j a m d c => by rw[show i+1+j=i+(j+1) by omega];exact f (j+1) a o_ (by simpa using d) c)]
def FD(l:List Oper)(pre:List (List Nat)):Bool :=
 (List.range l.length).all fun j=>(pre.getD j []).all fun i=>(l[j]?).any fun o=>o.after.toList.any fun e=>Region.binds .any e&&decide (e.on<j)&&(e.on==i||(pre.getD e.on []).contains i)
def nt(ops:Array Oper)(x y:Oper):Bool :=
 match x.dst with
 | some d=>(y.looksAt ops).contains d||y.dst==some d
 | none=>false
def EW:Op->Bool
 | .select _ _=>true
 | _=>false
def FH(l:List Oper)(pre:List (List Nat))(mem:List Nat):Bool :=
 FD l pre &&
 (l.all fun o => !EW o.op) &&
 ((List.range l.length).all fun j=>(l[j]?).all fun o=>o.after.toList.all fun e => !Region.binds .any e||decide (e.on<j)) &&
 ((
  List.range l.length).all fun j=>(List.range j).all fun i =>
  match l[i]?,l[j]? with
  | some x,some y => !(nt l.toArray x y||nt l.toArray y x||(mem.contains i&&mem.contains j))||(pre.getD j []).contains i
  | _,_=>true) &&
 (mem.all fun m=>decide (m<l.length)) &&
 decide (mem.Pairwise (· < ·))
def uW(pre:List (List Nat))(mem:List Nat)(i:Nat):Nat:=mem.countP fun m=>(pre.getD i []).contains m
def uQ(pre:List (List Nat))(mem:List Nat)(i:Nat):Nat:=mem.countP fun m => !(pre.getD m []).contains i
section
variable {Γ:Type} (P:Program) (ops:Array Oper) (Q:Exit->Act->World->Prop) (n:Nat) (ds:List Deferred) (s0:List (Nat×Value))
def mF(o:Oper)(s:List (Nat×Value))(v:Value)(C:World->Prop)(w:World):Prop :=
 (gC ops n s o.guard=true/\nI o.op=true/\((execOp (ev n s) o).run P w = .ok (.value v) w\/∃ f args,(execOp (ev n s) o).run P w = .ok (.enter f args) w/\CR P f args w (fun v' w' => v' = v/\C w')))
 \/ (gC ops n s o.guard=false/\v=undef)
def ny(l:List Oper)(o:Oper)(s:List (Nat×Value))(Nx:Value->World->Prop)(w:World):Prop :=
 (gC ops n s o.guard=true/\nI o.op=true/\((∃ v w', (execOp (ev n s) o).run P w = .ok (.value v) w' /\ Nx v w')\/(∃ w', (execOp (ev n s) o).run P w = .ok .skip w' /\ Nx undef w') \/
  (∃ f args,(execOp (ev n s) o).run P w = .ok (.enter f args) w/\Calls P f args w (fun e w' => match e with
   | .returned v=>Nx v w'
   | .panicked ch=>∀ s,(∀ t,(∀ o∈l,o.dst≠some t)->look s t=look s0 t)->Q (.panic ch) (Fr n s ds) w'
   | .outgrown=>LetsOut Q))))
 \/ (gC ops n s o.guard=false/\Nx undef w)
def mq(pre:List (List Nat))(i:Nat)(g a : Γ):Nat->List (Γ->Value)->Prop
 | k,v :: vs=>(bif (pre.getD k []).contains i||k==i then True else v a = v g)/\mq pre i g a (k+1) vs
 | _,[]=>True
def lY(l0:List Oper)(pre:List (List Nat))(mem:List Nat)(V:List (Γ->Value))(M:Nat->Γ->World->Prop):Nat->(Γ->List (Nat×Value))->List Oper->List (Γ->Value)->Prop
 | i,s,o :: l,v :: vs =>
  (
   bif mem.contains i then ∀ g w,M (mem.idxOf i) g w->ny P ops Q n ds s0 l0 o (s g) (fun v' w' => ∃ a, M (mem.idxOf i+1) a w' /\ v' = v a /\ mq pre i g a 0 V) w
   else ∀ p g w,uW pre mem i<=p->p<=uQ pre mem i->M p g w->mF P ops n o (s g) (v g) (M p g) w) /\
  lY l0 pre mem V M (i+1) (fun g=>kT o.dst (v g) (s g)) l vs
 | _,_,[],[]=>True
 | _,_,_,_=>False
end
section
variable {Γ:Type} {r:Option Nat} {P:Program} {Q:Exit->Act->World->Prop} {n:Nat} {ds:List Deferred} {s0:List (Nat×Value)} {l:List Oper} {pre:List (List Nat)} {mem:List Nat} {V:List (Γ->Value)} {M:Nat->Γ->World->Prop}
theorem mq.get{i:Nat}{g d : Γ}:∀ (V:List (Γ->Value)) (b:Nat),mq pre i g d b V->∀ k v,V[k]? = some v->((pre.getD (b+k) []).contains i||(b+k)==i)=false->v d = v g:=by
 intro V
 induction V with
 | nil=>intro b _ k v h;simp at h
 | cons f V e =>
  intro b h k v c a
  cases k with
  | zero =>
   simp at c
   subst c
   have:=h.1
   simp only[pM]at a
   rw[a]at this
   exact this
  | succ k=>exact e (b+1) h.2 k v (by simpa using c) (by rw[show b+1+k=b+(k+1) by omega];exact a)
theorem lY.get{l0:List Oper}:∀ (l:List Oper) (vs:List (Γ->Value)) (b:Nat) (s:Γ->List (Nat×Value)),lY P l0.toArray Q n ds s0 l0 pre mem V M b s l vs->l.length=vs.length /\
 ∀ k o,l[k]? = some o->∃ v,vs[k]? = some v /\
  (
   bif mem.contains (b+k)then ∀ g w,M (mem.idxOf (b+k)) g w->ny P l0.toArray Q n ds s0 l0 o (ja (fun j=>decide (j<b+k)) b l (vs.map (· g)) (s g)) (fun v' w' => ∃ d, M (mem.idxOf (b+k)+1) d w' /\ v' = v d /\ mq pre (b+k) g d 0 V) w
   else ∀ p g w,uW pre mem (b+k)<=p->p<=uQ pre mem (b+k)->M p g w->mF P l0.toArray n o (ja (fun j=>decide (j<b+k)) b l (vs.map (· g)) (s g)) (v g) (M p g) w):=by
 intro l
 induction l with
 | nil=>intro vs b s h;cases vs with|nil=>exact⟨rfl,fun k o c=>by simp at c⟩|cons v vs=>exact h.elim
 | cons o l f =>
  intro vs b s h
  cases vs with
  | nil=>exact h.elim
  | cons v vs =>
   obtain⟨q,r⟩:=h
   obtain⟨e,t⟩:=f vs (b+1) _ r
   refine⟨by simp[e],fun k y c=>?_⟩
   cases k with
   | zero =>
    simp at c
    subst c
    refine⟨v,rfl,?_⟩
    have hs:∀ g,ja (fun j=>decide (j<b+0)) b (o :: l) ((v :: vs).map (· g)) (s g)=s g:=by
     intro g
     have key:∀ (l:List Oper) (a:List Value) (i:Nat) (s:List (Nat×Value)),b<=i->ja (fun j=>decide (j<b+0)) i l a s=s:=by
      intro l
      induction l with
      | nil=>intro a i s _;cases a<;>rfl
      | cons o l f=>intro a i s hi;cases a with|nil=>rfl|cons u a=>simp only[ja];rw[show decide (i<b+0)=false by simp;omega];exact f a (i+1) s o_
     exact key _ _ _ _ (zj _)
    simp only[hs]
    exact q
   | succ k =>
    obtain⟨v', x, m⟩:=t k y (by simpa using c)
    refine⟨v', by simpa using x, ?_⟩
    rw[show b+1+k=b+(k+1) by omega]at m
    have hs:∀ g,ja (fun j=>decide (j<b+(k+1))) b (o :: l) ((v :: vs).map (· g)) (s g)=ja (fun j=>decide (j<b+(k+1))) (b+1) l (vs.map (· g)) (kT o.dst (v g) (s g)):=by
     intro g
     simp only[lV,ja]
     rw[show decide (b<b+(k+1))=true by simp]
     rfl
    simp only[hs]
    exact m
structure Down (l:List Oper) (S:Nat->Bool):Prop where
 closed:∀ j o,l[j]? = some o->S j=true->∀ e∈o.after,Region.binds .any e=true->S e.on=true
theorem CU{S:Nat->Bool}(hp:FD l pre=true)(hd:Down l S):∀ j,S j=true->j<l.length->∀ i,(pre.getD j []).contains i=true->S i=true:=by
 intro j
 induction j using Nat.strongRecOn with
 | _ j m =>
  intro g c i hi
  have f:=zk.1 hp j (lU.2 c)
  have a:=zk.1 f i (by simpa using hi)
  rw[zm c]at a
  simp only[Option.any_some,List.any_eq_true,mC,decide_eq_true_eq,zQ,beq_iff_eq]at a
  obtain⟨e,h,⟨hb,k⟩,b⟩:=a
  have d:=hd.closed j _ (zm c) g e (by simpa using h) hb
  rcases b with rfl|b
  . exact d
  . exact m e.on k d o_ i (by simpa using b)
theorem Wh{S:Nat->Bool}{i:Nat}:∀ (mem:List Nat),mem.Pairwise (· < ·)->i∈mem->(∀ m∈mem,m<i->S m=true)->S i=false->(∀ m∈mem,i<m->S m=false) ->
 mem.countP S=mem.idxOf i/\mem.countP (fun j=>S j||j==i)=mem.idxOf i+1:=by
 intro mem
 induction mem with
 | nil=>intro _ h;simp at h
 | cons m mem p =>
  intro hp hi d f g
  rw[uw]at hp
  by_cases e:m=i
  . subst e
    have l:∀ x∈mem,S x=false:=fun x c=>g x (by simp[c]) (hp.1 x c)
    have o : ∀ x∈mem,(S x||x==m)=false:=fun x c=>by
     have:=hp.1 x c
     simp[l x c];omega
    rw[BJ,BJ,BC.2 (fun x c=>by simp[l x c]),BC.2 (fun x c=>by rw[o x c];simp)]
    simp[f]
  . have k:i∈mem:=by simpa[Ne.symm e]using hi
    have n:=hp.1 i k
    obtain⟨a,b⟩:=p hp.2 k (fun x c=>d x (by simp[c])) f (fun x c=>g x (by simp[c]))
    have hm:=d m s_ n
    rw[BJ,BJ,a,b,List.idxOf_cons]
    have:(m==i)=false:=by simpa using e
    simp[hm,this]
theorem I5(a:Array Bool)(i j:Nat)(hi:i<a.size):(a.setIfInBounds i true).getD j false=(a.getD j false||j==i):=by
 by_cases h:i=j
 . subst h;simp[hi]
 . have b : (j==i)=false:=by simpa using Ne.symm h
   simp[b, Array.getElem?_setIfInBounds_ne h]
theorem uP(m j:Nat):(Array.replicate m false).getD j false=false:=by
 rcases BN j m with h|h
 . simp[h]
 . simp[h]
theorem SN{id:Nat}{w:World}(hm:P.follows .mixedOrders=true)(pre:List (List Nat))(mem:List Nat)(az:FH l pre mem=true)(V:List (Γ->Value))(M:Nat->Γ->World->Prop)(g0:Γ)(sE:Γ->List (Nat×Value))
 (h0:M 0 g0 w.drew) (hO:lY P l.toArray Q n ds s0 l pre mem V M 0 (fun _=>s0) l V) (hE:∀ g,ja (fun _=>true) 0 l (V.map (· g)) s0=sE g)
 (aL:∀ g w', M mem.length g w' -> Q .normal (Fr n (sE g) ds) w'):WP r P (.region id l.toArray true) Q (Fr n s0 ds) w:=by
 simp only[FH,mC]at az
 obtain⟨⟨⟨⟨⟨ap,aT⟩,aI⟩,aK⟩,am⟩,aq⟩:=az
 have aq:=of_decide_eq_true aq
 obtain⟨aZ,aw⟩:=lY.get (l0:=l) l V 0 (fun _=>s0) hO
 simp only[lX]at aw
 -- conflicts are ordered
 have U:∀ i j x y,l[i]? = some x->l[j]? = some y->i<j->(nt l.toArray x y=true\/nt l.toArray y x=true\/(i∈mem/\j∈mem))->(pre.getD j []).contains i=true:=by
  intro i j x y hx hy al h
  have p:j<l.length:=(zh.1 hy).1
  have A:=zk.1 (zk.1 aK j (lU.2 p)) i (lU.2 al)
  simp only[hx,hy]at A
  rcases tj.1 A with q|q
  . exfalso
    have O:(nt l.toArray x y||nt l.toArray y x||(mem.contains i&&mem.contains j))=true:=by
     rcases h with h|h|⟨h,h'⟩<;>simp[h]
     simp[h']
    rw[O]at q
    cases q
  . exact q
 refine wpIn_region_any hm ?_
 have a1:l.toArray.size=l.length:=by simp
 -- the invariant
 let c:Array Bool->Nat->Bool:=fun a i=>a.getD i false
 have aY:∀ (fuel:Nat) (a:Array Bool) (g:Γ) (w:World),a.size=l.length->a.toList.countP (! ·)<=fuel->Down l (c a)->M (mem.countP (c a)) g w ->
  wpAnyIn (FW r) 0 P .any l.toArray Q fuel a (Fr n (ja (c a) 0 l (V.map (· g)) s0) ds) w:=by
  intro fuel
  have fin:∀ (a:Array Bool) (g:Γ) (w:World),a.size=l.length->(∀ i,i<l.length->c a i=true)->M (mem.countP (c a)) g w->Q .normal (Fr n (ja (c a) 0 l (V.map (· g)) s0) ds) w:=by
   intro a g w hs X F
   have e1:mem.countP (c a)=mem.length:=List.countP_eq_length.2 fun m E => X m (by simpa using of_decide_eq_true (zk.1 am m E))
   rw[e1]at F
   have e2:Fr n (ja (c a) 0 l (V.map (· g)) s0) ds=Fr n (sE g) ds:=by
    rw[<-hE g]
    refine vF ds fun t=>?_
    rw[pg,pg]
    congr 1
    refine AS l 0 _ _ rfl fun j o p _=>⟨?_,fun _=>rfl⟩
    rw[lX]
    exact X j (zh.1 p).1
   rw[e2]
   exact aL g w F
  have aD:∀ (a:Array Bool),a.size=l.length->Region.ready .any l.toArray a=[]->∀ i,i<l.length->c a i=true:=by
   intro a hs s i
   induction i using Nat.strongRecOn with
   | _ i ih =>
    intro hi
    cases R:c a i with
    | true=>rfl
    | false =>
     exfalso
     have:i∈Region.ready .any l.toArray a:=by
      rw[mem_ready]
      refine⟨?_,l[i],by simp[hi],fun e D hb=>?_⟩
      . have:i<a.size:=by omega
        simp only[c]at R
        simp[this]at R ⊢
        exact R
      . have A:=zk.1 aI i (lU.2 hi)
        rw[zm hi]at A
        simp only[Option.all_some,zk]at A
        have q:=A e (by simpa using D)
        rw[hb,Bool.not_true,Bool.false_or,decide_eq_true_eq]at q
        exact ih e.on q o_
     rw[s]at this
     cases this
  induction fuel with
  | zero =>
   intro a g w hs R hd F
   have hz:∀ x∈a.toList,x=true:=by
    intro x hx
    have:=BC.1 (Nat.le_zero.1 R) x hx
    simpa using this
   have X:∀ i,i<l.length->c a i=true:=by
    intro i hi
    have ak : i<a.size:=by omega
    simp only[c]
    simp[ak]
    exact hz _ s_
   refine⟨?_,fin a g w hs X F⟩
   cases s:Region.ready .any l.toArray a with
   | nil=>rfl
   | cons i rs =>
    have:i∈Region.ready .any l.toArray a:=by rw[s];simp
    rw[mem_ready]at this
    obtain⟨A,o,ho,_⟩:=this
    have hi:i<l.length:=by simpa using(qg.1 ho).1
    have:=X i hi
    simp only[c]at this
    have ak : i<a.size:=by omega
    simp[ak]at A this
    rw[A]at this
    cases this
  | succ fuel ih =>
   intro a g w hs R hd F
   refine⟨fun s=>fin a g w hs (aD a hs s) F,fun i hi=>?_⟩
   obtain⟨ae,o,ho,au⟩:=mem_ready.1 hi
   have B : l[i]? = some o:=by simpa using ho
   have Y:i<l.length:=(zh.1 B).1
   have ab : i<a.size:=by omega
   have L:c a i=false:=by
    simp only[c];simp[ab]at ae ⊢;exact ae
   -- the set behind it
   let S:=c a
   let J := c (a.setIfInBounds i true)
   have L:S i=false:=L
   have hd:Down l S:=hd
   have H : ∀ j,J j=(S j||j==i):=fun j=>I5 a i j ab
   have aj : Down l J := ⟨fun j C p aa e D hb=>by
    rw[H]at aa ⊢
    rcases tj.1 aa with h|h
    . rw[show S e.on=true from hd.closed j C p h e D hb];rfl
    . have:j=i:=by simpa using h
      subst this
      have:C=o:=Option.some.inj (p.symm.trans B)
      subst this
      rw[show S e.on=true from au e D hb];rfl⟩
   have aB:=fun j=>CU (S:=S) ap hd j
   have aS := fun j=>CU (S:=J) ap aj j
   -- what waits for i has not come up
   have T:∀ k,k<l.length->(pre.getD k []).contains i=true->S k=false:=by
    intro k I aP
    cases W:S k with
    | false=>rfl
    | true=>have:=aB k W I i aP;rw[L]at this;cases this
   -- what i waits for has
   have af:∀ k,(pre.getD i []).contains k=true->S k=true:=by
    intro k I
    have A:=aS i (by rw[H];simp) Y k I
    rw[H]at A
    rcases tj.1 A with h|h
    . exact h
    . exfalso
      have e:k=i:=by simpa using h
      subst e
      have:=T k Y I
      -- k is in fQ own list: then it has come up before itself
      have q:=zk.1 (zk.1 ap k (lU.2 Y)) k (by simpa using I)
      rw[zm Y]at q
      simp only[Option.any_some,List.any_eq_true,mC,decide_eq_true_eq,zQ,beq_iff_eq]at q
      obtain⟨e,D,⟨hb,a0⟩,O⟩:=q
      have aH:S e.on=true:=by
       have:l[k]=o:=by rw[zm Y]at B; exact Option.some.inj B
       rw[this]at D
       exact au e (by simpa using D) hb
      rcases O with O|O
      . omega
      . have:=aB e.on aH o_ k (by simpa using O)
        rw[L]at this;cases this
   -- the slots that it looks at hold what they hold in the order of the text
   have agree:∀ t,t∈o.looksAt l.toArray->look (ja S 0 l (V.map (· g)) s0) t=look (ja (fun j=>decide (j<i)) 0 l (V.map (· g)) s0) t:=by
    intro t G
    rw[pg,pg]
    congr 1
    refine AS l 0 _ _ rfl fun j C p N=>⟨?_,fun _=>rfl⟩
    rw[lX]
    have aC:nt l.toArray C o=true:=by simp[nt,N,G]
    rcases GZ j i with h|h|h
    . simp[h,af j (U j i C o p B h (.inl aC))]
    . subst h;simp[L,S]
    . have:=T j (zh.1 p).1 (U i j o C B p h (.inr (.inl aC)))
      simp[this];omega
   have av:execOp (ev n (ja S 0 l (V.map (· g)) s0)) o=execOp (ev n (ja (fun j=>decide (j<i)) 0 l (V.map (· g)) s0)) o:=by
    refine execOp_congr o (fun cs b e=>?_) fun x hx=>?_
    . have:=zk.1 aT o (zd B)
      rw[e]at this
      simp[EW]at this
    . cases x with
      | tmp t =>
       simp only[ev]
       rw[agree t (ur _ (GV.2 ⟨.tmp t,by simpa using hx,rfl⟩))]
      | _=>rfl
   have ad:gC l.toArray n (ja S 0 l (V.map (· g)) s0) o.guard=gC l.toArray n (ja (fun j=>decide (j<i)) 0 l (V.map (· g)) s0) o.guard:=by
    cases hg:o.guard with
    | none=>rfl
    | some gd =>
     obtain⟨jg,a2⟩:=gd
     simp only[gC]
     have e:vW l.toArray.toList jg=(l.toArray[jg]?).bind (·.dst):=by rw[It];simp
     rw[e]
     cases hdg:(l.toArray[jg]?).bind (·.dst)with
     | none=>rfl
     | some d =>
      simp only[ev]
      rw[agree d (zL _ (by rw[hg];simp only;rw[hdg];simp))]
   -- the frame behind it
   have ar:(a.setIfInBounds i true).toList.countP (! ·)<=fuel:=by
    have:(a.setIfInBounds i true).toList.countP (! ·)+1<=a.toList.countP (! ·):=by
     rw[Md]
     have ax:i<a.toList.length:=by simpa using ab
     have aM:a.toList[i]=false:=by simp[ab]at ae;simpa using ae
     have e:=tf i a.toList
     have e2:a.toList=a.toList.take i++false :: a.toList.drop (i+1):=by
      conv=>lhs;rw[<-e,zJ ax,aM]
     have e3:a.toList.set i true=a.toList.take i++true :: a.toList.drop (i+1):=by
      rw[Ml,if_pos ax]
     rw[e3]
     conv=>rhs;rw[e2]
     simp[List.countP_append,BJ]
     omega
    omega
   have frame:∀ (z : Γ) (v:Γ->Value),V[i]? = some v->(∀ k u,V[k]? = some u->S k=true->u z = u g) ->
    (Fr n (ja S 0 l (V.map (· g)) s0) ds).put o.dst (v z)=Fr n (ja J 0 l (V.map (· z)) s0) ds:=by
    intro z v hv aU
    rw[zU]
    refine vF ds fun t=>?_
    rw[JK,pg,pg]
    by_cases hdt:o.dst=some t
    . rw[if_pos hdt]
      have:ni J t 0 l (V.map (· z))=some (v z):=by
       refine QO l 0 i _ o (v z) B hdt (by simp[hv]) (by rw[lX,H];simp) fun j C al p N=>?_
       rw[lX,H]
       have aX:nt l.toArray o C=true:=by simp[nt,hdt,N]
       have:=T j (zh.1 p).1 (U i j o C B p al (.inl aX))
       simp[this];omega
      rw[this];rfl
    . rw[if_neg hdt]
      congr 1
      refine AS l 0 _ _ s_ fun j C p N=>?_
      rw[lX,H]
      have aO:¬ j=i:=by
       rintro rfl
       have:C=o:=Option.some.inj (p.symm.trans B)
       subst this
       exact hdt N
      refine⟨by simp[aO],fun aa=>?_⟩
      have ay:j<V.length:=by have:=(zh.1 p).1;omega
      simp only[zx,zm ay,vE]
      rw[aU j _ (zm ay) aa]
   obtain⟨v,hv,ac⟩:=aw i o B
   unfold wpOpIn
   rw[ho]
   simp only
   by_cases himem:i∈mem
   . -- an operation on memory
     have ai:mem.contains i=true:=by simpa using himem
     rw[ai]at ac
     have aA:∀ m∈mem,(m<i->S m=true)/\(i<m->S m=false):=by
      intro m E
      have Z:m<l.length:=of_decide_eq_true (zk.1 am m E)
      exact⟨fun h=>af m (U m i _ o (zm Z) B h (.inr (.inr ⟨E, himem⟩))),
       fun h=>T m Z (U i m o _ B (zm Z) h (.inr (.inr ⟨himem,E⟩)))⟩
     obtain⟨c1,c2⟩:=Wh (S:=S) mem aq himem (fun m E h=>(aA m E).1 h) L (fun m E h=>(aA m E).2 h)
     have aE : mem.countP J = mem.idxOf i+1:=by rw[<-c2];exact List.countP_congr fun j _=>by rw[H]
     have aG : M (mem.idxOf i) g w:=by rw[<-c1];exact F
     have next:∀ v' w', (∃ z, M (mem.idxOf i+1) z w' /\ v' = v z /\ mq pre i g z 0 V) ->
      wpAnyIn (FW r) 0 P .any l.toArray Q fuel (a.setIfInBounds i true) ((Fr n (ja S 0 l (V.map (· g)) s0) ds).put o.dst v') w' := by
      rintro v' w' ⟨z, ag,rfl,aV⟩
      have:=ih (a.setIfInBounds i true) z w' (by simpa using hs) ar aj (by rw[show mem.countP (c (a.setIfInBounds i true))=mem.idxOf i+1 from aE];exact ag)
      rw[frame z v hv ?_]
      . exact this
      . intro k u I W
        refine mq.get V 0 aV k u I ?_
        rw[lX]
        have aQ:k<l.length:=by have:=(zh.1 I).1;omega
        have A:(pre.getD k []).contains i=false:=by
         cases h:(pre.getD k []).contains i with
         | false=>rfl
         | true=>have:=T k aQ h;rw[W]at this;cases this
        have q:¬ k=i:=by rintro rfl;rw[L]at W;cases W
        rw[A];simp[q]
     rcases ac g w aG with ⟨G,ao,ah⟩|⟨G,K⟩
     . rw[rz,ad,G,if_pos rfl]
       refine⟨fun _ _=>trivial,?_⟩
       rw[semAt_eq (wD ao),pR, av]
       rcases ah with ⟨v', w', s,K⟩|⟨w', s,K⟩|⟨f,args,s,hC⟩
       . rw[s];exact next v' w' K
       . rw[s];exact next undef w' K
       . rw[s]
         refine⟨fun h=>by simp[FW]at h,uK.2 (Calls.mono hC ?_)⟩
         intro e w' D
         cases e with
         | returned v' => exact next v' w' D
         | panicked ch =>
          refine D _ fun t aW => ?_
          rw[pg,CF l 0 _ (fun j C p N=>absurd N (aW C (zd p)))]
          rfl
         | outgrown=>exact D
     . rw[rz,ad,G]
       exact⟨fun _ _=>trivial,next undef w K⟩
   . have ai:mem.contains i=false:=by simpa using himem
     rw[ai]at ac
     have aJ : mem.countP J = mem.countP S:=by
      refine List.countP_congr fun j p=>?_
      rw[H]
      have:¬ j=i:=by rintro rfl;exact himem p
      simp[this]
     have aR:uW pre mem i<=mem.countP S:=List.countP_mono_left fun m _ h=>af m h
     have aN:mem.countP S<=uQ pre mem i:=List.countP_mono_left fun m E h=>by
      have Z:m<l.length:=of_decide_eq_true (zk.1 am m E)
      cases q:(pre.getD m []).contains i with
      | false=>rfl
      | true=>have:=T m Z q;rw[h]at this;cases this
     have next:∀ w', M (mem.countP S) g w' -> wpAnyIn (FW r) 0 P .any l.toArray Q fuel (a.setIfInBounds i true) ((Fr n (ja S 0 l (V.map (· g)) s0) ds).put o.dst (v g)) w' := by
      intro w' ag
      have:=ih (a.setIfInBounds i true) g w' (by simpa using hs) ar aj (by rw[show mem.countP (c (a.setIfInBounds i true))=mem.countP S from aJ];exact ag)
      rw[frame g v hv (fun _ _ _ _=>rfl)]
      exact this
     rcases ac (mem.countP S) g w aR aN F with ⟨G,ao,ah⟩|⟨G,K⟩
     . rw[rz,ad,G,if_pos rfl]
       refine⟨fun _ _=>trivial,?_⟩
       rw[semAt_eq (wD ao),pR, av]
       rcases ah with s|⟨f,args,s,hC⟩
       . rw[s];exact next w F
       . rw[s]
         refine⟨fun h=>by simp[FW]at h,uK.2 (Calls.mono hC ?_)⟩
         rintro e w' ⟨v', rfl,rfl,aF⟩
         exact next w' aF
     . rw[rz,ad,G]
       exact⟨fun _ _=>trivial,by rw[<-K];exact next w F⟩
 have e0:Fr n s0 ds=Fr n (ja (c (Array.replicate l.toArray.size false)) 0 l (V.map (· g0)) s0) ds:=by
  refine vF ds fun t=>?_
  rw[pg,CF l 0 _ (fun j o _ _=>?_)]
  . rfl
  . simp only[c];exact uP _ _
 have hz:mem.countP (c (Array.replicate l.toArray.size false))=0:=BC.2 fun j _=>by
  simp only[c];rw[uP];simp
 rw[e0]
 refine aY _ _ g0 _ s_ (kz Mr s_) ⟨fun j o _ h=>?_⟩ (by rw[hz];exact h0)
 exfalso
 simp only[c]at h
 rw[uP]at h
 cases h
end
end Go.Sx
namespace Go.Sx
open Go
section
variable {r:Option Nat} {P:Program} {ops:Array Oper} {Q:Exit->Act->World->Prop} {rest:List Oper} {n:Nat} {s:List (Nat×Value)} {ds:List Deferred} {w w' : World}
variable {d:Nat} {dd:Option Nat} {ty:TypeId} {pos:String} {af:Array Edge} {g:Option (Nat×Bool)} {v u:Value} {x y:Operand} {bs:List (World×List Nat)} {L L' : List fT} {t e:TypeId} {sz by_ m cnt:Nat} {z:Value} {xs news:List Value}
theorem Ln{b o:Nat}{T:TypeId}{cs cs' vs:List Value}(i:Nat)(p:ev n s x = .pointer (some ⟨b,o,none⟩))(q:ev n s y=v)(hvs:v.cells.toList=vs)
 (m:TI P t sz by_ z) (l:vs.length=sz) (h1:vs.all (·.oneCell')=true) (f:St bs L w) (hi:L[i]? = some (blk b T cs)) (j:o+vs.length<=cs.length)
 (hcs:setAt cs o vs=cs') (h:L.set i (blk b T cs')=L') :
 ∃ w', (execOp (ev n s) ⟨dd,.store t x y,ty,pos,af,g⟩).run P w = .ok .skip w' /\ St bs L' w' /\ gw [b] w w' := by
 have d:=f.El hi
 have e:=run_storeCells_at P b o T vs 0 cs.toArray w d (by simpa using j) (by simpa using h1)
 have k:v.cells.size=sz:=by rw[<-l,<-hvs];simp
 refine⟨w.setRow b (cs'.toArray),?_,?_,gw.setRow w b _⟩
 . simp only[execOp,p,q,Instr.storeAt,Instr.sureAddr,storeVar,zt,zz,zo,m.size,k,ne_eq,not_true,if_false,hvs]
   subst hcs
   simp only[pM]at e
   simp[e,setAt]
 . subst h
   refine f.iR hi (gw.setRow w b _) (fun c a=>.inl a) (by simp[blk]) (fun c a=>?_) (setRow_heap w b cs.toArray cs'.toArray T (0,0) d)
   simp only[blk,z8]at a
   subst a
   simpa using(qg.1 d).1
theorem FY{b o:Nat}{T:TypeId}{cs cs' vs:List Value}(i:Nat)(h:gC ops n s g=true)(m:ev n s x = .pointer (some ⟨b,o,none⟩))(p:ev n s y=v)(hvs:v.cells.toList=vs)
 (l:TI P t sz by_ z) (k:vs.length=sz) (h1:vs.all (·.oneCell')=true) (j:St bs L w) (hi:L[i]? = some (blk b T cs)) (f:o+vs.length<=cs.length)
 (hcs:setAt cs o vs=cs') (e:L.set i (blk b T cs')=L')
 (K:∀ w', St bs L' w' -> gw [b] w w' -> WL r P ops Q rest (Fr n s ds) w'):WL r P ops Q (⟨none,.store t x y,ty,pos,af,g⟩ :: rest) (Fr n s ds) w:=by
 obtain⟨w', a,c,d⟩:=Ln (dd:=none) (ty:=ty) (pos:=pos) (af:=af) (g:=g) i m p hvs l k h1 j hi f hcs e
 exact Dh h rfl a (K w' c d)
theorem Qy{T e:TypeId}{k:IntKind}{b o o' m:Nat}{i:Int}(h:ev n s x = .pointer (some ⟨b,o,none⟩))(j:ev n s y = .int k i)(c:P.underlying T=some (.array m e))
 (f:TI P e sz by_ z) (a:0<=i/\i<m) (d:o+i.toNat*sz=o') :
 (execOp (ev n s) ⟨dd,.indexAddr T x y,ty,pos,af,g⟩).run P w = .ok (.value (.pointer (some ⟨b,o', none⟩))) w:=by
 subst d
 simp only[execOp,h,j,Instr.indexAt,run_underlying c,asIntOf,zt,zz,zo,Instr.sureAddr]
 simp[a,f.size,Addr.add_lit]
theorem jL{T e:TypeId}{k:IntKind}{b o o' m:Nat}{i:Int}(f:gC ops n s g=true)(l:ev n s x = .pointer (some ⟨b,o,none⟩))(p:ev n s y = .int k i)(c:P.underlying T=some (.array m e))
 (j:TI P e sz by_ z) (a:0<=i/\i<m) (h:o+i.toNat*sz=o') (K:WL r P ops Q rest (Fr n ((d,.pointer (some ⟨b,o', none⟩)) :: s) ds) w) :
 WL r P ops Q (⟨some d,.indexAddr T x y,ty,pos,af,g⟩ :: rest) (Fr n s ds) w:=pw f (fun _=>Qy l p c j a h) K
theorem Ck{ps:List (Nat×Operand)}{pvs:List (Nat×Value)}(hp:ps.map (fun q=>(q.1,ev n s q.2))=pvs)(hb:∀ w,(Instr.build t pvs.toArray).run P w = .ok v w) :
 (execOp (ev n s) ⟨dd,.build t ps.toArray,ty,pos,af,g⟩).run P w = .ok (.value v) w:=by
 have:(ps.toArray.map fun(i,x)=>(i,ev n s x))=pvs.toArray:=by rw[<-hp];simp
 simp only[execOp,this,zt,hb,zo,zz]
theorem jc{ps:List (Nat×Operand)}{pvs:List (Nat×Value)}(a:gC ops n s g=true)(hp:ps.map (fun q=>(q.1,ev n s q.2))=pvs)(hb:∀ w,(Instr.build t pvs.toArray).run P w = .ok v w)
 (K:WL r P ops Q rest (Fr n ((d,v) :: s) ds) w):WL r P ops Q (⟨some d,.build t ps.toArray,ty,pos,af,g⟩ :: rest) (Fr n s ds) w:=pw a (fun _=>Ck hp hb) K
theorem abS{T:Array TypeId}{k:IntKind}{a b c:Int}(e:ev n s x = .int k a)(f:ev n s y = .int k b)(d:(if b<a then b else a)=c) :
 (execOp (ev n s) ⟨dd,.call ⟨.builtin .min,#[x,y],T⟩,ty,pos,af,g⟩).run P w = .ok (.value (.int k c)) w:=by
 subst d;simp[execOp,resolve,invoke,builtin,e,f,Builtin.min_,Builtin.min2]
theorem min2{T:Array TypeId}{k:IntKind}{a b c:Int}(f:gC ops n s g=true)(h:ev n s x = .int k a)(i:ev n s y = .int k b)(e:(if b<a then b else a)=c)
 (K:WL r P ops Q rest (Fr n ((d,.int k c) :: s) ds) w):WL r P ops Q (⟨some d,.call ⟨.builtin .min,#[x,y],T⟩,ty,pos,af,g⟩ :: rest) (Fr n s ds) w:=pw f (fun _=>abS h i e) K
theorem abF{T:Array TypeId}{k:IntKind}{a b c:Int}(e:ev n s x = .int k a)(f:ev n s y = .int k b)(d:(if a<b then b else a)=c) :
 (execOp (ev n s) ⟨dd,.call ⟨.builtin .max,#[x,y],T⟩,ty,pos,af,g⟩).run P w = .ok (.value (.int k c)) w:=by
 subst d;simp[execOp,resolve,invoke,builtin,e,f,Builtin.max_,Builtin.max2]
theorem max2{T:Array TypeId}{k:IntKind}{a b c:Int}(f:gC ops n s g=true)(h:ev n s x = .int k a)(i:ev n s y = .int k b)(e:(if a<b then b else a)=c)
 (K:WL r P ops Q rest (Fr n ((d,.int k c) :: s) ds) w):WL r P ops Q (⟨some d,.call ⟨.builtin .max,#[x,y],T⟩,ty,pos,af,g⟩ :: rest) (Fr n s ds) w:=pw f (fun _=>abF h i e) K
theorem YQ{a:Option Addr}{m c:Nat}{t' : TypeId}(d:ev n s x = .slice a m c)(f:ev n s y = .slice none 0 0)(b:P.underlying t=some (.slice e)) :
 (execOp (ev n s) ⟨dd,.binOp .eql t x y t', ty,pos,af,g⟩).run P w = .ok (.value (.bool a.isNone)) w:=by
 have h:=Lib.run_eql_slice_nil (P:=P) w t e a m c 0 0 b
 simp[execOp,d,f,eqGuard,h]
theorem YP{a:Option Addr}{m c:Nat}{t' : TypeId}(b:gC ops n s g=true)(h:ev n s x = .slice a m c)(i:ev n s y = .slice none 0 0)(f:P.underlying t=some (.slice e))
 (K:WL r P ops Q rest (Fr n ((d,.bool a.isNone) :: s) ds) w):WL r P ops Q (⟨some d,.binOp .eql t x y t', ty,pos,af,g⟩ :: rest) (Fr n s ds) w:=pw b (fun _=>YQ h i f) K
theorem Rz (d:St bs L w)(e:TypeId)(sz len:Nat)(cs:List Value)(a:cs.length=len*sz)(c:len<=maxLen) :
 St bs (row (.slice (some ⟨w.heap.size,0,none⟩) len len) e sz len cs :: L) (w.alloc (.cells cs.toArray e)) :=
 d.sN (gw.alloc [] w _) (fun b hb=>by simp[row,Value.ownBlock]at hb;omega) (by simp[row,Value.ownBlock]) (fun b hb=>by simp[row,Value.ownBlock]at hb;simp;omega)
  ⟨a,.inr ⟨w.heap.size,len,cs.toArray,rfl,lD _,heap_alloc_new w _,zj _,c,by simp[a],by simp[<-a]⟩⟩
theorem N3{len:Nat}{ps:List (Nat×Operand)}{pvs:List (Nat×Value)}{cs:List Value}(hp:ps.map (fun q=>(q.1,ev n s q.2))=pvs)(f:P.underlying t=some (.slice e))(hi:TI P e sz by_ z)
 (a:Instr.fill (fun i=>some (i*sz,sz)) ((Array.range (len*sz)).map (z.cells[· % z.cells.size]!)) pvs=some cs.toArray) (h:len*sz<=16777216) :
 (execOp (ev n s) ⟨dd,.buildSlice t len ps.toArray,ty,pos,af,g⟩).run P w = .ok (.value (.slice (some ⟨w.heap.size,0,none⟩) len len)) (w.alloc (.cells cs.toArray e)):=by
 have b:(ps.toArray.map fun(i,x)=>(i,ev n s x))=pvs.toArray:=by rw[<-hp];simp
 have c:¬ len*sz>2 ^ 24:=by simp;omega
 simp only[execOp,b,Instr.buildSlice,zt,run_underlying f,zo,hi.size,zz]
 rw[if_neg c]
 by_cases h0:len*sz=0
 . simp only[h0,if_true,zt,zz,zo]
   rw[h0]at a
   have d : Instr.fill (fun i=>some (i*sz,sz)) ((Array.range 0).map ((#[]:Array Value)[· % (#[]:Array Value).size]!)) pvs=some cs.toArray:=by
    rw[<-a];simp[Array.range_zero']
   simp only[d, zt,zz,zo]
   rfl
 . simp only[h0,if_false,zt,hi.zR,zz,zo,a]
   rfl
theorem Vw{len:Nat}{ps:List (Nat×Operand)}{pvs:List (Nat×Value)}{cs:List Value}(f:gC ops n s g=true)(hp:ps.map (fun q=>(q.1,ev n s q.2))=pvs)(l:P.underlying t=some (.slice e))(hi:TI P e sz by_ z)
 (c:Instr.fill (fun i=>some (i*sz,sz)) ((Array.range (len*sz)).map (z.cells[· % z.cells.size]!)) pvs=some cs.toArray) (h:cs.length=len*sz) (j:Nat.ble (len*sz) 16777216=true) (a:Nat.ble len 16777216=true) (k:St bs L w)
 (K:∀ b w', w.heap.size<=b->gw [] w w' -> St bs (row (.slice (some ⟨b,0,none⟩) len len) e sz len cs :: L) w' -> WL r P ops Q rest (Fr n ((d,.slice (some ⟨b,0,none⟩) len len) :: s) ds) w') :
 WL r P ops Q (⟨some d,.buildSlice t len ps.toArray,ty,pos,af,g⟩ :: rest) (Fr n s ds) w :=
 pv f rfl (N3 hp l hi c (pL j)) (K _ _ (zj _) (gw.alloc [] w _) (Rz k e sz len cs h (by have:=pL a;simp only[maxLen];omega)))
def idx:Nat->List Value->List (Nat×Value)
 | _,[]=>[]
 | i,v :: vs=>(i,v) :: idx (i+1) vs
theorem Qf(off:Nat):∀ (l:List Value) (a:Nat) (b:Array Value),off+a+l.length<=b.size ->
 (l.zipIdx a).foldl (fun cs (q:Value×Nat)=>cs.setIfInBounds (off+q.2) q.1) b=(b.toList.take (off+a)++l++b.toList.drop (off+a+l.length)).toArray:=by
 intro l
 induction l with
 | nil=>intro a b _;simp
 | cons c l f =>
  intro a b h
  simp only[List.zipIdx_cons,List.foldl_cons]
  rw[f (a+1) _ (by simp at h ⊢;omega)]
  simp only[zb]at h
  have e:off+a<b.toList.length:=by simp;omega
  congr 1
  rw[Md,Ml,if_pos e]
  have e1:(b.toList.take (off+a)++c :: b.toList.drop (off+a+1)).take (off+(a+1))=b.toList.take (off+a)++[c]:=by
   grind
  have d:(b.toList.take (off+a)++c :: b.toList.drop (off+a+1)).drop (off+(a+1)+l.length)=b.toList.drop (off+a+(l.length+1)):=by
   rw[List.drop_append,zw,xu o_,GP (by simp;omega),show off+(a+1)+l.length-(off+a)=l.length+1 by omega]
   simp only[uA,List.drop_succ_cons,zdt]
   congr 1;omega
  rw[e1,d]
  simp
theorem P9(sz:Nat):∀ (vs:List Value) (k:Nat) (a:Array Value),(∀ v∈vs,v.cells.size=sz)->k*sz+vs.length*sz<=a.size ->
 Instr.fill (fun i=>some (i*sz,sz)) a (idx k vs)=some (a.toList.take (k*sz)++vs.flatMap (·.cells.toList)++a.toList.drop (k*sz+vs.length*sz)).toArray:=by
 intro vs
 induction vs with
 | nil=>intro k a _ _;simp[idx,Instr.fill]
 | cons v vs h =>
  intro k a hs e
  have hv:=hs v s_
  simp only[zb,rG,Nat.one_mul]at e
  simp only[idx,Instr.fill,hv]
  rw[if_neg (by simp;omega)]
  have l:=Qf (k*sz) v.cells.toList 0 a (by simp[hv];omega)
  have g:Array.foldl (fun cs (q:Value×Nat)=>cs.setIfInBounds (k*sz+q.2) q.1) a v.cells.zipIdx=(a.toList.take (k*sz)++v.cells.toList++a.toList.drop (k*sz+sz)).toArray:=by
   rw[<-Array.foldl_toList,Array.toList_zipIdx]
   grind
  rw[show (Array.foldl (fun cs (x:Value×Nat)=>match x with|(c,j)=>cs.setIfInBounds (k*sz+j) c) a v.cells.zipIdx)=_ from g]
  have b:v.cells.toList.length=sz:=by simp[hv]
  rw[h (k+1) _ (fun u f=>hs u (by simp[f])) (by simp[b,rG];omega)]
  congr 2
  simp only[List.toList_toArray,rG,Nat.one_mul,z7,zb]
  have e1:(a.toList.take (k*sz)++v.cells.toList++a.toList.drop (k*sz+sz)).take (k*sz+sz)=a.toList.take (k*sz)++v.cells.toList:=by
   grind
  have d:(a.toList.take (k*sz)++v.cells.toList++a.toList.drop (k*sz+sz)).drop (k*sz+sz+vs.length*sz)=a.toList.drop (k*sz+(vs.length*sz+sz)):=by
   rw[List.drop_append,GP (by simp[b];omega)]
   simp only[zp,zw,tg,b,uA,zdt]
   congr 1;omega
  rw[e1,d]
  simp
theorem jJ{len:Nat}{ps:List (Nat×Operand)}{vs cs:List Value}(h:gC ops n s g=true)(hp:ps.map (fun q=>(q.1,ev n s q.2))=idx 0 vs)(k:P.underlying t=some (.slice e))(hi:TI P e sz by_ z)
 (i:vs.length=len) (hv:∀ v∈vs,v.cells.size=sz) (hcs:vs.flatMap (·.cells.toList)=cs) (c:Nat.ble (len*sz) 16777216=true) (a:Nat.ble len 16777216=true) (j:St bs L w)
 (K:∀ b w', w.heap.size<=b->gw [] w w' -> St bs (row (.slice (some ⟨b,0,none⟩) len len) e sz len cs :: L) w' -> WL r P ops Q rest (Fr n ((d,.slice (some ⟨b,0,none⟩) len len) :: s) ds) w') :
 WL r P ops Q (⟨some d,.buildSlice t len ps.toArray,ty,pos,af,g⟩ :: rest) (Fr n s ds) w:=by
 subst i hcs
 have f:(vs.flatMap (·.cells.toList)).length=vs.length*sz:=by
  clear hp c a K
  induction vs with
  | nil=>simp
  | cons v vs m=>simp only[z7,zp,zb,tg,hv v s_,m (fun u l=>hv u (by simp[l])),rG];omega
 refine Vw h hp k hi ?_ f c a j K
 rw[P9 sz vs 0 _ hv s_]
 simp
theorem abA(z0:Value)(k:Nat):madeCells #[z0] k=(List.replicate k z0).toArray:=by
 unfold madeCells
 grind
theorem abU{k k' : IntKind}{c m:Nat}(l:ev n s x = .int k (m:Int))(o:ev n s y = .int k' (c:Int))(j:P.underlying t=some (.slice e))(hi:TI P e 1 by_ z)(p:z.cells = #[z])(hm:m<=c)(hb:by_*c<=281474976710656)(q:c<=9223372036854775807) :
 (execOp (ev n s) ⟨dd,.makeSlice t x y,ty,pos,af,g⟩).run P w = .ok (.value (.slice (some ⟨w.heap.size,0,none⟩) m c)) (w.alloc (.cells (List.replicate c z).toArray e)):=by
 obtain⟨i,h,b,d,f⟩:=hi.get
 subst d
 have a:=run_make (P:=P) w t e i z j h f k k' m c o_ o_ (by rw[<-Int.natCast_mul];omega) o_
 rw[p,b,sD]at a
 simp only[nT]at a
 rw[abA]at a
 simp only[execOp,l,o,zt,a,zo,zz]
theorem jf{k k' : IntKind}{c m:Nat}(f:gC ops n s g=true)(j:ev n s x = .int k (m:Int))(l:ev n s y = .int k' (c:Int))(i:P.underlying t=some (.slice e))(hi:TI P e 1 by_ z)(o:z.cells = #[z])(hm:m<=c)(hb:by_*c<=281474976710656)(a:c<=9223372036854775807)(h:St bs L w)
 (K:∀ b w', w.heap.size<=b->gw [] w w' -> St bs (blk b e (List.replicate c z) :: L) w' -> WL r P ops Q rest (Fr n ((d,.slice (some ⟨b,0,none⟩) m c) :: s) ds) w') :
 WL r P ops Q (⟨some d,.makeSlice t x y,ty,pos,af,g⟩ :: rest) (Fr n s ds) w :=
 pv f rfl (abU j l i hi o hm hb a) (K _ _ (zj _) (gw.alloc [] w _) (yE h e _))
theorem St.T8{i b:Nat}{cs:List Value}{m c sz:Nat}(h:St bs L w)(hi:L[i]? = some (blk b e cs))(d:cs.length=c*sz)(hm:m<=c)(f:c<=maxLen) :
 St bs (L.set i (row (.slice (some ⟨b,0,none⟩) m c) e sz m (cs.take (m*sz)))) w:=by
 have g:=h.El hi
 refine h.iR hi (gw.refl _ _) (fun x a=>.inl (by simpa[row,Value.ownBlock,blk]using a)) (by simp[row,Value.ownBlock]) (fun x a=>?_) ?_
 . simp[row,Value.ownBlock]at a
   grind
 . refine⟨by simp[d];rw[<-Nat.mul_min_mul_right,xu (zN _ hm)],.inr ⟨b,c,cs.toArray,rfl,lD _,g,hm,f,by simp[d],s_⟩⟩
theorem St.aem{i:Nat}(h:St bs L w)(hi:L[i]? = some (row v e sz m xs)):Src w v sz m xs:=by
 have a:w.ownsRow 0 e sz v m xs:=h.own _ (zd hi)
 rcases a.2 with ⟨rfl,rfl⟩|⟨d, c,cur,rfl,_⟩
 . exact⟨none,0,rfl,a.1,fun j x b=>by have:=a.1;simp at this;subst this;simp at b⟩
 . exact⟨some ⟨d, 0,none⟩,c,rfl,a.1,fun j x b=>⟨_,rfl,a.cells rfl j x b⟩⟩
theorem St.aei{i:Nat}{k:IntKind}{ys:List Int}(h:St bs L w)(hi:L[i]? = some (row v e 1 ys.length (ys.map (.int k))))(hk:∀ y∈ys,ia k y):Ints k (fun b=>b∈iZ L) w v ys:=by
 have f:w.ownsRow 0 e 1 v ys.length (ys.map (.int k)):=h.own _ (zd hi)
 rcases f.2 with ⟨rfl,o⟩|⟨c, l,cur,rfl,_,p,m,n,_⟩
 . grind [Sl.nil]
 . refine⟨_,l,rfl,m,n,fun j y d=>⟨c, 0,[.int k y],rfl,r0 hi (by simp[row,Value.ownBlock]),rfl,⟨rfl,hk y (zd d)⟩,fun q u a=>?_⟩⟩
   cases q with
   | zero =>
    simp at a
    subst a
    have:=f.cells (g:=c) rfl j (.int k y) (by simp[d])
    rw[Addr.add_lit]at this
    simpa using this
   | succ q=>simp at a
end
section
variable {P:Program} {ops:Array Oper} {Q:Exit->Act->World->Prop} {n:Nat} {s s0:List (Nat×Value)} {ds:List Deferred} {w w' : World} {o:Oper} {v:Value} {C:World->Prop} {l:List Oper} {Nx:Value->World->Prop}
theorem qv(a:gC ops n s o.guard=true)(hd:nI o.op=true)(h:(execOp (ev n s) o).run P w = .ok (.value v) w):mF P ops n o s v C w:=.inl ⟨a,hd,.inl h⟩
theorem qc{f:FuncId}{args:Array Value}(b:gC ops n s o.guard=true)(hd:nI o.op=true)(h:(execOp (ev n s) o).run P w = .ok (.enter f args) w)(a:CR P f args w (fun v' w' => v' = v/\C w')):mF P ops n o s v C w:=.inl ⟨b,hd,.inr ⟨f,args,h,a⟩⟩
theorem Fp(b:gC ops n s o.guard=true)(hd:nI o.op=true)(h:(execOp (ev n s) o).run P w = .ok (.value v) w')(a:Nx v w'):ny P ops Q n ds s0 l o s Nx w:=.inl ⟨b,hd,.inl ⟨v,w', h,a⟩⟩
theorem mun(b:gC ops n s o.guard=true)(hd:nI o.op=true)(h:(execOp (ev n s) o).run P w = .ok .skip w')(a:Nx undef w'):ny P ops Q n ds s0 l o s Nx w:=.inl ⟨b,hd,.inr (.inl ⟨w', h,a⟩)⟩
theorem Fi{f:FuncId}{args:Array Value}{R:Value->World->Prop}(g:gC ops n s o.guard=true)(hd:nI o.op=true)(h:(execOp (ev n s) o).run P w = .ok (.enter f args) w)(c:CR P f args w R)(a:∀ v w', R v w' -> Nx v w'):ny P ops Q n ds s0 l o s Nx w :=
 .inl ⟨g,hd,.inr (.inr ⟨f,args,h,Calls.mono c (fun e w' ⟨v,d,b⟩=>by subst d;exact a v w' b)⟩)⟩
variable {dd:Option Nat} {ty:TypeId} {pos:String} {af:Array Edge} {g:Option (Nat×Bool)}
theorem sP{f:FuncId}{a:List Operand}{T:Array TypeId}{vl:List Value}(hvs:a.map (ev n s)=vl)(b:gi P f) :
 (execOp (ev n s) ⟨dd,.call ⟨.value (.func f),a.toArray,T⟩,ty,pos,af,g⟩).run P w = .ok (.enter f vl.toArray) w:=by
 simp only[execOp,resolve,invoke,Deferred.ofValue,Fh, hvs]
 simp[ev,b _ _]
end
end Go.Sx
namespace Go.Sx
open Go
abbrev ig(k:IntKind)(v:Value)(e:TypeId)(ys:List Int):fT:=row v e 1 ys.length (ys.map (.int k))
section
variable {r:Option Nat} {P:Program} {ops:Array Oper} {Q:Exit->Act->World->Prop} {rest:List Oper} {n:Nat} {s:List (Nat×Value)} {ds:List Deferred} {w w' w0:World}
variable {d:Nat} {dd:Option Nat} {ty:TypeId} {pos:String} {af:Array Edge} {g:Option (Nat×Bool)} {v u:Value} {x y:Operand} {bs:List (World×List Nat)} {L L' : List fT} {t e:TypeId} {sz by_ m cnt:Nat} {z:Value} {k:IntKind} {ys zs:List Int}
theorem aas(k:IntKind)(zs:List Int):∀ x∈zs.map (Value.int k),x.oneCell' = true:=by
 intro x a
 obtain⟨y,_,rfl⟩:=zy.1 a
 rfl
theorem vQ{LL:Value->List fT}(i:Nat)(h:gC ops n s g=true)(m:ev n s x=v)(o:ev n s y=u)(l:P.underlying t=some (.slice e))(hi:TI P e 1 by_ z)(p:z.cells.size=1)
 (j:St bs L w) (c:L[i]? = some (ig k v e ys)) (hs:Src w u 1 zs.length (zs.map (.int k))) (hb:(ys.length+zs.length)*by_<=140737488355328) (q:ys.length+zs.length<=9223372036854775807)
 (f:∀ v', L.set i (ig k v' e (ys++zs))=LL v')
 (K:∀ v' w', St bs (LL v') w' -> gw v.ownBlock.toList w w' -> WL r P ops Q rest (Fr n ((d,v') :: s) ds) w') :
 WL r P ops Q (⟨some d,.call ⟨.builtin .append,#[x,y],#[t,t]⟩,ty,pos,af,g⟩ :: rest) (Fr n s ds) w:=by
 refine NO i h m o l hi p d_ j c hs (aas k zs) hb (by simp only[maxLen];omega) fun v' w' a b=>K v' w' ?_ b
 rw[<-f]
 simpa[ig]using a
theorem St.Ef(h:St bs L w)(e:TypeId)(sz:Nat):St bs (row (.slice none 0 0) e sz 0 [] :: L) w :=
 h.add (lo:=w.heap.size) (fun p hp=>(h.base p hp).gA.size) h.lt (fun b hb=>by simp[row,Value.ownBlock]at hb) (by simp[row,Value.ownBlock]) (fun b hb=>by simp[row,Value.ownBlock]at hb) (World.ownsRow_nil w 0 e sz)
end
end Go.Sx
namespace Go.Sx
open Go
section
variable {Γ:Type} {r:Option Nat} {P:Program} {ops:Array Oper} {Q:Exit->Act->World->Prop} {n:Nat} {ds:List Deferred} {s0:List (Nat×Value)} {l0 l:List Oper} {pre:List (List Nat)} {mem:List Nat} {V vs:List (Γ->Value)} {v:Γ->Value}
variable {bs:List (World×List Nat)} {Ls:List ((Γ->List fT)×(Γ->World->Prop))} {i lo:Nat} {s:Γ->List (Nat×Value)} {o:Oper} {L L' L1 L2:Γ->List fT} {F F' F1 F2:Γ->World->Prop}
def jC(bs:List (World×List Nat))(Ls:List ((Γ->List fT)×(Γ->World->Prop)))(p:Nat)(g:Γ)(w:World):Prop :=
 match Ls[p]? with
 | some (L,F)=>St bs (L g) w/\F g w
 | none=>False
theorem jC.at{p:Nat}(h:Ls[p]? = some (L,F)){g:Γ}{w:World}:jC bs Ls p g w↔(St bs (L g) w/\F g w):=by simp only[jC,h]
theorem mq.refl(g:Γ):∀ (V:List (Γ->Value)) (k:Nat),mq pre i g g k V:=by
 intro V
 induction V with
 | nil=>intro k;trivial
 | cons v V a=>intro k;exact⟨by cases ((pre.getD k []).contains i||k==i)<;>simp,a (k+1)⟩
theorem RI:lY P ops Q n ds s0 l0 pre mem V (jC bs Ls) i s [] []:=trivial
theorem acu(hm:mem.contains i=false)(h:∀ g w C,mF P ops n o (s g) (v g) C w)(K:lY P ops Q n ds s0 l0 pre mem V (jC bs Ls) (i+1) (fun g=>kT o.dst (v g) (s g)) l vs) :
 lY P ops Q n ds s0 l0 pre mem V (jC bs Ls) i s (o :: l) (v :: vs):=by
 refine⟨?_,K⟩
 rw[hm]
 exact fun p g w _ _ _=>h g w _
theorem mF.congr{C b : World->Prop}{s:List (Nat×Value)}{v:Value}{w:World}(g:∀ w,C w->b w)(h:mF P ops n o s v C w):mF P ops n o s v b w:=by
 rcases h with ⟨c,d,a|⟨f,args,a,e⟩⟩|h
 . exact .inl ⟨c,d,.inl a⟩
 . exact .inl ⟨c,d,.inr ⟨f,args,a,e.mono fun v' w' h=>⟨h.1,g w' h.2⟩⟩⟩
 . exact .inr h
theorem wF(hm:mem.contains i=false)(j:uW pre mem i=lo)(f:uQ pre mem i=lo)(a:Ls[lo]? = some (L,F))
 (h:∀ g w,St bs (L g) w->F g w->mF P ops n o (s g) (v g) (fun w' => St bs (L g) w' /\ F g w') w) (K:lY P ops Q n ds s0 l0 pre mem V (jC bs Ls) (i+1) (fun g=>kT o.dst (v g) (s g)) l vs) :
 lY P ops Q n ds s0 l0 pre mem V (jC bs Ls) i s (o :: l) (v :: vs):=by
 refine⟨?_,K⟩
 rw[hm]
 intro p g w d e c
 obtain rfl:p=lo:=by omega
 have b := (jC.at a).1 c
 exact(h g w b.1 b.2).congr fun w' h=>(jC.at a).2 h
theorem Km(hm:mem.contains i=false)(m:uW pre mem i=lo)(k:uQ pre mem i=lo+1)(b:Ls[lo]? = some (L,F))(c:Ls[lo+1]? = some (L1,F1))
 (h:∀ g w,St bs (L g) w->F g w->mF P ops n o (s g) (v g) (fun w' => St bs (L g) w' /\ F g w') w) (e : ∀ g w,St bs (L1 g) w->F1 g w->mF P ops n o (s g) (v g) (fun w' => St bs (L1 g) w' /\ F1 g w') w)
 (K:lY P ops Q n ds s0 l0 pre mem V (jC bs Ls) (i+1) (fun g=>kT o.dst (v g) (s g)) l vs) :
 lY P ops Q n ds s0 l0 pre mem V (jC bs Ls) i s (o :: l) (v :: vs):=by
 refine⟨?_,K⟩
 rw[hm]
 intro p g w f j d
 rcases(show p=lo\/p=lo+1 by omega)with rfl|rfl
 . have a := (jC.at b).1 d
   exact(h g w a.1 a.2).congr fun w' h=>(jC.at b).2 h
 . have a := (jC.at c).1 d
   exact(e g w a.1 a.2).congr fun w' h=>(jC.at c).2 h
theorem acv(hm:mem.contains i=false)(r:uW pre mem i=lo)(q:uQ pre mem i=lo+2)(c:Ls[lo]? = some (L,F))(d:Ls[lo+1]? = some (L1,F1))(e:Ls[lo+2]? = some (L2,F2))
 (h:∀ g w,St bs (L g) w->F g w->mF P ops n o (s g) (v g) (fun w' => St bs (L g) w' /\ F g w') w) (f : ∀ g w,St bs (L1 g) w->F1 g w->mF P ops n o (s g) (v g) (fun w' => St bs (L1 g) w' /\ F1 g w') w)
 (j : ∀ g w,St bs (L2 g) w->F2 g w->mF P ops n o (s g) (v g) (fun w' => St bs (L2 g) w' /\ F2 g w') w)
 (K:lY P ops Q n ds s0 l0 pre mem V (jC bs Ls) (i+1) (fun g=>kT o.dst (v g) (s g)) l vs) :
 lY P ops Q n ds s0 l0 pre mem V (jC bs Ls) i s (o :: l) (v :: vs):=by
 refine⟨?_,K⟩
 rw[hm]
 intro p g w k m b
 rcases(show p=lo\/p=lo+1\/p=lo+2 by omega)with rfl|rfl|rfl
 . have a := (jC.at c).1 b
   exact(h g w a.1 a.2).congr fun w' h=>(jC.at c).2 h
 . have a := (jC.at d).1 b
   exact(f g w a.1 a.2).congr fun w' h=>(jC.at d).2 h
 . have a := (jC.at e).1 b
   exact(j g w a.1 a.2).congr fun w' h=>(jC.at e).2 h
theorem ny.mono{s:List (Nat×Value)}{w:World}{N j : Value->World->Prop}(g:∀ v w,N v w->j v w)(h:ny P ops Q n ds s0 l0 o s N w):ny P ops Q n ds s0 l0 o s j w:=by
 rcases h with ⟨a,b,⟨v,w', c,d⟩|⟨w', c,d⟩|⟨f,args,c,d⟩⟩|⟨a,b⟩
 . exact .inl ⟨a,b,.inl ⟨v,w', c,g _ _ d⟩⟩
 . exact .inl ⟨a,b,.inr (.inl ⟨w', c,g _ _ d⟩)⟩
 . refine .inl ⟨a,b,.inr (.inr ⟨f,args,c,Calls.mono d fun e w' i=>?_⟩)⟩
   cases e with
   | returned v=>exact g _ _ i
   | panicked ch=>exact i
   | outgrown=>exact i
 . exact .inr ⟨a,g _ _ b⟩
theorem Kl{k:Nat}(hm:mem.contains i=true)(hk:mem.idxOf i=k)(f:Ls[k]? = some (L,F))(j : Ls[k+1]? = some (L', F'))
 (h:∀ g w,St bs (L g) w->F g w->ny P ops Q n ds s0 l0 o (s g) (fun v' w' => ∃ a, (St bs (L' a) w' /\ F' a w')/\v' = v a /\ mq pre i g a 0 V) w)
 (K:lY P ops Q n ds s0 l0 pre mem V (jC bs Ls) (i+1) (fun g=>kT o.dst (v g) (s g)) l vs) :
 lY P ops Q n ds s0 l0 pre mem V (jC bs Ls) i s (o :: l) (v :: vs):=by
 refine⟨?_,K⟩
 rw[hm,hk]
 intro g w m
 have b := (jC.at f).1 m
 exact(h g w b.1 b.2).mono fun v' w' ⟨a, c,d,e⟩=>⟨a, (jC.at j).2 c,d,e⟩
theorem rgs{id:Nat}{w:World}(hm:P.follows .mixedOrders=true)(pre:List (List Nat))(mem:List Nat)(j:FH l pre mem=true)(V:List (Γ->Value))(Ls:List ((Γ->List fT)×(Γ->World->Prop)))(a:Γ)
 (sE:Γ->List (Nat×Value)) (e:Ls[0]? = some (L,F)) (k:St bs (L a) w) (d:∀ w', gw [] w w' -> F a w') (f:lY P l.toArray Q n ds s0 l pre mem V (jC bs Ls) 0 (fun _=>s0) l V)
 (c:∀ g,ja (fun _=>true) 0 l (V.map (· g)) s0=sE g) (b:Ls[mem.length]? = some (L', F'))
 (i:∀ g w', St bs (L' g) w' -> F' g w' -> Q .normal (Fr n (sE g) ds) w'):WP r P (.region id l.toArray true) Q (Fr n s0 ds) w :=
 SN hm pre mem j V (jC bs Ls) a sE ((jC.at e).2 ⟨k.grow (gw.drew [] w),d _ (gw.drew [] w)⟩) f c fun g w' h=>i g w' ((jC.at b).1 h).1 ((jC.at b).1 h).2
end
def NK(sz:Nat)(v:Value)(i:Nat):Value:=match v with
 | .slice (some ⟨b,o,_⟩) _ _=>.pointer (some ⟨b,o+i*sz,none⟩)
 | _=>.pointer none
def jB(sz:Nat)(v:Value)(l h:Nat):Value:=match v with
 | .slice a _ c=>.slice (if c=l then a else a.map (·.add (l*sz))) (h-l) (c-l)
 | _=>v
section
variable {P:Program} {n:Nat} {s:List (Nat×Value)} {w:World} {dd:Option Nat} {ty:TypeId} {pos:String} {af:Array Edge} {g:Option (Nat×Bool)} {v:Value} {x y:Operand} {t e:TypeId} {sz by_:Nat} {z:Value} {u:TypeDesc}
theorem Sl.jB{α:Type}{sz:Nat}{enc:World->α->List Value->Prop}{ok:Nat->Prop}{w:World}{v:Value}{xs:List α}{l h:Nat}(hs:Sl sz enc ok w v xs)(i:l<=h)(g:h<=xs.length):Sl sz enc ok w (Go.Sx.jB sz v l h) ((xs.take h).drop l):=by
 obtain⟨a,c,rfl,b,d,e⟩:=hs
 have f:Sl sz enc ok w (.slice a xs.length c) xs:=⟨a,c,rfl,b,d,e⟩
 exact f.cut i g
theorem JJ{α:Type}{enc:World->α->List Value->Prop}{ok:Nat->Prop}{w0:World}{ys:List α}(f:ev n s x=v)(d:P.underlying t=some (.slice e))(b:Sl sz enc ok w0 v ys) :
 (execOp (ev n s) ⟨dd,.call ⟨.builtin .len,#[x],#[t]⟩,ty,pos,af,g⟩).run P w = .ok (.value (.int .i64 ys.length)) w:=by
 obtain⟨a,c,rfl,_⟩:=b
 exact Q2 f d
theorem aax{α:Type}{k' : IntKind}{enc:World->α->List Value->Prop}{ok:Nat->Prop}{w0:World}{ys:List α}{i:Int}{el:α}(l:ev n s x=v)(m:ev n s y = .int k' i)(k:P.underlying t=some (.slice e))(hi:TI P e sz by_ z)
 (j:Sl sz enc ok w0 v ys) (f:0<=i) (d:ys[i.toNat]? = some el) :
 (execOp (ev n s) ⟨dd,.indexAddr t x y,ty,pos,af,g⟩).run P w = .ok (.value (NK sz v i.toNat)) w:=by
 have r:=(zh.1 d).1
 obtain⟨a,c,rfl,_,_,h⟩:=j
 obtain⟨b,o,vs,rfl,_,q,_,p⟩:=h i.toNat el d
 exact Jr l m k hi ⟨f,o_⟩ rfl
theorem aeS{α:Type}{enc:World->α->List Value->Prop}{ok:Nat->Prop}{w0:World}{ys:List α}{low high:Option Operand}{l h:Nat}(f:ev n s x=v)(d:P.underlying t=some (.slice e))(hi:TI P e sz by_ z)
 (u:Sl sz enc ok w0 v ys) (i:match low with|none=>l=0|some p=>∃ k,ev n s p = .int k (l:Int)) (b:match high with|none=>h=ys.length|some p=>∃ k,ev n s p = .int k (h:Int)) (A:l<=h) (E:h<=ys.length) :
 (execOp (ev n s) ⟨dd,.slice t x low high none,ty,pos,af,g⟩).run P w = .ok (.value (Go.Sx.jB sz v l h)) w:=by
 obtain⟨a,c,rfl,B,C,D⟩:=u
 have b1:∀ (m:Nat) (o:BoundsCode) (k:IntKind) (q:Nat),q<=m->(Instr.sliceBound (.int k (q:Int)) m o).run P w = .ok q w:=by
  intro m o k q j
  have:(0:Int)<=(q:Int)/\(q:Int)<=(m:Int):=by omega
  simp[Instr.sliceBound,asIntOf,this]
 have r:h<=c:=by omega
 have y:l<=ys.length:=by omega
 cases low with
 | none =>
  simp only at i
  subst i
  cases high with
  | none =>
   simp only at b
   subst b
   simp[execOp,f,Instr.sliceAt,Instr.slice,run_underlying d,Instr.sliceBounds,hi.size,Go.Sx.jB]
  | some p =>
   obtain⟨k,hp⟩:=b
   simp[execOp,f,hp,Instr.sliceAt,Instr.slice,run_underlying d,Instr.sliceBounds,hi.size,b1 _ _ _ _ r,Go.Sx.jB]
 | some q =>
  obtain⟨k,j⟩:=i
  cases high with
  | none =>
   simp only at b
   subst b
   simp[execOp,f,j,Instr.sliceAt,Instr.slice,run_underlying d,Instr.sliceBounds,hi.size,b1 _ _ _ _ y,Go.Sx.jB]
  | some p =>
   obtain⟨k', hp⟩:=b
   simp[execOp,f,j,hp,Instr.sliceAt,Instr.slice,run_underlying d,Instr.sliceBounds,hi.size,b1 _ _ _ _ r,b1 _ _ _ _ A,Go.Sx.jB]
end
section
variable {Γ:Type} {P:Program} {ops:Array Oper} {Q:Exit->Act->World->Prop} {n:Nat} {s s0:List (Nat×Value)} {ds:List Deferred} {w:World} {o:Oper} {v u:Value} {l:List Oper} {Nx:Value->World->Prop}
variable {dd:Option Nat} {d:Nat} {ty:TypeId} {pos:String} {af:Array Edge} {g:Option (Nat×Bool)} {x y:Operand} {t e:TypeId} {sz by_ cnt:Nat} {z:Value} {bs:List (World×List Nat)} {L L' : List fT} {news:List Value}
variable {pre:List (List Nat)} {i:Nat} {V:List (Γ->Value)} {a b:Γ} {k:Nat} {f:Γ->Value}
theorem lu(h:bif (pre.getD k []).contains i||k==i then True else f b=f a)(K:mq pre i a b (k+1) V):mq pre i a b k (f :: V):=⟨h,K⟩
theorem afc:mq pre i a b k []:=trivial
theorem JT{b o:Nat}{T:TypeId}{cs cs' vs:List Value}(i:Nat)(f:gC ops n s g=true)(m:ev n s x = .pointer (some ⟨b,o,none⟩))(p:ev n s y=v)(hvs:v.cells.toList=vs)
 (k:TI P t sz by_ z) (j:vs.length=sz) (h1:vs.all (·.oneCell')=true) (h:St bs L w) (hi:L[i]? = some (blk b T cs)) (e:Nat.ble (o+vs.length) cs.length=true)
 (hcs:setAt cs o vs=cs') (d:L.set i (blk b T cs')=L') (K:∀ w', St bs L' w' -> Nx undef w') :
 ny P ops Q n ds s0 l ⟨none,.store t x y,ty,pos,af,g⟩ s Nx w:=by
 obtain⟨w', a,c,q⟩:=Ln (dd:=none) (ty:=ty) (pos:=pos) (af:=af) (g:=g) i m p hvs k j h1 h hi (pL e) hcs d
 exact mun f rfl a (K w' c)
theorem Fe{cs:List Value}(a:gC ops n s g=true)(d:TI P t sz by_ z)(hcs:z.cells.toList=cs)(c:St bs L w)
 (K:∀ b w', St bs (blk b t cs :: L) w' -> Nx (.pointer (some ⟨b,0,none⟩)) w'):ny P ops Q n ds s0 l ⟨dd,.alloc t,ty,pos,af,g⟩ s Nx w:=by
 subst hcs
 refine Fp (v:=.pointer (some ⟨w.heap.size,0,none⟩)) (w' := w.alloc (.cells z.cells t)) a rfl ?_ (K _ _ ?_)
 . simp only[execOp,Instr.alloc,zt,d.zR,zo]
   rfl
 . have:=yE c t z.cells.toList
   simpa using this
theorem JS{cs:List Value}(a:gC ops n s g=true)(d:ev n s x=v)(hcs:v.cells.toList=cs)(c:St bs L w)
 (K:∀ b w', St bs (blk b t cs :: L) w' -> Nx (.pointer (some ⟨b,0,none⟩)) w'):ny P ops Q n ds s0 l ⟨dd,.box t x,ty,pos,af,g⟩ s Nx w:=by
 subst hcs
 refine Fp (v:=.pointer (some ⟨w.heap.size,0,none⟩)) (w' := w.alloc (.cells v.cells t)) a rfl ?_ (K _ _ ?_)
 . simp only[execOp,d,Instr.box]
   rfl
 . have:=yE c t v.cells.toList
   simpa using this
end
end Go.Sx
namespace Go.Sx
open Go
section
variable {w w' w0:World} {bs:List (World×List Nat)} {L:List fT} {b:Nat} {T:TypeId} {cs cs' : List Value}
theorem St.aao(w:World)(h:(blk b T cs).holds w):St [(w,[b])] [blk b T cs] w:=by
 have:=St.Qv w [blk b T cs] (fun R a=>by simp only[z8]at a;subst a;exact h) (by simp[iZ,blk])
  (fun c d=>by
   simp only[iZ,z7,List.flatMap_nil,xq,blk,z8]at d
   subst d
   exact(qg.1 (show w.heap[c]? = _ from h)).1)
 simpa[iZ,blk]using this
theorem Sl.old{α:Type}{sz:Nat}{enc:World->α->List Value->Prop}{ok:Nat->Prop}{v:Value}{xs:List α}(h:Sl sz enc ok w v xs)(hp:0<sz):Sl sz enc (fun b=>ok b/\b<w.heap.size) w v xs:=by
 obtain⟨a,c,e,g,j,k⟩:=h
 refine⟨a,c,e,g,j,fun i x hi=>?_⟩
 obtain⟨b,o,vs,l,hb,f,m,d⟩:=k i x hi
 refine⟨b,o,vs,l,⟨hb,?_⟩,f,m,d⟩
 cases vs with
 | nil=>simp at f;omega
 | cons u vs=>exact World.block_lt_of_cell? w _ (d 0 u rfl)
theorem St.size{X:List Nat}(h:St bs L w)(hb:(w0,X)∈bs):w0.heap.size<=w.heap.size:=(h.gA hb).size
end
end Go.Sx
namespace Go.Sx
open Go
section
variable {P:Program} {n:Nat} {s:List (Nat×Value)} {w:World} {fn:Func} {bs:List (World×List Nat)} {L:List fT} {x y z:ResultVar} {v v' v'' : Value} {t:TypeId} {u:TypeDesc}
def RV(P:Program)(n:Nat)(s:List (Nat×Value))(w:World)(v:Value):ResultVar->Prop
 | .tmp t=>ev n s (.tmp t)=v
 | .cell a T=>∃ b,ev n s (.tmp a) = .pointer (some b)/\(loadVar T b).run P w = .ok v w
def FN(tmps:Array Value):ResultVar->Sem Value
 | .tmp t=>pure (tmps.getD t undef)
 | .cell a t=>do loadVar t (<- asAddr (tmps.getD a undef))
theorem KY(h:RV P n s w v x):(FN (Fr n s []).tmps x).run P w = .ok v w:=by
 cases x with
 | tmp t=>simp only[FN,zz];rw[qW];rw[show ev n s (.tmp t)=v from h]
 | cell a T =>
  obtain⟨d,b,c⟩:=h
  simp only[FN,zt]
  rw[qW,b]
  simp[asAddr,c]
theorem SK(tmps:Array Value):results fn tmps=(do let vs <- fn.results.mapM (FN tmps);pure (if h:vs.size=1 then vs[0]else .tuple vs)):=by
 unfold results
 congr 2
theorem KK(b:fn.results = #[x,y])(h1:RV P n s w v x)(a:RV P n s w v' y):(results fn (Fr n s []).tmps).run P w = .ok (.tuple #[v,v']) w:=by
 rw[SK,b]
 simp[zt,Result.andThen,KY h1,KY a]
theorem oO{R:Value->World->Prop}(b:fn.results = #[x,y])(h1:RV P n s w v x)(a:RV P n s w v' y)(h:R (.tuple #[v,v']) w) :
 bodyPost P fn (fun e w' => ∃ v,e = .returned v/\R v w') .ret (Fr n s []) w:=⟨rfl,_,KK b h1 a,_,rfl,h⟩
theorem pH{t:Nat}(h:ev n s (.tmp t)=v):RV P n s w v (.tmp t):=h
theorem Bm{a b o:Nat}{T:TypeId}(e:ev n s (.tmp a) = .pointer (some ⟨b,o,none⟩))(d:P.underlying T=some u)(c:j6 u=false)(hv:w.cell? ⟨b,o,none⟩=some v):RV P n s w v (.cell a T) :=
 ⟨_,e,by simp only[loadVar,zt,wS d,c,zo];simp[load,Sem.run,hv]⟩
theorem oc{a b o sz by_:Nat}{T:TypeId}{cs:List Value}{z:Value}(h:ev n s (.tmp a) = .pointer (some ⟨b,o,none⟩))(g:P.underlying T=some u)(e:j6 u=true)(f:TI P T sz by_ z)
 (d:cs.length=sz) (hv:∀ j u,cs[j]? = some u->w.cell? ⟨b,o+j,none⟩=some u):RV P n s w (.agg cs.toArray) (.cell a T):=by
 subst d
 have:=run_loadCells_list (P:=P) w ⟨b,o,none⟩ cs (fun j u c=>by rw[Addr.add_lit];exact hv j u c)
 exact⟨_,h,by simp only[loadVar,zt,wS g,e,zo,f.size,this,if_true,zz]⟩
end
end Go.Sx
namespace Go.Sx
open Go
section
variable {P:Program} {n:Nat} {s:List (Nat×Value)} {w:World} {v:Value} {T:TypeId} {sz by_:Nat} {z:Value} {bs:List (World×List Nat)} {L:List fT}
theorem cells_one(h:v.oneCell' = true):v.cells.toList=[v]:=by cases v<;>first|rfl|(simp[Value.oneCell']at h)
theorem Sl.RM{α:Type}{sz:Nat}{enc:World->α->List Value->Prop}{ok:Nat->Prop}{xs:List α}(h:Sl sz enc ok w v xs):v.oneCell' = true:=by
 obtain⟨a,c,rfl,_⟩:=h
 rfl
theorem acJ{e:TypeId}{m:Nat}{xs:List Value}(h:w.ownsRow 0 e sz v m xs):v.oneCell' = true:=by
 rcases h.2 with ⟨rfl,_⟩|⟨g,a,cur,rfl,_⟩<;>rfl
theorem St.aeh{i:Nat}{e:TypeId}{m:Nat}{xs:List Value}(h:St bs L w)(hi:L[i]? = some (row v e sz m xs)):v.oneCell' = true:=acJ (h.own _ (zd hi))
theorem j4:([]:List Value).all (·.oneCell')=true:=rfl
theorem gX{l:List Value}(h:v.oneCell' = true)(k:l.all (·.oneCell')=true):(v :: l).all (·.oneCell')=true:=by simp only[List.all_cons,h,k,Bool.and_self]
theorem St.at{R:fT}{i:Nat}(h:St bs L w)(hi:L[i]? = some R):R.holds w:=h.own _ (zd hi)
def AJ(pl:List (Nat×Nat)):List Value->List (Nat×List Value)->Option (List Value)
 | cs,[]=>some cs
 | cs,(i,vs) :: rest=>match pl[i]? with
  | none=>none
  | some (off,sz)=>bif Nat.beq vs.length sz&&Nat.ble (off+vs.length) cs.length then AJ pl (setAt cs off vs) rest else none
def DK:List (Nat×Value)->List (Nat×List Value)->Prop
 | [],[]=>True
 | (i,v) :: l,(j,vs) :: m=>i=j/\v.cells.toList=vs/\DK l m
 | _,_=>False
theorem P8(pl:List (Nat×Nat)):∀ (ps:List (Nat×Value)) (b:List (Nat×List Value)) (cs out:List Value),DK ps b->AJ pl cs b=some out->Instr.fill (pl.toArray[·]?) cs.toArray ps=some out.toArray:=by
 intro ps
 induction ps with
 | nil =>
  intro b cs out h a
  cases b with
  | nil=>simp only[AJ,Option.some.injEq]at a;subst a;rfl
  | cons q b=>cases h
 | cons p ps f =>
  intro b cs out h a
  cases b with
  | nil=>cases h
  | cons q b =>
   obtain⟨i,v⟩:=p
   obtain⟨j,vs⟩:=q
   obtain⟨rfl,hv,h⟩:=h
   simp only[AJ]at a
   simp only[Instr.fill,BB]
   cases hp:pl[i]? with
   | none=>rw[hp]at a;cases a
   | some p =>
    obtain⟨off,sz⟩:=p
    rw[hp]at a
    simp only at a
    cases hb:(Nat.beq vs.length sz&&Nat.ble (off+vs.length) cs.length)with
    | false=>rw[hb]at a;cases a
    | true =>
     rw[hb]at a
     simp only[cond_true]at a
     rw[mC]at hb
     have g:vs.length=sz:=zM hb.1
     have k:=pL hb.2
     have hs:v.cells.size=vs.length:=by rw[<-hv];simp
     simp only[hs]
     rw[if_neg (by simp;omega)]
     have d:=Qf off v.cells.toList 0 cs.toArray (by simp[hs];omega)
     have e:Array.foldl (fun cs (q:Value×Nat)=>cs.setIfInBounds (off+q.2) q.1) cs.toArray v.cells.zipIdx=(setAt cs off vs).toArray:=by
      rw[<-Array.foldl_toList,Array.toList_zipIdx]
      simp only[pM,tg,hs,hv]at d ⊢
      rw[d]
      simp[setAt]
     rw[show (Array.foldl (fun cs (x:Value×Nat)=>match x with|(c,j)=>cs.setIfInBounds (off+j) c) cs.toArray v.cells.zipIdx)=_ from e]
     simpa only[BB]using f b _ out h a
def jX(P:Program)(T:TypeId)(pl:List (Nat×Nat)):Prop :=
 ∃ fields,P.underlying T=some (.struct fields)/\∀ w,(fields.mapM (fun f=>do pure (f.offset,<-sizeOf f.type):Field->Sem (Nat×Nat))).run P w = .ok pl.toArray w
theorem jo{pl:List (Nat×Nat)}{ps:List (Nat×Value)}(a:List (Nat×List Value)){cs out:List Value}(d:TI P T sz by_ z)(hp:jX P T pl)(f:z.cells.toList=cs)(b:DK ps a)(c:AJ pl cs a=some out)(w:World) :
 (Instr.build T ps.toArray).run P w = .ok (.agg out.toArray) w:=by
 obtain⟨fields,e,hm⟩:=hp
 have:=P8 pl ps a cs out b c
 subst f
 simp only[Array.toArray_toList]at this
 simp only[Instr.build,zt,d.zR,zo,run_underlying e,hm,this,zz]
theorem uJ{e:TypeId}{len a f:Nat}{t:Value}{ps:List (Nat×Value)}(c:List (Nat×List Value)){cs out:List Value}(o:TI P T sz by_ z)(q:P.underlying T=some (.array len e))(j:TI P e a f t)(r:z.cells.toList=cs)
 (k:DK ps c) (m:AJ ((List.range len).map fun i=>(i*a,a)) cs c=some out) (n:∀ p∈ps,p.1<len) (w:World) :
 (Instr.build T ps.toArray).run P w = .ok (.agg out.toArray) w:=by
 have d:=P8 _ ps c cs out k m
 have g:∀ (l:List (Nat×Value)) (b:Array Value),(∀ p∈l,p.1<len)->Instr.fill (fun i=>some (i*a,a)) b l=Instr.fill ((((List.range len).map fun i=>(i*a,a)).toArray)[·]?) b l:=by
  intro l
  induction l with
  | nil=>intro b _;rfl
  | cons p l s =>
   intro b h
   obtain⟨i,v⟩:=p
   have hi:=h (i,v) s_
   simp only at hi
   simp only[Instr.fill,BB,zx,ox hi,vE]
   split
   . rfl
   . simpa only[BB,zx]using s _ (fun p hp=>h p (by simp[hp]))
 subst r
 simp only[Array.toArray_toList]at d
 simp only[Instr.build,zt,o.zR,zo,run_underlying q,j.size,g _ _ n,d,zz]
end
end Go.Sx
namespace Go.Sx
open Go
section
variable {w w' w0:World} {bs:List (World×List Nat)} {L:List fT} {R R' : fT}
structure Own (R:fT) (w:World):Prop where
 holds:R.holds w
 nodup:R.gH.Nodup
 lt:∀ b∈R.gH,b<w.heap.size
structure fV (R:fT) (w w' : World) (R' : fT):Prop where
 holds:R'.holds w'
 gA:gw R.gH w w'
 place:∀ b∈R'.gH,b∈R.gH\/w.heap.size<=b
 nodup:R'.gH.Nodup
 lt:∀ b∈R'.gH,b<w'.heap.size
theorem Lo{α β:Type}{f:α->List β}:∀ {l:List α} {x:α},(l.flatMap f).Nodup->x∈l->(f x).Nodup:=by
 intro l
 induction l with
 | nil=>intro x _ h;simp at h
 | cons y l b =>
  intro x h a
  rw[z7]at h
  rcases ze.1 a with rfl|a
  . exact(zr.1 h).1
  . exact b (zr.1 h).2.1 a
theorem St.Kr{i:Nat}(h:St bs L w)(hi:L[i]? = some R):Own R w :=
 ⟨h.own R (zd hi),Lo h.sep (zd hi),fun b hb=>h.lt b (r0 hi hb)⟩
theorem St.LW{LL:List fT}(i:Nat)(h:St bs L w)(hi:L[i]? = some R)(a:fV R w w' R')(b:L.set i R' = LL):St bs LL w' := by
 subst b
 exact h.iR hi a.gA a.place a.nodup a.lt a.holds
theorem St.Jn(h:Own R w):St [(w,R.gH)] [R] w:=by
 have:=St.Qv w [R] (fun Q a=>by simp only[z8]at a;subst a;exact h.holds) (by simpa[iZ]using h.nodup) (fun b hb=>h.lt b (by simpa[iZ]using hb))
 simpa[iZ]using this
theorem St.Eu(h:St bs (R' :: L) w')(hb:(w,R.gH)∈bs):fV R w w' R' := by
 have c:=h.base _ hb
 refine⟨h.own R' s_,c.gA,fun b a => c.mine b (by rw[ng];simp[a]),Lo (x:=R') h.sep s_,fun b a => h.lt b (by rw[ng];simp[a])⟩
theorem fV.refl(h:Own R w):fV R w w R:=⟨h.holds,gw.refl _ _,fun b hb=>.inl hb,h.nodup,h.lt⟩
theorem fV.own(h:fV R w w' R'):Own R' w' := ⟨h.holds,h.nodup,h.lt⟩
theorem Cn{b o:Nat}{T:TypeId}{cs:List Value}{v:Value}(h:(blk b T cs).holds w)(hv:cs[o]? = some v):w.cell? ⟨b,o,none⟩=some v:=by
 have a:(blk b T cs).holds w:=h
 have:=(St.aao w a).rU (i:=0) (o:=o) rfl hv
 exact this
end
end Go.Sx
namespace Go.Sx
open Go
section
variable {P:Program} {n:Nat} {s:List (Nat×Value)} {w:World} {fn:Func} {RR:Ending->World->Prop} {v v' v'' : Value} {x y z:ResultVar}
theorem adX(a:fn.results = #[x])(h1:RV P n s w v x):(results fn (Fr n s []).tmps).run P w = .ok v w:=by
 rw[SK,a]
 simp[zt,Result.andThen,KY h1]
theorem SM{R:Value->World->Prop}(a:fn.results = #[x])(h1:RV P n s w v x)(h:R v w) :
 bodyPost P fn (fun e w' => ∃ v,e = .returned v/\R v w') .ret (Fr n s []) w:=⟨rfl,_,adX a h1,_,rfl,h⟩
end
theorem St.perm{bs:List (World×List Nat)}{L L' : List fT}{w:World}(h:St bs L w)(hp:L.Perm L'):St bs L' w:=by
 have a:(iZ L).Perm (iZ L'):=hp.flatMap_right _
 exact⟨fun p c => ⟨(h.base p c).gA,fun b hb=>(h.base p c).mine b (a.mem_iff.2 hb)⟩,fun X d=>h.own X (hp.mem_iff.2 d),a.nodup_iff.1 h.sep,fun b hb=>h.lt b (a.mem_iff.2 hb)⟩
theorem St.swap{bs:List (World×List Nat)}{L:List fT}{R R' : fT}{w:World}(h:St bs (R :: R' :: L) w):St bs (R' :: R :: L) w:=h.perm (List.Perm.swap _ _ _)
end Go.Sx
namespace Go.Sx
open Go
def iT(l:Nat)(r:Loop):fT where
 gH:=[l]
 holds w:=w.heap[l]? = some (.loop r)
 loc w w' h hh:=(h l s_).trans hh
def jK(d:Nat)(o:Option (List Deferred)):fT where
 gH:=[d]
 holds w:=w.heap[d]? = some (.deferred o)
 loc w w' h hh:=(h d s_).trans hh
theorem gw.putObj(w:World)(r:Nat)(o:Obj):gw [r] w (w.putObj r o) :=
 ⟨rfl,rfl,rfl,s_,fun b _ hb=>World.putObj_heap_other (by simpa using hb)⟩
section
variable {w w' : World} {bs:List (World×List Nat)} {L LL:List fT} {i l d:Nat} {rc:Loop}
theorem St.yC(h:St bs L w)(hi:L[i]? = some (iT l rc)):w.heap[l]? = some (.loop rc):=h.own _ (zd hi)
theorem St.CV(h:St bs L w)(hi:L[i]? = some (iT l rc))(c : Loop):St bs (L.set i (iT l c)) (w.putObj l (.loop c)):=by
 have a:l<w.heap.size:=h.lt l (r0 hi (by simp[iT]))
 exact h.iR hi (gw.putObj w l _) (fun b hb=>.inl hb) (by simp[iT]) (fun b hb=>by simp[iT]at hb;subst hb;simpa using a) (World.putObj_heap_same a)
theorem St.SA{o:Option (List Deferred)}(h:St bs L w)(hi:L[i]? = some (jK d o))(o' : Option (List Deferred)):St bs (L.set i (jK d o')) (w.putObj d (.deferred o')):=by
 have a:d<w.heap.size:=h.lt d (r0 hi (by simp[jK]))
 exact h.iR hi (gw.putObj w d _) (fun b hb=>.inl hb) (by simp[jK]) (fun b hb=>by simp[jK]at hb;subst hb;simpa using a) (World.putObj_heap_same a)
end
def gm(L:List fT):fT where
 gH:=iZ L
 holds w:=∀ R∈L,R.holds w
 loc w w' h hh R hR:=R.loc w w' (fun b hb=>h b (rE.2 ⟨R,hR,hb⟩)) (hh R hR)
section
variable {w w0:World} {bs:List (World×List Nat)} {A B:List fT} {R:fT}
theorem Y8(A B:List fT):iZ (A++B)=iZ A++iZ B:=by simp[iZ]
theorem AI(A B:List fT):iZ (gm A :: B)=iZ (A++B):=by rw[ng,Y8];rfl
theorem St.pack(A B:List fT)(h:St bs (A++B) w):St bs (gm A :: B) w :=
 ⟨fun p hp=>⟨(h.base p hp).gA,fun b hb=>(h.base p hp).mine b (by rw[<-AI];exact hb)⟩,fun Q a=>by
  rcases ze.1 a with rfl|a
  . exact fun R c=>h.own R (ur _ c)
  . exact h.own Q (zL _ a),by rw[AI];exact h.sep,fun b hb=>h.lt b (by rw[<-AI];exact hb)⟩
theorem St.unpack(h:St bs (gm A :: B) w):St bs (A++B) w :=
 ⟨fun p hp=>⟨(h.base p hp).gA,fun b hb=>(h.base p hp).mine b (by rw[AI];exact hb)⟩,fun Q a=>by
  rcases zn.1 a with a|a
  . exact h.own (gm A) s_ Q a
  . exact h.own Q (by simp[a]),by rw[<-AI];exact h.sep,fun b hb=>h.lt b (by rw[AI];exact hb)⟩
theorem St.RC{b:Nat}(h:St bs (R :: B) w)(hb:b∈iZ B):b∉R.gH:=fun a=>by
 have:=h.sep
 rw[ng]at this
 exact(zr.1 this).2.2 b a b hb rfl
end
def YR(P:Program)(l:Nat)(vl:List Value)(w:World)(R:Value->World->Prop):Prop :=
 ∃ f tmps a b,(Instr.yield l vl.toArray).run P w = .ok (.round l f tmps a b) w/\RoundIn (FW none) 0 P l f tmps a b w (fun e w' => ∃ v,e = .returned v/\R v w')
section
variable {P:Program} {ops:Array Oper} {Q:Exit->Act->World->Prop} {rest:List Oper} {n:Nat} {s:List (Nat×Value)} {ds:List Deferred} {w:World}
variable {d:Option Nat} {ty:TypeId} {pos:String} {af:Array Edge} {g:Option (Nat×Bool)} {x:Operand} {l:Nat}
theorem yl{a:List Operand}{T:Array TypeId}{vl:List Value}{R:Value->World->Prop}(m:gC ops n s g=true)(p:ev n s x = .func (.yield l) #[] #[])(hvs:a.map (ev n s)=vl)(q:YR P l vl w R)
 (K:∀ v w', R v w' -> WL none P ops Q rest (Fr n (kT d v s) ds) w'):WL none P ops Q (⟨d,.call ⟨.value x,a.toArray,T⟩,ty,pos,af,g⟩ :: rest) (Fr n s ds) w:=by
 obtain⟨f,tmps,b,c,i,j⟩:=q
 refine Uq m ?_
 have o:(Oper.semAt none (Fr n s ds).eval (⟨d,.call ⟨.value x,a.toArray,T⟩,ty,pos,af,g⟩:Oper)).run P w = .ok (.round l f tmps b c) w:=by
  rw[Oper.semAt_none,pR]
  simp only[execOp,resolve,Deferred.ofValue,p,Fh, hvs,zt,zz,zo,invoke]
  simpa using i
 rw[o]
 refine⟨fun h=>by simp[FW]at h,RoundIn.mono j ?_⟩
 rintro e w' ⟨v,rfl,k⟩
 have:=(K v w' k).out
 rw[<-zU]at this
 exact this
def yK:List Nat->List Value->List (Nat×Value)->List (Nat×Value)
 | p :: ps,v :: vs,s=>yK ps vs ((p,v) :: s)
 | _,_,s=>s
theorem UE(p:Nat)(v:Value):(Fr n s ds).tmps.setIfInBounds p v=(Fr n ((p,v) :: s) ds).tmps:=congrArg Act.tmps (zT n s ds p v)
theorem adF:∀ (ps:List Nat) (vs:List Value) (s:List (Nat×Value)),((ps.zip vs).foldl (fun(t:Array Value) (q:Nat×Value)=>t.setIfInBounds q.1 q.2) (Fr n s ds).tmps)=(Fr n (yK ps vs s) ds).tmps:=by
 intro ps
 induction ps with
 | nil=>intro vs s;simp[yK]
 | cons p ps a =>
  intro vs s
  cases vs with
  | nil=>simp[yK]
  | cons v vs =>
   simp only[List.zip_cons_cons,List.foldl_cons,yK]
   rw[UE]
   exact a vs _
theorem adE(ps:List Nat)(vs:List Value)(s:List (Nat×Value)):((ps.toArray.zip vs.toArray).foldl (fun(t:Array Value) (q:Nat×Value)=>t.setIfInBounds q.1 q.2) (Fr n s ds).tmps)=(Fr n (yK ps vs s) ds).tmps:=by
 rw[<-adF,List.zip_toArray,List.foldl_toArray]
variable {bs:List (World×List Nat)} {L LL:List fT} {i:Nat} {rc:Loop}
theorem wO{ps:List Nat}{vl:List Value}{s' : List (Nat×Value)}{fn dd:Nat}{b c:Code}{R:Value->World->Prop}(i:Nat)(g:rc=⟨.ready,none,fn,(Fr n s ds).tmps,ps.toArray,b,c,dd⟩)(j:St bs L w)(hi:L[i]? = some (iT l rc))
 (f:vl.length=ps.length) (hs:yK ps vl s=s')
 (h:WP (some l) P b (Exit.then (fun a k=>∃ d,(Instr.beginRound l).run P k = .ok () d/\WP (some l) P c (roundPost P l (fun e w' => ∃ v,e = .returned v/\R v w')) a d) (fun _ _ _=>False)) (Fr n s' []) w):YR P l vl w R:=by
 subst hs g
 refine⟨_,_,_,_,run_yield (j.yC hi) (by simpa using f),roundIn_of_wpIn trivial ?_⟩
 have e:=adE (n:=n) (ds:=ds) ps vl s
 show b.wpIn (FW (some l)) 0 P _ { tmps:=((ps.toArray.zip vl.toArray).foldl (fun(t:Array Value) (q:Nat×Value)=>t.setIfInBounds q.1 q.2) (Fr n s ds).tmps),defers:=[] } w
 rw[e]
 exact h
theorem xN{B:World->Prop}(i:Nat)(b:St bs L w)(hi:L[i]? = some (iT l rc))(d:rc.state = .ready)(c:L.set i (iT l { rc with state:=.busy })=LL)(K:∀ a,St bs LL a->B a):∃ a,(Instr.beginRound l).run P w = .ok () a/\B a :=
 ⟨_,run_beginRound (b.yC hi) d,K _ (by subst c;exact b.CV hi _)⟩
theorem xR{R:Ending->World->Prop}{a:Act}(i:Nat)(k:St bs L w)(hi:L[i]? = some (iT l { rc with state:=.busy }))(j:rc.state = .ready)(hp:rc.pending=none)(m:L.set i (iT l rc)=LL)(K:∀ w', St bs LL w' -> R (.returned (.bool true)) w'):roundPost P l R .normal a w:=by
 refine⟨_,_,run_endRound none (k.yC hi),K _ ?_⟩
 subst m
 have:=k.CV hi rc
 obtain⟨a,b,c,d,e,f,g,h⟩:=rc
 simp only at j hp
 subst j hp
 exact this
theorem rf{f:FuncId}{fi ca:List Value}{ps:List Nat}{a c:Code}{α:Type}(d:α->List fT)(C:α->Prop)(u:St bs L w)(y:ev n s x = .func (.func f) fi.toArray ca.toArray)(q:gi P f)
 (h1:∀ fn dd l j rc,rc=(⟨.ready,none,fn,(Fr n s ds).tmps,ps.toArray,a,c,dd⟩:Loop)->St bs (iT l rc :: jK dd (some []) :: L) j ->
  CR P f (fi++[Value.func (.yield l) #[] #[]]++ca).toArray j (fun _ k=>∃ z,C z/\St bs (iT l rc :: jK dd (some []) :: d z) k))
 (o:∀ z dd m,C z->St bs (jK dd (some []) :: d z) m->Q .normal (Fr n s (⟨.collected dd,#[]⟩ :: ds)) m):WP none P (.rangeFunc x ps.toArray a c) Q (Fr n s ds) w:=by
 refine wpIn_rangeFunc fun fn _=>?_
 have r:St bs (jK w.heap.size (some []) :: L) (w.alloc (.deferred (some []))) :=
  u.sN (gw.alloc [] w _) (fun b hb=>by simp[jK]at hb;omega) (by simp[jK]) (fun b hb=>by simp[jK]at hb;simp;omega) (World.alloc_heap_new w _)
 have t:St bs (iT (w.heap.size+1) ⟨.ready,none,fn,(Fr n s ds).tmps,ps.toArray,a,c,w.heap.size⟩ :: jK w.heap.size (some []) :: L) ((w.alloc (.deferred (some []))).alloc (.loop ⟨.ready,none,fn,(Fr n s ds).tmps,ps.toArray,a,c,w.heap.size⟩)) :=
  r.sN (gw.alloc [] _ _) (fun b hb=>by simp[iT]at hb;simp;omega) (by simp[iT]) (fun b hb=>by simp[iT]at hb;simp;omega) (by have:=World.alloc_heap_new (w.alloc (.deferred (some []))) (.loop ⟨.ready,none,fn,(Fr n s ds).tmps,ps.toArray,a,c,w.heap.size⟩);simpa[iT]using this)
 refine⟨w.heap.size+1,_,_,⟨.fn (.func f) ca.toArray,(fi++[Value.func (.yield (w.heap.size+1)) #[] #[]]).toArray⟩,((w.alloc (.deferred (some []))).alloc (.loop ⟨.ready,none,fn,(Fr n s ds).tmps,ps.toArray,a,c,w.heap.size⟩)),f,(fi++[Value.func (.yield (w.heap.size+1)) #[] #[]]++ca).toArray,((w.alloc (.deferred (some []))).alloc (.loop ⟨.ready,none,fn,(Fr n s ds).tmps,ps.toArray,a,c,w.heap.size⟩)),run_enterLoop_outer fn _ _ _ _,?_,fun _ _=>trivial,?_,fun h=>by simp[FW]at h,?_⟩
 . rw[pR]
   simp only[resolve,rangeCall,Deferred.ofValue,y]
   simp[ev]
 . have:=q ((fi++[Value.func (.yield (w.heap.size+1)) #[] #[]]++ca).toArray) ((w.alloc (.deferred (some []))).alloc (.loop ⟨.ready,none,fn,(Fr n s ds).tmps,ps.toArray,a,c,w.heap.size⟩))
   simp only[invoke]
   simpa using this
 . refine uK.2 (Calls.mono (h1 fn w.heap.size (w.heap.size+1) _ _ rfl t) ?_)
   rintro e k ⟨v,rfl,z,p,g⟩
   refine⟨none,_,run_endLoop (g.yC (i:=0) rfl) s_,?_⟩
   refine o z w.heap.size _ p ?_
   exact(g.CV (i:=0) rfl _).sub (Mp _ _)
end
section
variable {P:Program} {n:Nat} {s:List (Nat×Value)} {w:World} {fn:Func} {f:FuncId} {c:Code} {vs:List Value} {RR:Ending->World->Prop} {bs:List (World×List Nat)} {L LL:List fT} {d:Nat} {tmps:Array Value}
theorem xU(a:P.funcs[f]? = some fn)(hb:fn.body=some c)(b:fn.ntmps=n)(hs:Nat.ble vs.length n=true)
 (h:WP none P c (bodyPostM (FW none) 0 P fn RR) (Fr n (vR vs 0) []) w):Calls P f vs.toArray w RR:=by
 refine uK.1 (callsIn_of_wp_marks (F:=FW none) (n:=0) a hb trivial ?_)
 rw[b,Mz vs n (pL hs)]
 exact h
theorem AT(i:Nat)(a:St bs L w)(hi:L[i]? = some (jK d (some [])))(b:L.set i (jK d none)=LL)(K:∀ w', St bs LL w' -> ∃ v,(results fn tmps).run P w' = .ok v w' /\ RR (.returned v) w') :
 LeavesInM (FW none) 0 P fn tmps RR [⟨.collected d,#[]⟩] .returning w :=
 ⟨s_,.inl ⟨d,_,rfl,run_takeDeferred (a.own _ (zd hi)),K _ (by subst b;exact a.SA hi none)⟩⟩
end
end Go.Sx
namespace Go.Sx
open Go
section
variable {P:Program} {w:World} {t e:TypeId} {k:IntKind} {by_:Nat} {z:Value}
theorem KW(d:Nat)(c:P.underlying e=some (.int k))(a b:Int):(Op.equalIn (d+1) e (.int k a) (.int k b)).run P w = .ok (a==b) w:=by
 simp[Op.equalIn,run_underlying c]
theorem KV(d:Nat)(c:P.underlying t=some .bool)(a b:Bool):(Op.equalIn (d+1) t (.bool a) (.bool b)).run P w = .ok (a==b) w:=by
 simp[Op.equalIn,run_underlying c]
theorem wT(a:P.underlying e=some (.int k))(xs:Array Value)(i:Nat)(v:Value)(h:xs[i]? = some v):(part e xs i).run P w = .ok v w:=by
 simp[part,wS a,j6,h]
theorem aeu(i:P.underlying t=some (.array 4 e))(h:P.underlying e=some (.int k))(hi:TI P e 1 by_ z)(a0 a1 a2 a3 b0 b1 b2 b3:Int) :
 (Op.equal t (.agg #[.int k a0,.int k a1,.int k a2,.int k a3]) (.agg #[.int k b0,.int k b1,.int k b2,.int k b3])).run P w = .ok (decide ([a0,a1,a2,a3]=[b0,b1,b2,b3])) w:=by
 have p:∀ (c d f g:Value),(part e #[c,d,f,g] 0).run P w = .ok c w/\(part e #[c,d,f,g] 1).run P w = .ok d w/\(part e #[c,d,f,g] 2).run P w = .ok f w/\(part e #[c,d,f,g] 3).run P w = .ok g w:=fun c d f g =>
  ⟨wT h _ _ _ rfl,wT h _ _ _ rfl,wT h _ _ _ rfl,wT h _ _ _ rfl⟩
 have q:=fun a b=>KW (P:=P) (w:=w) 9998 h a b
 simp only[Nat.reduceAdd]at q
 show (Op.equalIn 10000 t _ _).run P w=_
 unfold Op.equalIn
 simp only[zt,run_underlying i,zo,hi.size,Std.Legacy.Range.forIn_eq_forIn_range', Std.Legacy.Range.size]
 simp only[show List.range' 0 ((4-0+1-1) / 1) 1=[0,1,2,3] from rfl,List.forIn_cons,List.forIn_nil,zt,sD,(p _ _ _ _).1,(p _ _ _ _).2.1,(p _ _ _ _).2.2.1,(p _ _ _ _).2.2.2,zo,q]
 by_cases h0:a0=b0
 . by_cases h1:a1=b1
   . by_cases h2:a2=b2
     . by_cases h3:a3=b3
       . simp[h0,h1,h2,h3,p,q,Result.andThen]
       . simp[h0,h1,h2,h3,p,q,Result.andThen]
     . simp[h0,h1,h2,p,q,Result.andThen]
   . simp[h0,h1,p,q,Result.andThen]
 . simp[h0,p,q,Result.andThen]
end
section
variable {r:Option Nat} {P:Program} {ops:Array Oper} {Q:Exit->Act->World->Prop} {rest:List Oper} {n:Nat} {s:List (Nat×Value)} {ds:List Deferred} {w:World}
variable {d:Nat} {dd:Option Nat} {ty t t' e:TypeId} {pos:String} {af:Array Edge} {g:Option (Nat×Bool)} {x y:Operand} {k:IntKind} {by_:Nat} {z:Value} {a0 a1 a2 a3 b0 b1 b2 b3:Int} {c:Bool}
theorem run_eqGuard_agg(op:BinOp)(a:P.eqGuardType P.depth t=false)(xs ys:Array Value):(eqGuard op t x y (.agg xs) (.agg ys)).run P w = .ok () w:=by
 unfold eqGuard
 cases op<;>simp[a,program,Sem.run]
theorem ace(i:ev n s x = .agg #[.int k a0,.int k a1,.int k a2,.int k a3])(j:ev n s y = .agg #[.int k b0,.int k b1,.int k b2,.int k b3])(f:P.underlying t=some (.array 4 e))(b:P.underlying e=some (.int k))(hi:TI P e 1 by_ z)
 (d:P.eqGuardType P.depth t=false) (a:(!decide ([a0,a1,a2,a3]=[b0,b1,b2,b3]))=c) :
 (execOp (ev n s) ⟨dd,.binOp .neq t x y t', ty,pos,af,g⟩).run P w = .ok (.value (.bool c)) w:=by
 subst a
 have h:=aeu (P:=P) (w:=w) f b hi a0 a1 a2 a3 b0 b1 b2 b3
 simp only[execOp,i,j,zt,run_eqGuard_agg .neq d,zo]
 simp only[binOp,zt,h,zo,zz]
theorem acf{a b:Bool}(i:ev n s x = .bool a)(j:ev n s y = .bool b)(h:P.underlying t=some .bool)(f:(!(a==b))=c) :
 (execOp (ev n s) ⟨dd,.binOp .neq t x y t', ty,pos,af,g⟩).run P w = .ok (.value (.bool c)) w:=by
 subst f
 have d:(Op.equal t (.bool a) (.bool b)).run P w = .ok (a==b) w:=KV 9999 h a b
 have e:(eqGuard .neq t x y (.bool a) (.bool b)).run P w = .ok () w:=rfl
 simp only[execOp,i,j,zt,e,zo]
 simp only[binOp,zt,d,zo,zz]
theorem Ft{a b:Bool}(f:gC ops n s g=true)(i:ev n s x = .bool a)(j:ev n s y = .bool b)(h:P.underlying t=some .bool)(e:(!(a==b))=c)(K:WL r P ops Q rest (Fr n ((d,.bool c) :: s) ds) w) :
 WL r P ops Q (⟨some d,.binOp .neq t x y t', ty,pos,af,g⟩ :: rest) (Fr n s ds) w:=pw f (fun _=>acf i j h e) K
theorem YM{a b:Bool}(i:ev n s x = .bool a)(j:ev n s y = .bool b)(h:P.underlying t=some .bool)(f:(a==b)=c) :
 (execOp (ev n s) ⟨dd,.binOp .eql t x y t', ty,pos,af,g⟩).run P w = .ok (.value (.bool c)) w:=by
 subst f
 have d:(Op.equal t (.bool a) (.bool b)).run P w = .ok (a==b) w:=KV 9999 h a b
 have e:(eqGuard .eql t x y (.bool a) (.bool b)).run P w = .ok () w:=rfl
 simp only[execOp,i,j,zt,e,zo]
 simp only[binOp,zt,d,zo,zz]
theorem EI{a b:Bool}(f:gC ops n s g=true)(i:ev n s x = .bool a)(j:ev n s y = .bool b)(h:P.underlying t=some .bool)(e:(a==b)=c)(K:WL r P ops Q rest (Fr n ((d,.bool c) :: s) ds) w) :
 WL r P ops Q (⟨some d,.binOp .eql t x y t', ty,pos,af,g⟩ :: rest) (Fr n s ds) w:=pw f (fun _=>YM i j h e) K
theorem acd(f:gC ops n s g=true)(j:ev n s x = .agg #[.int k a0,.int k a1,.int k a2,.int k a3])(l:ev n s y = .agg #[.int k b0,.int k b1,.int k b2,.int k b3])(i:P.underlying t=some (.array 4 e))(b:P.underlying e=some (.int k))(hi:TI P e 1 by_ z)
 (h:P.eqGuardType P.depth t=false) (a:(!decide ([a0,a1,a2,a3]=[b0,b1,b2,b3]))=c) (K:WL r P ops Q rest (Fr n ((d,.bool c) :: s) ds) w) :
 WL r P ops Q (⟨some d,.binOp .neq t x y t', ty,pos,af,g⟩ :: rest) (Fr n s ds) w:=pw f (fun _=>ace j l i b hi h a) K
end
section
variable {w w' : World} {bs:List (World×List Nat)} {L:List fT} {b:Nat} {T:TypeId} {cs:List Value}
theorem St.aea{w0:World}(h:St bs L w)(hb:(w0,[])∈bs)(c:(blk b T cs).holds w0){o:Nat}{vs:List Value}(hv:(cs.drop o).take vs.length=vs):∀ j u,vs[j]? = some u->w.cell? ⟨b,o+j,none⟩=some u:=by
 intro j u a
 refine h.HZ hb (Cn c (o:=o+j) ?_) oV
 rw[<-hv,uu]at a
 split at a
 . simpa using a
 . cases a
theorem St.KQ{w0:World}(h:St bs L w)(hb:(w0,[])∈bs)(a:(blk b T cs).holds w0){o:Nat}{u:Value}(hv:cs[o]? = some u):w.cell? ⟨b,o,none⟩=some u:=h.HZ hb (Cn a hv) oV
theorem St.NG(h:St bs L w)(c:gw [] w w')(d:w.heap.size<=b)(hb:(blk b T cs).holds w'):St bs (blk b T cs :: L) w' :=
 h.sN c (fun x a=>by simp[blk]at a;omega) (by simp[blk]) (fun x a=>by
  simp only[blk,z8]at a
  subst a
  exact(qg.1 (show w'.heap[x]? = _ from hb)).1) hb
end
end Go.Sx
namespace Go.Sx
open Go
abbrev gY{α:Type}(sz:Nat)(cf:α->List Value)(ok:Nat->Prop)(w:World)(v:Value)(xs:List α):Prop:=Sl sz (fun _ x vs=>vs=cf x) ok w v xs
def jm(sz:Nat)(v:Value)(i off:Nat):Value:=match v with
 | .slice (some ⟨b,o,_⟩) _ _=>.pointer (some ⟨b,o+i*sz+off,none⟩)
 | _=>.pointer none
theorem UZ(sz:Nat)(v:Value)(i:Nat):jm sz v i 0=NK sz v i:=by
 cases v with
 | slice a m c=>cases a<;>rfl
 | _=>rfl
abbrev fL{α:Type}(cf:α->List Value)(v:Value)(e:TypeId)(sz:Nat)(ys:List α):fT:=row v e sz ys.length (ys.flatMap cf)
theorem nW {α:Type}{l:List α}{k:Nat}(h:k<l.length):∃ y,l[k]? = some y:=⟨l[k],zm h⟩
section
variable {α:Type} {sz:Nat} {cf:α->List Value} {ok ok' : Nat->Prop} {w w' w0:World} {v:Value} {xs:List α} {bs:List (World×List Nat)} {L:List fT}
theorem gY.to(h:gY sz cf ok w v xs)(hp:0<sz)(hk:∀ b,ok b->b<w.heap.size->w'.heap[b]? = w.heap[b]?):gY sz cf ok w' v xs:=Sl.to h hk (fun _ _ _ h=>h) hp
theorem St.adP{X:List Nat}(h:St bs L w)(hb:(w0,X)∈bs)(hp:0<sz)(a:gY sz cf ok w0 v xs)(e:∀ b,ok b->b∉X):gY sz cf ok w v xs:=gY.to a hp fun b c d=>h.keep hb d (e b c)
theorem St.CW(h:St bs L w)(hb:(w0,[])∈bs)(hp:0<sz)(a:gY sz cf ok w0 v xs):gY sz cf ok w v xs:=h.adP hb hp a fun _ _=>oV
theorem gY.place{k:Nat}{c:α}(h:gY sz cf ok w v xs)(hk:xs[k]? = some c):∃ b o m d,v = .slice (some ⟨b,o,none⟩) m d/\k<m/\ok b/\(cf c).length=sz/\∀ j u,(cf c)[j]? = some u->w.cell? ⟨b,o+k*sz+j,none⟩=some u:=by
 have i:=(zh.1 hk).1
 obtain⟨a,d,rfl,l,n,e⟩:=h
 obtain⟨b,o,vs,rfl,hb,g,rfl,f⟩:=e k c hk
 exact⟨b,o,_,d,rfl,i,hb,g,f⟩
theorem v7(c:∀ x:α,(cf x).length=sz):∀ (xs:List α) (k j:Nat) (x:α) (u:Value),xs[k]? = some x->(cf x)[j]? = some u->(xs.flatMap cf)[k*sz+j]? = some u:=by
 intro xs
 induction xs with
 | nil=>intro k j x u h;simp at h
 | cons e xs d =>
  intro k j x u b a
  rw[z7]
  cases k with
  | zero =>
   grind
  | succ k =>
   grind
theorem St.yO{i:Nat}{e:TypeId}(h:St bs L w)(hi:L[i]? = some (fL cf v e sz xs))(c:∀ x:α,(cf x).length=sz):gY sz cf (fun b=>v.ownBlock=some b) w v xs:=by
 have d:w.ownsRow 0 e sz v xs.length (xs.flatMap cf):=h.own _ (zd hi)
 rcases d.2 with ⟨rfl,o⟩|⟨a, f,cur,rfl,_,p,k,l,_⟩
 . grind [Sl.nil]
 . refine⟨_,f,rfl,k,l,fun j y m=>⟨a, 0,cf y,rfl,rfl,c y,rfl,fun q u n=>?_⟩⟩
   have:=d.cells (g:=a) rfl (j*sz+q) u (v7 c xs j q y u m n)
   rw[Addr.add_lit]at this
   simpa[lW]using this
theorem gY.src(h:gY sz cf ok w v xs)(d:∀ x:α,(cf x).length=sz):Src w v sz xs.length (xs.flatMap cf):=by
 obtain⟨a,n,rfl,p,q,e⟩:=h
 have i:(xs.flatMap cf).length=xs.length*sz:=by
  clear p q e
  induction xs with
  | nil=>simp
  | cons x xs y=>rw[z7,zp,d,y,zb,rG];omega
 refine⟨a,n,rfl,i,fun j u f=>?_⟩
 have g := (zh.1 f).1
 rw[i]at g
 have k:0<sz:=by
  grind
 have t:j / sz<xs.length:=(Mt k).2 g
 obtain⟨x,m⟩:=nW t
 obtain⟨b,o,vs,rfl,_,_,rfl,s⟩:=e _ x m
 refine⟨_,rfl,?_⟩
 have hm:j%sz<(cf x).length:=by rw[d];exact BP _ k
 obtain⟨z, l⟩:=nW hm
 have c:=v7 d xs _ _ x z m l
 rw[BL]at c
 rw[f]at c
 cases c
 have r:=s _ u l
 rw[Addr.add_lit,<-BL j sz]
 rw[BL,show o+j=o+j / sz*sz+j%sz by have:=BL j sz;omega]
 exact r
end
section
variable {α:Type} {cf:α->List Value} {ok:Nat->Prop} {ys zs:List α} {k:Nat} {c:α} {off off' : Nat}
variable {r:Option Nat} {P:Program} {ops:Array Oper} {Q:Exit->Act->World->Prop} {rest:List Oper} {n:Nat} {s:List (Nat×Value)} {ds:List Deferred} {w w0:World}
variable {d:Nat} {dd:Option Nat} {ty:TypeId} {pos:String} {af:Array Edge} {g:Option (Nat×Bool)} {v u:Value} {x y:Operand} {bs:List (World×List Nat)} {L L' : List fT} {t e T:TypeId} {sz by_ m cnt szf byf:Nat} {z zf:Value} {i:Int} {k' : IntKind} {ud:TypeDesc} {fields:Array Field} {f:Field} {j:Nat}
theorem CD(h:ev n s x=v)(j:ev n s y = .int k' i)(f:P.underlying t=some (.slice e))(hi:TI P e sz by_ z)(b:gY sz cf ok w0 v ys)(a:0<=i)(hk:i.toNat=k)(d:ys[k]? = some c) :
 (execOp (ev n s) ⟨dd,.indexAddr t x y,ty,pos,af,g⟩).run P w = .ok (.value (jm sz v k 0)) w:=by
 grind [UZ,aax]
theorem iJ(h:gC ops n s g=true)(l:ev n s x=v)(m:ev n s y = .int k' i)(j:P.underlying t=some (.slice e))(hi:TI P e sz by_ z)(b:gY sz cf ok w0 v ys)(a:0<=i)(hk:i.toNat=k)(f:ys[k]? = some c)
 (K:WL r P ops Q rest (Fr n ((d,jm sz v k 0) :: s) ds) w):WL r P ops Q (⟨some d,.indexAddr t x y,ty,pos,af,g⟩ :: rest) (Fr n s ds) w:=pw h (fun _=>CD l m j hi b a hk f) K
theorem EK(p:ev n s x=jm sz v k off)(d:P.underlying T=some (.struct fields))(h:fields[j]? = some f)(l:TI P f.type (szf+1) byf zf)(i:off+f.offset=off')(a:gY sz cf ok w0 v ys)(e:ys[k]? = some c) :
 (execOp (ev n s) ⟨dd,.fieldAddr T x j,ty,pos,af,g⟩).run P w = .ok (.value (jm sz v k off')) w:=by
 obtain⟨b,o,m,q,rfl,_⟩:=a.place e
 subst i
 exact uN p d h l (by simp only[lW])
theorem wo(j:ev n s x=jm sz v k off)(i:P.underlying t=some ud)(h:j6 ud=false)(d:gY sz cf ok w v ys)(f:ys[k]? = some c)(e:(cf c)[off]? = some u) :
 (execOp (ev n s) ⟨dd,.load t x,ty,pos,af,g⟩).run P w = .ok (.value u) w:=by
 obtain⟨b,o,m,l,rfl,_,_,_,a⟩:=d.place f
 exact mM j i h (a off u e)
theorem jd(f:gC ops n s g=true)(j:ev n s x=jm sz v k off)(i:P.underlying t=some ud)(h:j6 ud=false)(a:gY sz cf ok w v ys)(e:ys[k]? = some c)(b:(cf c)[off]? = some u)
 (K:WL r P ops Q rest (Fr n ((d,u) :: s) ds) w):WL r P ops Q (⟨some d,.load t x,ty,pos,af,g⟩ :: rest) (Fr n s ds) w:=pv f rfl (wo j i h a e b) K
theorem E4{cs:List Value}{a : Nat}(p:ev n s x=jm sz v k off)(l:P.underlying t=some ud)(h:j6 ud=true)(i:TI P t a by_ z)(d:gY sz cf ok w v ys)(e:ys[k]? = some c)(f:cs.length=a)(y:((cf c).drop off).take cs.length=cs) :
 (execOp (ev n s) ⟨dd,.load t x,ty,pos,af,g⟩).run P w = .ok (.value (.agg cs.toArray)) w:=by
 obtain⟨b,o,m,q,rfl,_,_,_,r⟩:=d.place e
 refine tP (b:=b) (o:=o+k*sz+off) p l h i f fun j u A=>?_
 grind
theorem E3{cs:List Value}{a : Nat}(h:gC ops n s g=true)(o:ev n s x=jm sz v k off)(m:P.underlying t=some ud)(j:j6 ud=true)(l:TI P t a by_ z)(b:gY sz cf ok w v ys)(f:ys[k]? = some c)(i:cs.length=a)(e:((cf c).drop off).take cs.length=cs)
 (K:WL r P ops Q rest (Fr n ((d,.agg cs.toArray) :: s) ds) w):WL r P ops Q (⟨some d,.load t x,ty,pos,af,g⟩ :: rest) (Fr n s ds) w:=pv h rfl (E4 o m j l b f i e) K
theorem FV{enc:World->α->List Value->Prop}{low high:Option Operand}{l h:Nat}(b:gC ops n s g=true)(o:ev n s x=v)(m:P.underlying t=some (.slice e))(hi:TI P e sz by_ z)
 (a:Sl sz enc ok w0 v ys) (j:match low with|none=>l=0|some p=>∃ k,ev n s p = .int k (l:Int)) (f:match high with|none=>h=ys.length|some p=>∃ k,ev n s p = .int k (h:Int)) (i:l<=h) (c:h<=ys.length)
 (K:WL r P ops Q rest (Fr n ((d,Go.Sx.jB sz v l h) :: s) ds) w):WL r P ops Q (⟨some d,.slice t x low high none,ty,pos,af,g⟩ :: rest) (Fr n s ds) w:=pv b rfl (aeS o m hi a j f i c) K
theorem k8{LL:Value->List fT}(i:Nat)(f:gC ops n s g=true)(l:ev n s x=v)(m:ev n s y=u)(k:P.underlying t=some (.slice e))(hi:TI P e sz by_ z)(o:z.cells.size=sz)(j:0<sz)
 (h:St bs L w) (b:L[i]? = some (fL cf v e sz ys)) (hs:Src w u sz zs.length (zs.flatMap cf)) (h1:∀ x∈zs.flatMap cf,x.oneCell' = true) (hb:(ys.length+zs.length)*by_<=140737488355328) (p:ys.length+zs.length<=9223372036854775807)
 (c:∀ v', L.set i (fL cf v' e sz (ys++zs))=LL v')
 (K:∀ v' w', St bs (LL v') w' -> gw v.ownBlock.toList w w' -> WL r P ops Q rest (Fr n ((d,v') :: s) ds) w') :
 WL r P ops Q (⟨some d,.call ⟨.builtin .append,#[x,y],#[t,t]⟩,ty,pos,af,g⟩ :: rest) (Fr n s ds) w:=by
 refine NO i f l m k hi o j h b hs h1 hb (by simp only[maxLen];omega) fun v' w' h1 a=>K v' w' ?_ a
 rw[<-c]
 simpa[fL]using h1
end
structure qj {α:Type} (sz:Nat) (cf:α->List Value) (w:World) (w' : World) (r:Value) (e:TypeId) (zs:List α):Prop where
 own:w'.ownsRow 0 e sz r zs.length (zs.flatMap cf)
 place:∀ b,r.ownBlock=some b->w.heap.size<=b
section
variable {α:Type} {sz:Nat} {cf:α->List Value} {w w' w0:World} {r:Value} {zs:List α} {bs:List (World×List Nat)} {L:List fT} {e:TypeId}
theorem St.WM(h:St bs (fL cf r e sz zs :: L) w)(hb:(w0,[])∈bs):qj sz cf w0 w r e zs:=by
 have c:=h.base _ hb
 refine⟨h.own (fL cf r e sz zs) s_,fun b d => ?_⟩
 rcases c.mine b (by rw[ng];simp[row,d])with a|a
 . simp at a
 . exact a
theorem St.UU(h:St bs L w)(c:gw [] w w')(a:qj sz cf w w' r e zs):St bs (fL cf r e sz zs :: L) w' :=
 h.sN c (fun b hb=>a.place b (by simpa[row]using hb)) (by show r.ownBlock.toList.Nodup;cases r.ownBlock<;>simp) (fun b hb=>Kt a.own (by simpa[row]using hb)) a.own
end
end Go.Sx
namespace Go.Sx
open Go
section
variable {α:Type} [Inhabited α] {xs:List α} {k j:Nat} {f:α->α} {x:α}
def fJ(xs:List α)(k:Nat):α:=(xs[k]?).getD default
def fM(xs:List α)(k:Nat)(f:α->α):List α:=xs.set k (f (fJ xs k))
theorem gy(h:k<xs.length):xs[k]? = some (fJ xs k):=by
 obtain⟨y,a⟩:=nW h
 simp[fJ,a]
theorem iK(h:xs[k]? = some x):fJ xs k=x:=by simp[fJ,h]
theorem gx:(fM xs k f).length=xs.length:=by simp[fM]
theorem jS(h:k<xs.length):fJ (fM xs k f) k=f (fJ xs k):=by simp[fJ,fM,vD,h]
theorem kS(h:k≠j):fJ (fM xs k f) j=fJ xs j:=by simp[fJ,fM,vD,h]
theorem jy(h:k<xs.length):fJ (fM xs k f) j=if k=j then f (fJ xs k)else fJ xs j:=by
 split
 . rename_i e;subst e;exact jS h
 . rename_i e;exact kS e
end
section
variable {α:Type} {cf:α->List Value} {sz:Nat}
theorem oJ(a:∀ x:α,(cf x).length=sz)(xs:List α):(xs.flatMap cf).length=xs.length*sz:=by
 induction xs with
 | nil=>simp
 | cons x xs b=>rw[z7,zp,a,b,zb,rG];omega
theorem S9{a b vs:List Value}{o:Nat}:setAt (a++b) (a.length+o) vs=a++setAt b o vs:=by
 unfold setAt
 rw[List.take_append,List.drop_append]
 simp only[Nat.add_sub_cancel_left,oT]
 rw[BG o_,show a.length+o+vs.length-a.length=o+vs.length by omega,GP o_,uA]
theorem La{a b vs:List Value}{o:Nat}(h:o+vs.length<=a.length):setAt (a++b) o vs=setAt a o vs++b:=by
 unfold setAt
 rw[Mm o_,List.drop_append_of_le_length o_]
 simp only[oT]
theorem Qd(c:∀ x:α,(cf x).length=sz):∀ (xs:List α) (k off:Nat) (x a : α) (vs:List Value),xs[k]? = some x->cf a = setAt (cf x) off vs->off+vs.length<=sz->setAt (xs.flatMap cf) (k*sz+off) vs=(xs.set k a).flatMap cf:=by
 intro xs
 induction xs with
 | nil=>intro k off x a vs h;simp at h
 | cons f xs e =>
  intro k off x a vs b d hv
  cases k with
  | zero =>
   simp at b
   subst b
   rw[List.set_cons_zero,z7,z7,Nat.zero_mul,lX,La (by rw[c];exact hv),d]
  | succ k =>
   rw[List.set_cons_succ,z7,z7,show (k+1)*sz+off=(cf f).length+(k*sz+off) by rw[c,rG];omega,S9]
   rw[e k off x a vs (by simpa using b) d hv]
end
section
variable {α:Type} [Inhabited α] {cf:α->List Value} {sz:Nat} {w:World} {bs:List (World×List Nat)} {L:List fT} {xs:List α} {b i k off:Nat} {T:TypeId} {v:Value} {vs:List Value} {f:α->α}
theorem St.KH(h:St bs L w)(hi:L[i]? = some (blk b T (xs.flatMap cf)))(c:∀ x:α,(cf x).length=sz)(hk:k<xs.length)(a:(cf (fJ xs k))[off]? = some v):w.cell? ⟨b,k*sz+off,none⟩=some v :=
 h.rU hi (v7 c xs k off _ v (gy hk) a)
theorem St.adO(h:St bs L w)(hi:L[i]? = some (blk b T (xs.flatMap cf)))(d:∀ x:α,(cf x).length=sz)(hk:k<xs.length)(c:((cf (fJ xs k)).drop off).take vs.length=vs):∀ j u,vs[j]? = some u->w.cell? ⟨b,k*sz+off+j,none⟩=some u:=by
 intro j u a
 rw[<-c,uu]at a
 split at a
 . rw[Dz]at a
   rw[lW]
   exact h.KH hi d hk a
 . cases a
theorem FF(a:∀ x:α,(cf x).length=sz)(hk:k<xs.length)(b:cf (f (fJ xs k))=setAt (cf (fJ xs k)) off vs)(hv:off+vs.length<=sz):setAt (xs.flatMap cf) (k*sz+off) vs=(fM xs k f).flatMap cf :=
 Qd a xs k off _ _ vs (gy hk) b hv
theorem KI(a:∀ x:α,(cf x).length=sz)(hk:k<xs.length){n:Nat}(hv:off+n<=sz):k*sz+off+n<=(xs.flatMap cf).length:=by
 rw[oJ a]
 have:(k+1)*sz<=xs.length*sz:=zN _ hk
 rw[rG]at this
 omega
end
end Go.Sx
namespace Go.Sx
open Go
section
variable {α:Type} [Inhabited α] {cf:α->List Value} {sz:Nat} {w w0:World} {bs:List (World×List Nat)} {L:List fT} {xs:List α} {b k off:Nat} {T:TypeId} {v:Value} {vs:List Value}
theorem St.SV(h:St bs L w)(hb:(w0,[])∈bs)(a:(blk b T (xs.flatMap cf)).holds w0)(d:∀ x:α,(cf x).length=sz)(hk:k<xs.length)(c:(cf (fJ xs k))[off]? = some v):w.cell? ⟨b,k*sz+off,none⟩=some v :=
 h.KQ hb a (v7 d xs k off _ v (gy hk) c)
theorem St.aeb(h:St bs L w)(hb:(w0,[])∈bs)(c:(blk b T (xs.flatMap cf)).holds w0)(e:∀ x:α,(cf x).length=sz)(hk:k<xs.length)(d:((cf (fJ xs k)).drop off).take vs.length=vs):∀ j u,vs[j]? = some u->w.cell? ⟨b,k*sz+off+j,none⟩=some u:=by
 intro j u a
 rw[<-d,uu]at a
 split at a
 . rw[Dz]at a
   rw[lW]
   exact h.SV hb c e hk a
 . cases a
end
end Go.Sx
namespace Go.Sx
open Go
section
variable {r:Option Nat} {P:Program} {ops:Array Oper} {Q:Exit->Act->World->Prop} {rest:List Oper} {n:Nat} {s:List (Nat×Value)} {ds:List Deferred} {w:World}
variable {d:Nat} {dd:Option Nat} {ty t e:TypeId} {pos:String} {af:Array Edge} {g:Option (Nat×Bool)} {x y:Operand} {cs:Array Value} {k:IntKind} {i:Int} {len by_:Nat} {u:TypeDesc} {v z:Value}
theorem aai(f:ev n s x = .agg cs)(h:ev n s y = .int k i)(d:P.underlying t=some (.array len e))(b:P.underlying e=some u)(c:j6 u=false)(hi:TI P e 1 by_ z)(a:0<=i/\i<(len:Int))(hv:cs[i.toNat]? = some v) :
 (execOp (ev n s) ⟨dd,.index t x y,ty,pos,af,g⟩).run P w = .ok (.value v) w:=by
 simp[execOp,f,h,Instr.index,asIntOf,run_underlying d,a,hi.size,part,wS b,c,hv]
theorem mL(c:gC ops n s g=true)(j:ev n s x = .agg cs)(l:ev n s y = .int k i)(h:P.underlying t=some (.array len e))(b:P.underlying e=some u)(f:j6 u=false)(hi:TI P e 1 by_ z)(a:0<=i/\i<(len:Int))(hv:cs[i.toNat]? = some v)
 (K:WL r P ops Q rest (Fr n ((d,v) :: s) ds) w):WL r P ops Q (⟨some d,.index t x y,ty,pos,af,g⟩ :: rest) (Fr n s ds) w:=pw c (fun _=>aai j l h b f hi a hv) K
end
end Go.Sx
namespace Go.Sx
open Go
section
variable {α:Type} {cf:α->List Value} {sz:Nat} {w:World} {bs:List (World×List Nat)} {L:List fT} {ys:List α} {b i:Nat} {v:Value} {e:TypeId}
theorem St.aen(h:St bs L w)(hi:L[i]? = some (fL cf v e sz ys))(o:0<ys.length) :
 ∃ b a ex,v = .slice (some ⟨b,0,none⟩) ys.length a/\ys.length<=a/\a<=maxLen/\(ys.flatMap cf++ex).length=a*sz/\St bs (L.set i (blk b e (ys.flatMap cf++ex))) w:=by
 have m:w.ownsRow 0 e sz v ys.length (ys.flatMap cf):=h.own _ (zd hi)
 rcases m.2 with ⟨_,n⟩|⟨c, a,cur,rfl,_,l,f,g,j,k⟩
 . omega
 . have e1:cur.toList=ys.flatMap cf++cur.toList.drop (ys.length*sz):=by
    rw[<-k,tf]
   refine⟨c, a,cur.toList.drop (ys.length*sz),rfl,f,g,by rw[<-e1];simpa using j,?_⟩
   refine h.iR hi (gw.refl _ _) (fun x d=>.inl (by simpa[row,Value.ownBlock,blk]using d)) (by simp[blk]) (fun x d=>?_) ?_
   . grind [blk]
   . show w.heap[c]? = some (.cells (ys.flatMap cf++cur.toList.drop (ys.length*sz)).toArray e (0,0))
     rw[<-e1]
     simpa using l
theorem St.NY{ex:List Value}{cap:Nat}(h:St bs L w)(hi:L[i]? = some (blk b e (ys.flatMap cf++ex)))(d:∀ x:α,(cf x).length=sz)(a:ys.length<=cap)(hm:cap<=maxLen)(c:(ys.flatMap cf++ex).length=cap*sz) :
 St bs (L.set i (fL cf (.slice (some ⟨b,0,none⟩) ys.length cap) e sz ys)) w:=by
 have:=h.T8 hi c a hm
 grind [oJ]
theorem St.KT{m:Nat}(h:St bs L w)(hi:L[i]? = some (fL cf v e sz ys))(o:∀ x:α,(cf x).length=sz)(hm:m<=ys.length):St bs (L.set i (fL cf (jB sz v 0 m) e sz (ys.take m))) w:=by
 have p:w.ownsRow 0 e sz v ys.length (ys.flatMap cf):=h.own _ (zd hi)
 have d:(ys.take m).length=m:=by rw[zw];omega
 have l:(ys.take m).flatMap cf=(ys.flatMap cf).take (m*sz):=by
  have e1:ys.flatMap cf=(ys.take m).flatMap cf++(ys.drop m).flatMap cf:=by rw[<-List.flatMap_append,tf]
  grind [oJ]
 rcases p.2 with ⟨rfl,q⟩|⟨c, b,cur,rfl,_,n,r,f,g,j⟩
 . have k:m=0:=by omega
   subst k
   refine h.iR hi (gw.refl _ _) (fun x a=>.inl (by simp[row,Value.ownBlock,jB]at a)) (by simp[row,Value.ownBlock,jB]) (fun x a=>by simp[row,Value.ownBlock,jB]at a) ?_
   exact⟨s_,.inl ⟨by simp[jB],s_⟩⟩
 . have hv:jB sz (.slice (some ⟨c, 0,none⟩) ys.length b) 0 m = .slice (some ⟨c, 0,none⟩) m b:=by
    simp only[jB,DH,Nat.zero_mul,vE,Addr.add_lit,pM]
    split<;>rfl
   rw[hv]
   refine h.iR hi (gw.refl _ _) (fun x a=>.inl (by simpa[row,Value.ownBlock]using a)) (by simp[row,Value.ownBlock]) (fun x a=>?_) ?_
   . simp[row,Value.ownBlock]at a
     grind
   . refine⟨by rw[oJ o],.inr ⟨c, b,cur,by rw[d],lD _,n,by rw[d];omega,f,g,?_⟩⟩
     rw[d,l,<-j,List.take_take,xu (zN _ hm)]
end
section
variable {α:Type} [Inhabited α] {cf:α->List Value} {sz:Nat} {w:World} {bs:List (World×List Nat)} {L L' : List fT} {ys:List α} {b i k off:Nat} {v u:Value} {e:TypeId} {vs:List Value} {f:α->α}
variable {r:Option Nat} {P:Program} {ops:Array Oper} {Q:Exit->Act->World->Prop} {rest l:List Oper} {n:Nat} {s s0:List (Nat×Value)} {ds:List Deferred} {Nx:Value->World->Prop}
variable {d:Nat} {dd:Option Nat} {ty t:TypeId} {pos:String} {af:Array Edge} {g:Option (Nat×Bool)} {x y:Operand} {szt by_:Nat} {z:Value}
theorem aff(i:Nat)(D:ev n s x=jm sz v k off)(F:ev n s y=u)(hvs:u.cells.toList=vs)(C:TI P t szt by_ z)(B:vs.length=szt)(h1:vs.all (·.oneCell')=true)(A:St bs L w)(hi:L[i]? = some (fL cf v e sz ys))(a:∀ x:α,(cf x).length=sz)(hk:k<ys.length)(c:Nat.ble (off+vs.length) sz=true)
 (l:cf (f (fJ ys k))=setAt (cf (fJ ys k)) off vs) (h:L.set i (fL cf v e sz (fM ys k f))=L') :
 ∃ w', (execOp (ev n s) ⟨dd,.store t x y,ty,pos,af,g⟩).run P w = .ok .skip w' /\ St bs L' w' := by
 have c:=pL c
 have d:=(zh.1 hi).1
 obtain⟨b,cap,ex,rfl,j,hm,o,hs⟩:=A.aen hi o_
 have E : ev n s x = .pointer (some ⟨b,k*sz+off,none⟩):=by rw[D];simp[jm]
 have m:=KI a hk (n:=vs.length) c
 have hb:(L.set i (blk b e (ys.flatMap cf++ex)))[i]? = some (blk b e (ys.flatMap cf++ex)):=by simp[d]
 obtain⟨w', q,r, _⟩:=Ln (dd:=dd) (ty:=ty) (pos:=pos) (af:=af) (g:=g) (cs' := (fM ys k f).flatMap cf++ex) i E F hvs C B h1 hs hb (by rw[zp];omega) (by rw[La m,FF a hk l c]) rfl
 refine⟨w', q,?_⟩
 have p : ((fM ys k f).flatMap cf++ex).length=cap*sz:=by rw[<-o,zp,zp,oJ a,oJ a,gx]
 have:=r.NY (ys:=fM ys k f) (ex:=ex) (cap:=cap) (i:=i) (b:=b) (e:=e) (by simp[d]) a (by rw[gx];exact j) hm p
 subst h
 simpa[gx]using this
theorem afe(i:Nat)(h:gC ops n s g=true)(q:ev n s x=jm sz v k off)(A:ev n s y=u)(hvs:u.cells.toList=vs)(p:TI P t szt by_ z)(o:vs.length=szt)(h1:vs.all (·.oneCell')=true)(m:St bs L w)(hi:L[i]? = some (fL cf v e sz ys))(j:∀ x:α,(cf x).length=sz)(hk:k<ys.length)(l:Nat.ble (off+vs.length) sz=true)
 (d:cf (f (fJ ys k))=setAt (cf (fJ ys k)) off vs) (c:L.set i (fL cf v e sz (fM ys k f))=L')
 (K:∀ w', St bs L' w' -> WL r P ops Q rest (Fr n s ds) w'):WL r P ops Q (⟨none,.store t x y,ty,pos,af,g⟩ :: rest) (Fr n s ds) w:=by
 obtain⟨w', a,b⟩:=aff (dd:=none) (ty:=ty) (pos:=pos) (af:=af) (g:=g) i q A hvs p o h1 m hi j hk l d c
 exact Dh h rfl a (K w' b)
end
section
variable {α:Type}
def gJ(cf:α->List Value)(T:TypeId)(B:Nat)(ps:List (Option Nat))(xs:List α):fT where
 gH:=ps.filterMap id
 holds w:=∀ (j b:Nat),ps[j]? = some (some b)->w.heap[b]? = some (.cells (((xs.drop (B*j)).take B).flatMap cf).toArray T (0,0))
 loc w w' h hh j b hb:=by
  rw[h b (GV.2 ⟨some b,zd hb,rfl⟩)]
  exact hh j b hb
def iw(p:Option Nat):List Value:=[.pointer (p.map fun b=>⟨b,0,none⟩)]
variable [Inhabited α] {cf:α->List Value} {sz B:Nat} {w:World} {bs:List (World×List Nat)} {L:List fT} {xs C:List α} {b i k off j:Nat} {v:Value} {T:TypeId} {vs:List Value} {f:α->α} {ps:List (Option Nat)}
theorem mem_some{ps:List (Option Nat)}{j b:Nat}(h:ps[j]? = some (some b)):b∈ps.filterMap id:=GV.2 ⟨some b,zd h,rfl⟩
theorem Ic(a:0<B)(hk:k<xs.length):fJ ((xs.drop (B*(k / B))).take B) (k%B)=fJ xs k/\k%B<((xs.drop (B*(k / B))).take B).length:=by
 have b:=BP k a
 have c:=Nat.div_add_mod k B
 constructor
 . grind [fJ]
 . grind
theorem St.VG(h:St bs L w)(hi:L[i]? = some (gJ cf T B ps xs))(g:∀ x:α,(cf x).length=sz)(d:0<B)(hk:k<xs.length)(hp:ps[k / B]? = some (some b))(e:(cf (fJ xs k))[off]? = some v):w.cell? ⟨b,k%B*sz+off,none⟩=some v:=by
 have f:=h.own _ (zd hi) _ _ hp
 rw[cell_of_row w b _ _ T (0,0) f]
 obtain⟨a,c⟩:=Ic d hk
 have:=v7 g _ (k%B) off _ v (gy c) (by rw[a];exact e)
 simpa using this
theorem VL(a:0<B)(hk:k<xs.length):((fM xs k f).drop (B*(k / B))).take B=fM ((xs.drop (B*(k / B))).take B) (k%B) f:=by
 obtain⟨b,c⟩:=Ic a hk
 have d:=BP k a
 have e:=Nat.div_add_mod k B
 unfold fM
 rw[b,List.drop_set,if_neg o_,List.take_set]
 congr 1
 omega
theorem VK(a:0<B){j:Nat}(d:j≠k / B):((fM xs k f).drop (B*j)).take B=(xs.drop (B*j)).take B:=by
 have b:=BP k a
 have c:=Nat.div_add_mod k B
 unfold fM
 rw[List.drop_set]
 split
 . rfl
 . rename_i e
   rw[List.take_set_of_le]
   rcases BN j (k / B)with h|h
   . have:B*(j+1)<=B*(k / B):=BD _ h
     rw[Nat.mul_add]at this
     omega
   . have:B*(k / B+1)<=B*j:=BD _ o_
     rw[Nat.mul_add]at this
     omega
end
section
variable {α:Type} [Inhabited α] {cf:α->List Value} {sz B:Nat} {w:World} {bs:List (World×List Nat)} {L L' : List fT} {xs C:List α} {b i k off j:Nat} {v u:Value} {T:TypeId} {vs:List Value} {f:α->α} {ps:List (Option Nat)}
variable {r:Option Nat} {P:Program} {ops:Array Oper} {Q:Exit->Act->World->Prop} {rest l:List Oper} {n:Nat} {s s0:List (Nat×Value)} {ds:List Deferred} {Nx:Value->World->Prop}
variable {d:Nat} {dd:Option Nat} {ty t:TypeId} {pos:String} {af:Array Edge} {g:Option (Nat×Bool)} {x y:Operand} {szt by_:Nat} {z:Value}
theorem afd(i:Nat)(a:ev n s x = .pointer (some ⟨b,k%B*sz+off,none⟩))(W:ev n s y=u)(hvs:u.cells.toList=vs)(V:TI P t szt by_ z)(U:vs.length=szt)(h1:vs.all (·.oneCell')=true)(l:St bs L w)(hi:L[i]? = some (gJ cf T B ps xs))(D:∀ x:α,(cf x).length=sz)(o:0<B)(hk:k<xs.length)(hp:ps[k / B]? = some (some b))(d:Nat.ble (off+vs.length) sz=true)
 (K:cf (f (fJ xs k))=setAt (cf (fJ xs k)) off vs) (I:L.set i (gJ cf T B ps (fM xs k f))=L') :
 ∃ w', (execOp (ev n s) ⟨dd,.store t x y,ty,pos,af,g⟩).run P w = .ok .skip w' /\ St bs L' w' := by
 have d:=pL d
 obtain⟨A,m⟩:=Ic (xs:=xs) o hk
 have F:=l.own _ (zd hi)
 have v:=F _ _ hp
 obtain⟨ch,C⟩:∃ ch,ch=(xs.drop (B*(k / B))).take B:=⟨_,rfl⟩
 rw[<-C]at A m v
 have M:=KI D m (n:=vs.length) d
 have G:=run_storeCells_at P b (k%B*sz+off) T vs 0 (ch.flatMap cf).toArray w v (by simpa using M) (by simpa using h1)
 have O:u.cells.size=szt:=by rw[<-U,<-hvs];simp
 have S:setAt (ch.flatMap cf) (k%B*sz+off) vs=(fM ch (k%B) f).flatMap cf:=FF D m (by rw[A];exact K) d
 have N:∀ x∈(gJ cf T B ps xs).gH,x<w.heap.size:=fun x a=>l.lt x (r0 hi a)
 have E:(ps.filterMap id).Nodup:=sublist_nodup' l.sep (zd hi)
 refine⟨w.setRow b ((setAt (ch.flatMap cf) (k%B*sz+off) vs).toArray),?_,?_⟩
 . simp only[execOp,a,W,Instr.storeAt,Instr.sureAddr,storeVar,zt,zz,zo,V.size,O,ne_eq,not_true,if_false,hvs]
   simp only[pM]at G
   simp[G,setAt]
 . subst I
   refine l.iR hi ((gw.setRow w b _).mono (fun x a=>?_)) (fun c r=>.inl r) E (fun c r=>?_) ?_
   . simp only[z8]at a
     subst a
     exact mem_some hp
   . have:=N c r
     simpa using this
   . intro q c e
     by_cases hqk:q=k / B
     . subst hqk
       rw[hp]at e
       cases e
       rw[VL o hk,<-C,<-S]
       exact setRow_heap w b (ch.flatMap cf).toArray _ T (0,0) v
     . rw[VK o hqk]
       have Q:c≠b:=by
        intro e'
        subst e'
        exact hqk (some_inj E e hp)
       have H:(w.setRow b ((setAt (ch.flatMap cf) (k%B*sz+off) vs).toArray)).heap[c]? = w.heap[c]? := setRow_other w b c _ Q
       rw[H]
       exact F q c e
where
 sublist_nodup' {L:List fT} {R:fT} (h:(iZ L).Nodup) (J:R∈L):R.gH.Nodup:=Lo h J
 some_inj {ps:List (Option Nat)} {b:Nat}:∀ {i j:Nat},(ps.filterMap id).Nodup->ps[i]? = some (some b)->ps[j]? = some (some b)->i=j:=by
  induction ps with
  | nil=>intro i j _ h;simp at h
  | cons p ps X =>
   grind
theorem ru(i:Nat)(j:gC ops n s g=true)(v:ev n s x = .pointer (some ⟨b,k%B*sz+off,none⟩))(A:ev n s y=u)(hvs:u.cells.toList=vs)(q:TI P t szt by_ z)(p:vs.length=szt)(h1:vs.all (·.oneCell')=true)(o:St bs L w)(hi:L[i]? = some (gJ cf T B ps xs))(l:∀ x:α,(cf x).length=sz)(d:0<B)(hk:k<xs.length)(hp:ps[k / B]? = some (some b))(m:Nat.ble (off+vs.length) sz=true)
 (h:cf (f (fJ xs k))=setAt (cf (fJ xs k)) off vs) (e:L.set i (gJ cf T B ps (fM xs k f))=L')
 (K:∀ w', St bs L' w' -> WL r P ops Q rest (Fr n s ds) w'):WL r P ops Q (⟨none,.store t x y,ty,pos,af,g⟩ :: rest) (Fr n s ds) w:=by
 obtain⟨w', a,c⟩:=afd (dd:=none) (ty:=ty) (pos:=pos) (af:=af) (g:=g) i v A hvs q p h1 o hi l d hk hp m h e
 exact Dh j rfl a (K w' c)
end
section
variable {α:Type} {cf:α->List Value} {sz B:Nat} {w:World} {bs:List (World×List Nat)} {L:List fT} {xs C:List α} {b j:Nat} {T:TypeId} {ps:List (Option Nat)}
theorem St.QH{R R' a : fT}(h:St bs (R :: R' :: L) w)(f:a.gH.Perm (R.gH++R'.gH))(e:R.holds w->R'.holds w->a.holds w):St bs (a :: L) w:=by
 have hp:(iZ (a :: L)).Perm (iZ (R :: R' :: L)):=by
  grind [ng]
 refine⟨fun p d => ⟨(h.base p d).gA,fun b hb=>(h.base p d).mine b (hp.mem_iff.1 hb)⟩,fun Q c=>?_,hp.nodup_iff.2 h.sep,fun b hb=>h.lt b (hp.mem_iff.1 hb)⟩
 rcases ze.1 c with rfl|c
 . exact e (h.own R s_) (h.own R' s_)
 . exact h.own Q (by simp[c])
theorem acY{ps:List (Option Nat)}{b:Nat}:∀ {j:Nat},ps[j]? = some none->((ps.set j (some b)).filterMap id).Perm (b :: ps.filterMap id):=by
 induction ps with
 | nil=>intro j h;simp at h
 | cons p ps a =>
  intro j h
  cases j with
  | zero =>
   simp at h
   subst h
   simp
  | succ j =>
   grind
theorem St.Oc{cs:List Value}(h:St bs (blk b T cs :: gJ cf T B ps xs :: L) w)(d:ps[j]? = some none)(g:cs=((xs.drop (B*j)).take B).flatMap cf):St bs (gJ cf T B (ps.set j (some b)) xs :: L) w:=by
 have i:=(zh.1 d).1
 refine h.QH (by simpa[gJ,blk]using acY d) fun e f q c a=>?_
 rw[vD]at a
 split at a
 . rename_i e'
   subst e'
   cases a
   rw[<-g]
   exact e
 . exact f q c a
theorem St.Od{cs:List Value}(h:St bs (blk b T cs :: gJ cf T B ps xs :: L) w)(j:xs.length=B*ps.length)(l:C.length=B)(f:cs=C.flatMap cf):St bs (gJ cf T B (ps++[some b]) (xs++C) :: L) w:=by
 refine h.QH (by simp only[gJ,blk,Ms];exact qG) fun d e q c a=>?_
 rw[GR]at a
 split at a
 . rename_i g
   have:B*(q+1)<=B*ps.length:=BD _ g
   rw[Nat.mul_add]at this
   rw[List.drop_append_of_le_length o_,Mm (by rw[BK];omega)]
   exact e q c a
 . rename_i k
   have i : q=ps.length:=by
    grind
   subst i
   simp at a
   subst a
   rw[<-j,List.drop_left,BG o_,<-f]
   exact d
theorem St.Em(h:St bs L w)(m:Nat):St bs (gJ cf T B (List.replicate m none) xs :: L) w:=by
 refine h.add (lo:=w.heap.size) (fun p hp=>(h.base p hp).gA.size) h.lt (fun b hb=>?_) ?_ (fun b hb=>?_) ?_
 . simp[gJ]at hb
 . simp[gJ]
 . simp[gJ]at hb
 . intro j b hb
   grind
end
section
variable {α:Type} {cf:α->List Value} {z0:α}
theorem abB{z:Value}{sz:Nat}(k:z.cells.toList=cf z0)(a:∀ x:α,(cf x).length=sz)(f:0<sz)(c:Nat):madeCells z.cells (c*sz)=((List.replicate c z0).flatMap cf).toArray:=by
 have l:z.cells.size=sz:=by rw[<-tg,k,a]
 apply Array.ext'
 apply mW
 intro i
 by_cases hi:i<c*sz
 . have b:i / sz<c:=(Mt f).2 hi
   have d:i%sz<(cf z0).length:=by rw[a];exact BP _ f
   obtain⟨u,j⟩:=nW d
   have e:=v7 a (List.replicate c z0) (i / sz) (i%sz) z0 u (by rw[rD,if_pos b]) j
   rw[BL]at e
   have g:z.cells[i%z.cells.size]! = u:=by
    grind
   have h:(madeCells z.cells (c*sz)).toList[i]? = some (z.cells[i%z.cells.size]!):=by simp[madeCells,hi]
   rw[h,g]
   simpa using e.symm
 . have b:(madeCells z.cells (c*sz)).toList[i]? = none:=by rw[pK];simp[madeCells];omega
   have d:((List.replicate c z0).flatMap cf).length=c*sz:=by rw[oJ a,qh]
   grind
end
section
variable {α:Type} {cf:α->List Value} {z0:α}
variable {r:Option Nat} {P:Program} {ops:Array Oper} {Q:Exit->Act->World->Prop} {rest l:List Oper} {n:Nat} {s s0:List (Nat×Value)} {ds:List Deferred} {w:World} {Nx:Value->World->Prop}
variable {d:Nat} {dd:Option Nat} {ty t e:TypeId} {pos:String} {af:Array Edge} {g:Option (Nat×Bool)} {x y:Operand} {sz by_:Nat} {z:Value} {bs:List (World×List Nat)} {L:List fT}
theorem Rs{k k' : IntKind}{c m:Nat}(p:ev n s x = .int k (m:Int))(q:ev n s y = .int k' (c:Int))(o:P.underlying t=some (.slice e))(hi:TI P e sz by_ z)(r:z.cells.toList=cf z0)(j:∀ x:α,(cf x).length=sz)(l:0<sz)(hm:m<=c)(hb:by_*c<=281474976710656)(u:c<=9223372036854775807) :
 (execOp (ev n s) ⟨dd,.makeSlice t x y,ty,pos,af,g⟩).run P w = .ok (.value (.slice (some ⟨w.heap.size,0,none⟩) m c)) (w.alloc (.cells ((List.replicate c z0).flatMap cf).toArray e)):=by
 obtain⟨i,h,b,d,f⟩:=hi.get
 subst d
 have a:=run_make (P:=P) w t e i z o h f k k' m c o_ o_ (by rw[<-Int.natCast_mul];omega) o_
 simp only[nT,b]at a
 rw[abB r j l]at a
 simp only[execOp,p,q,zt,a,zo,zz]
theorem nY{k k' : IntKind}{c m:Nat}(f:gC ops n s g=true)(o:ev n s x = .int k (m:Int))(p:ev n s y = .int k' (c:Int))(l:P.underlying t=some (.slice e))(hi:TI P e sz by_ z)(q:z.cells.toList=cf z0)(h:∀ x:α,(cf x).length=sz)(j:0<sz)(hm:m<=c)(hb:by_*c<=281474976710656)(a:c<=9223372036854775807)(i:St bs L w)
 (K:∀ b w', w.heap.size<=b->gw [] w w' -> St bs (blk b e ((List.replicate c z0).flatMap cf) :: L) w' -> WL r P ops Q rest (Fr n ((d,.slice (some ⟨b,0,none⟩) m c) :: s) ds) w') :
 WL r P ops Q (⟨some d,.makeSlice t x y,ty,pos,af,g⟩ :: rest) (Fr n s ds) w :=
 pv f rfl (Rs o p l hi q h j hm hb a) (K _ _ (zj _) (gw.alloc [] w _) (yE i e _))
theorem rZ{k k' : IntKind}{c m:Nat}(d:gC ops n s g=true)(o:ev n s x = .int k (m:Int))(p:ev n s y = .int k' (c:Int))(j:P.underlying t=some (.slice e))(hi:TI P e sz by_ z)(q:z.cells.toList=cf z0)(f:∀ x:α,(cf x).length=sz)(i:0<sz)(hm:m<=c)(hb:by_*c<=281474976710656)(a:c<=9223372036854775807)(h:St bs L w)
 (K:∀ b w', St bs (blk b e ((List.replicate c z0).flatMap cf) :: L) w' -> Nx (.slice (some ⟨b,0,none⟩) m c) w') :
 ny P ops Q n ds s0 l ⟨dd,.makeSlice t x y,ty,pos,af,g⟩ s Nx w :=
 Fp d rfl (Rs o p j hi q f i hm hb a) (K _ _ (yE h e _))
theorem St.Vs{b c m i:Nat}(h:St bs L w)(hi:L[i]? = some (blk b e ((List.replicate c z0).flatMap cf)))(a:∀ x:α,(cf x).length=sz)(hm:m<=c)(d:c<=maxLen):St bs (L.set i (fL cf (.slice (some ⟨b,0,none⟩) m c) e sz (List.replicate m z0))) w:=by
 have e1:(List.replicate c z0).flatMap cf=(List.replicate m z0).flatMap cf++(List.replicate (c-m) z0).flatMap cf:=by
  rw[<-List.flatMap_append,List.replicate_append_replicate]
  congr 2
  omega
 rw[e1]at hi
 have:=h.NY (cf:=cf) (ys:=List.replicate m z0) (cap:=c) hi a (by simpa using hm) d (by rw[<-e1,oJ a,qh])
 simpa using this
end
theorem St.made{w w' : World}{bs:List (World×List Nat)}{L:List fT}{R:fT}(h:St bs L w)(a:fV (gm []) w w' R):St bs (R :: L) w' :=
 h.sN (by simpa[gm,iZ]using a.gA) (fun b hb=>(a.place b hb).elim (fun h=>by simp[gm,iZ]at h) id) a.nodup a.lt a.holds
theorem St.OJ{w w' : World}{bs:List (World×List Nat)}{L:List fT}{R:fT}(h:St bs (R :: L) w')(hb:(w,[])∈bs):fV (gm []) w w' R:=h.Eu (R:=gm []) hb
theorem Be{e:Option Nat}{b:Nat}(h:e=some b):Value.pointer (e.map fun b=>(⟨b,0,none⟩:Addr)) = .pointer (some ⟨b,0,none⟩):=by rw[h];rfl
def wC:Value->Bool
 | .slice none _ _=>true
 | _=>false
section
variable {r:Option Nat} {P:Program} {ops:Array Oper} {Q:Exit->Act->World->Prop} {rest:List Oper} {n:Nat} {s:List (Nat×Value)} {ds:List Deferred} {w w0 w' : World} {d:Nat} {ty t t' e:TypeId} {pos:String} {af:Array Edge} {g:Option (Nat×Bool)} {v:Value} {x y:Operand}
theorem CB{α:Type}{sz:Nat}{enc:World->α->List Value->Prop}{ok:Nat->Prop}{ys:List α}(f:gC ops n s g=true)(i:ev n s x=v)(j:ev n s y = .slice none 0 0)(h:P.underlying t=some (.slice e))(b:Sl sz enc ok w0 v ys)
 (K:WL r P ops Q rest (Fr n ((d,.bool (wC v)) :: s) ds) w):WL r P ops Q (⟨some d,.binOp .eql t x y t', ty,pos,af,g⟩ :: rest) (Fr n s ds) w:=by
 obtain⟨a,c,rfl,_⟩:=b
 have:wC (.slice a ys.length c)=a.isNone:=by cases a<;>rfl
 rw[this]at K
 exact YP f i j h K
theorem CO{α:Type}{sz:Nat}{enc:World->α->List Value->Prop}{ok:Nat->Prop}{ys:List α}(h:wC v=true)(e:Sl sz enc ok w0 v ys):ys=[]:=by
 obtain⟨a,c,rfl,g,i,d⟩:=e
 cases ys with
 | nil=>rfl
 | cons y ys =>
  obtain⟨b,o,vs,f,_⟩:=d 0 y rfl
  subst f
  cases h
theorem qj.CN {α:Type}{sz:Nat}{cf:α->List Value}{e:TypeId}:qj sz cf w w' (.slice none 0 0) e ([]:List α):=⟨⟨s_,.inl ⟨rfl,rfl⟩⟩,fun b hb=>by simp[Value.ownBlock]at hb⟩
end
section
variable {α:Type} {cf:α->List Value} {w:World} {bs:List (World×List Nat)} {L:List fT} {xs:List α} {b i j B:Nat} {T:TypeId} {ps:List (Option Nat)}
theorem St.Ob(h:St bs L w)(hi:L[i]? = some (gJ cf T B ps xs))(hp:ps[j]? = some (some b)):∀ q u,(((xs.drop (B*j)).take B).flatMap cf)[q]? = some u->w.cell? ⟨b,0+q,none⟩=some u:=by
 intro q u c
 have a:=h.own _ (zd hi) _ _ hp
 rw[cell_of_row w b _ _ T (0,0) a]
 simpa using c
theorem Oh{sz:Nat}(b:∀ x:α,(cf x).length=sz)(c:xs.length=B*ps.length)(a:j<ps.length):(((xs.drop (B*j)).take B).flatMap cf).length=B*sz:=by
 rw[oJ b,zw,BK]
 have:B*(j+1)<=B*ps.length:=BD _ a
 grind
theorem S8{cs vs:List Value}(h:vs.length=cs.length):setAt cs 0 vs=vs:=by
 grind [setAt]
end
theorem xX{α:Type}{cf:α->List Value}(h:∀ a,(cf a).all (·.oneCell')=true)(xs:List α):∀ x∈xs.flatMap cf,x.oneCell' = true:=by
 grind
structure qJ (ps qs:List (Option Nat)) (k:Nat):Prop where
 len:qs.length=ps.length
 rest:∀ j,k<=j->j<ps.length->qs[j]? = some none
 done:∀ j,j<k->qs[j]? = some none->ps[j]? = some none
theorem qJ.start(ps:List (Option Nat)):qJ ps (List.replicate ps.length none) 0 :=
 ⟨s_,fun j _ a=>by rw[rD,if_pos a],fun j a=>absurd a o_⟩
theorem qJ.skip{ps b:List (Option Nat)}{k:Nat}(h:qJ ps b k)(hk:ps[k]? = some none):qJ ps b (k+1) :=
 ⟨h.len,fun j c a=>h.rest j o_ a,fun j c a=>by
  by_cases e:j=k
  . subst e;exact hk
  . exact h.done j o_ a⟩
theorem qJ.set{ps c:List (Option Nat)}{k b:Nat}(h:qJ ps c k)(hk:k<ps.length):qJ ps (fM c k (fun _=>some b)) (k+1):=by
 have f:=h.len
 refine⟨by rw[gx];exact f,fun j d a=>?_,fun j d a=>?_⟩
 . unfold fM
   rw[List.getElem?_set_ne o_]
   exact h.rest j o_ a
 . unfold fM at a
   by_cases e:k=j
   . grind
   . rw[List.getElem?_set_ne e]at a
     exact h.done j o_ a
theorem qJ.next{ps a:List (Option Nat)}{k:Nat}(h:qJ ps a k)(hk:k<ps.length):a[k]? = some none:=h.rest k (zj _) hk
end Go.Sx
namespace Go.Sx
open Go
def kO(p:Prop)(R:fT):fT where
 gH:=R.gH
 holds w:=p/\R.holds w
 loc w w' h hh:=⟨hh.1,R.loc w w' h hh.2⟩
section
variable {w w' w0:World} {bs:List (World×List Nat)} {L LL:List fT} {R R' : fT} {p p' : Prop}
theorem Own.fact(h:Own (kO p R) w):p:=h.holds.1
theorem Own.un(h:Own (kO p R) w):Own R w:=⟨h.holds.2,h.nodup,h.lt⟩
theorem fV.qb(h:fV R w w' R')(hp:p'):fV (kO p R) w w' (kO p' R'):=⟨⟨hp,h.holds⟩,h.gA,h.place,h.nodup,h.lt⟩
theorem fV.Gm(h:fV R w w' R')(hp:p'):fV R w w' (kO p' R'):=⟨⟨hp,h.holds⟩,h.gA,h.place,h.nodup,h.lt⟩
theorem fV.LY(h:fV R w w' R'):fV (kO p R) w w' R' := ⟨h.holds,h.gA,h.place,h.nodup,h.lt⟩
theorem St.un(h:St bs (kO p R :: L) w):St bs (R :: L) w :=
 ⟨fun q b=>⟨(h.base q b).gA,(h.base q b).mine⟩,fun Q a=>by
  rcases ze.1 a with rfl|a
  . exact(h.own (kO p Q) s_).2
  . exact h.own Q (by simp[a]),h.sep,h.lt⟩
theorem St.qb(h:St bs (R :: L) w)(hp:p):St bs (kO p R :: L) w :=
 ⟨fun q b=>⟨(h.base q b).gA,(h.base q b).mine⟩,fun Q a=>by
  rcases ze.1 a with rfl|a
  . exact⟨hp,h.own R s_⟩
  . exact h.own Q (by simp[a]),h.sep,h.lt⟩
theorem St.fact(h:St bs (kO p R :: L) w):p:=(h.own (kO p R) s_).1
theorem St.YY{i:Nat}(h:St bs L w)(hi:L[i]? = some (kO p R)):p:=(h.own (kO p R) (zd hi)).1
theorem Own.of{L:List fT}(h:Own (gm L) w):St [(w,(gm L).gH)] L w:=by
 have a:=(St.Jn h).unpack
 rwa [xq]at a
theorem St.WK(h:St bs L w')(hb:(w,R.gH)∈bs):fV R w w' (gm L):=by
 have a:St bs (L++[]) w' := by rwa [xq]
 exact(St.pack L [] a).Eu hb
theorem fV.EL{A B:List fT}(h:fV R w w' (gm (A++B))):fV R w w' (gm [gm A,gm B]):=by
 have c:(gm [gm A,gm B]).gH=(gm (A++B)).gH:=by simp[gm,iZ]
 refine⟨fun Q d=>?_,h.gA,fun b hb=>h.place b (c▸hb),c▸h.nodup,fun b hb=>h.lt b (c▸hb)⟩
 simp only[ze,oV,or_false]at d
 rcases d with rfl|rfl
 . exact fun S a=>h.holds S (ur _ a)
 . exact fun S a=>h.holds S (zL _ a)
theorem fV.Ff{a : fT}(h:fV R w w' R')(c:a.gH=R'.gH)(d:R'.holds w' -> a.holds w'):fV R w w' a :=
 ⟨d h.holds,h.gA,fun b hb=>h.place b (c▸hb),c▸h.nodup,fun b hb=>h.lt b (c▸hb)⟩
end
end Go.Sx
namespace Go.Sx
open Go
def C0(L:List fT):List Nat->List fT
 | []=>[]
 | i :: r=>match L[i]? with
  | some x=>x :: C0 L r
  | none=>C0 L r
theorem S6(L:List fT):∀ ix,C0 L ix=ix.filterMap fun i=>L[i]?
 | []=>rfl
 | i :: r=>by
  simp only[C0,rC]
  cases L[i]? <;> simp[S6 L r]
theorem aeG(L:List fT):(List.range L.length).filterMap (fun i=>L[i]?)=L:=by
 apply mW
 intro j
 have h:∀ (n:Nat),n<=L.length->(List.range n).filterMap (fun i=>L[i]?)=L.take n:=by
  intro n
  induction n with
  | zero=>intro _;rfl
  | succ n a =>
   intro b
   rw[rF,Ms,a o_,oU]
   simp only[rC,List.filterMap_nil]
   cases L[n]? <;> simp
 rw[h _ (zj _),tq]
theorem K6(L:List fT):∀ ix:List Nat,(ix.filter fun i=>decide (i<L.length)).filterMap (fun i=>L[i]?)=ix.filterMap fun i=>L[i]?
 | []=>rfl
 | i :: r=>by
  by_cases h:i<L.length
  . rw[GN (by simpa using h),rC,rC,K6 L r]
  . rw[List.filter_cons_of_neg (by simpa using h),rC,K6 L r,pK o_]
theorem St.re{bs:List (World×List Nat)}{L:List fT}{w:World}(ix:List Nat)(h:St bs L w)(f:ix.Nodup:=by decide):St bs (C0 L ix) w:=by
 have hp:((ix.filter fun i=>decide (i<L.length))++((List.range L.length).filter fun i=>decide (i∉ix))).Perm (List.range L.length):=by
  rw[List.perm_ext_iff_of_nodup]
  . intro a
    simp only[zn,z6,lU,decide_eq_true_eq]
    by_cases c:a∈ix<;>simp[c]
  . rw[zr]
    refine⟨f.sublist qH,xw.sublist qH,fun a c b hb e=>?_⟩
    subst e
    simp only[z6,decide_eq_true_eq]at c hb
    exact hb.2 c.1
  . exact xw
 have d:=hp.filterMap fun i=>L[i]?
 rw[aeG,Ms,K6,<-S6]at d
 exact(h.perm d.symm).sub (um _ _)
end Go.Sx
namespace Go.Ex
open Go
section
variable {P:Program} {w:World}
theorem aeB{F:Fence}{m:Nat}{c:Code}{Q:Exit->Act->World->Prop}{a:Act}(h:c.wpIn F m P (fun e a w=>(∀ l,e ≠ .goto l)/\Q e a w) a w):(Code.scope c).wpIn F m P Q a w:=by
 intro b k cs s hb o
 have d:(lone (b.atR a (.code (.scope c) :: k)) cs w).fenced P F:=fenced_calm hb o rfl
 have s0:Go.step P (lone (b.atR a (.code (.scope c) :: k)) cs w) = .next (lone (b.atR a (.code c :: .inScope c :: k)) cs w):=step_lone_go (by simp[stepG,stepG.exec,Frame.atR])
 have s1:∀ a w,Go.step P (lone (b.atR a (.inScope c :: k)) cs w) = .next (lone (b.atR a k) cs w):=fun a w=>step_lone_go (by simp[stepG,stepG.exec,Frame.atR])
 obtain⟨e,g,j,⟨q,i⟩,f⟩:=h b (.inScope c :: k) cs s hb o
 cases e with
 | normal=>exact⟨.normal,g,j,i,.head d s0 (StepsIn.trans f (.one (fenced_calm hb o rfl) (s1 _ _)))⟩
 | exit id =>
  have p:exitTo id (.inScope c :: k)=exitTo id k:=by simp[exitTo]
  exact⟨.exit id,g,j,i,fun k' n=>.head d s0 (f.1 k' (by rw[p];exact n)),
   fun r n=>let ⟨k₁,h1,h2⟩:=f.2 r (by rw[p];exact n);⟨k₁,h1,.head d s0 h2⟩⟩
 | goto l=>exact absurd rfl (q l)
 | ret=>exact⟨_,g,j,i,.of_steps (.one d s0) f⟩
 | panic ch=>exact⟨_,g,j,i,.of_steps (.one d s0) f⟩
 | outgrown=>exact⟨_,g,j,i,.of_steps (.one d s0) f⟩
end
end Go.Ex
namespace Go.Sx
open Go
def u5(Q:Exit->Act->World->Prop):Exit->Act->World->Prop:=fun e a w=>(∀ l,e ≠ .goto l)/\Q e a w
section
variable {r:Option Nat} {P:Program} {Q:Exit->Act->World->Prop} {c:Code} {a:Act} {w:World} {id:Nat}
theorem scp(h:WP r P c (u5 Q) a w):WP r P (.scope c) Q a w:=Go.Ex.aeB h
theorem K3(h:Q .normal a w):u5 Q .normal a w:=⟨fun _ e=>(by cases e),h⟩
theorem K5(h:Q (.exit id) a w):u5 Q (.exit id) a w:=⟨fun _ e=>(by cases e),h⟩
theorem K4(h:Q .ret a w):u5 Q .ret a w:=⟨fun _ e=>(by cases e),h⟩
theorem JA{l:Nat}(h:Q .normal a w):WP r P (.label l) Q a w:=wpIn_label h
end
end Go.Sx
namespace Go.Sx
open Go
class NP (Q:Exit->Act->World->Prop):Prop where
 np:∀ c a w,¬ Q (.panic c) a w
 no:∀ a w,¬ Q .outgrown a w
instance NP.thn {K:Act->World->Prop} {Q:Exit->Act->World->Prop} [h:NP Q]:NP (Exit.then K Q):=⟨fun c a w=>h.np c a w,fun a w=>h.no a w⟩
instance NP.blk {i:Nat} {Q:Exit->Act->World->Prop} [h:NP Q]:NP (Exit.inBlock i Q):=⟨fun c a w=>h.np c a w,fun a w=>h.no a w⟩
instance NP.scp {Q:Exit->Act->World->Prop} [h:NP Q]:NP (u5 Q):=⟨fun c a w x=>h.np c a w x.2,fun a w x=>h.no a w x.2⟩
instance NP.wO {P:Program} {l:Nat} {R:Ending->World->Prop}:NP (roundPost P l R):=⟨fun _ _ _ h=>h,fun _ _ h=>h⟩
instance NP.fls:NP (fun _ _ _=>False):=⟨fun _ _ _ h=>h,fun _ _ h=>h⟩
instance NP.bdy {P:Program} {fn:Func} {R:Value->World->Prop}:NP (bodyPost P fn (fun e w' => ∃ v,e = .returned v/\R v w')) where
 np c a w x:=by
  have x:a.defers=[]/\∃ v,Ending.panicked c = .returned v/\R v w:=x
  obtain⟨_,v,h,_⟩:=x
  cases h
 no a w x:=by
  have x:∃ v,Ending.outgrown = .returned v/\R v w:=x
  obtain⟨v,h,_⟩:=x
  cases h
section
variable {r:Option Nat} {P:Program} {ops:Array Oper} {Q:Exit->Act->World->Prop} {o x y:Oper} {a:Act} {w:World} {K K' : Act->World->Prop} {v u:Value}
def wn(ops:Array Oper)(o:Oper)(a:Act):Bool:=Region.wanted o (yielded ops a.tmps)
def iB(r:Option Nat)(P:Program)(ops:Array Oper)(Q:Exit->Act->World->Prop)(o:Oper)(K:Act->World->Prop)(a:Act)(w:World):Prop :=
 if wn ops o a=true then kJ r P Q o K a w else K (a.put o.dst undef) w
theorem L7{rest:List Oper}:wl r P ops Q (o :: rest) a w=iB r P ops Q o (wl r P ops Q rest) a w:=rfl
theorem iB.mono(h:∀ a w,K a w->K' a w)(b:iB r P ops Q o K a w):iB r P ops Q o K' a w:=by
 unfold iB at *
 split<;>rename_i c
 . rw[if_pos c]at b;exact b.mono h
 . rw[if_neg c]at b;exact h _ _ b
def Y0(P:Program)(ops:Array Oper)(o:Oper)(v:Value)(a:Act):Prop:=(wn ops o a=true/\cat o.op=0/\∀ w,(execOp a.eval o).run P w = .ok (.value v) w)\/(wn ops o a=false/\v=undef)
def Y1(P:Program)(ops:Array Oper)(o:Oper)(v:Value)(a:Act)(w:World):Prop:=wn ops o a=true/\cat o.op=1/\(execOp a.eval o).run P w = .ok (.value v) w
theorem iB.get(b:cat o.op=0\/cat o.op=1)(h:iB r P ops Q o K a w):∃ v,(Y0 P ops o v a\/Y1 P ops o v a w)/\K (a.put o.dst v) w:=by
 unfold iB at h
 cases hw:wn ops o a with
 | false=>rw[if_neg (by rw[hw];decide)]at h;exact⟨undef,.inl (.inr ⟨hw,rfl⟩),h⟩
 | true =>
  rw[if_pos hw]at h
  unfold kJ at h
  rcases b with b|b<;>rw[b]at h<;>obtain⟨v,c,d⟩:=h
  . exact⟨v,.inl (.inl ⟨hw,b,c⟩),d⟩
  . exact⟨v,.inr ⟨hw,b,c⟩,d⟩
theorem iB.mk(h:Y0 P ops o v a\/Y1 P ops o v a w)(k:K (a.put o.dst v) w):iB r P ops Q o K a w:=by
 unfold iB
 rcases h with (⟨b,c,h⟩|⟨b,rfl⟩)|⟨b,c,h⟩
 . rw[if_pos b];unfold kJ;rw[c];exact⟨v,h,k⟩
 . rw[if_neg (by rw[b];decide)];exact k
 . rw[if_pos b];unfold kJ;rw[c];exact⟨v,h,k⟩
theorem Y0.vV(i:Y0 P ops o v a)(h:iB r P ops Q o K a w):K (a.put o.dst v) w:=by
 unfold iB at h
 rcases i with ⟨b,g,c⟩|⟨b,rfl⟩
 . rw[if_pos b]at h
   unfold kJ at h
   rw[g]at h
   obtain⟨u,d,f⟩:=h
   have e:=(c w).symm.trans (d w)
   simp only[Result.ok.injEq,Next.value.injEq,and_true]at e
   rw[e];exact f
 . rw[if_neg (by rw[b];decide)]at h;exact h
def yG:Op->Bool
 | .select _ _=>false
 | _=>true
theorem Ke{op:Op}(h:yG op=true):∀ cs b,op ≠ .select cs b:=by intro cs b e;subst e;cases h
structure Ap (ops:Array Oper) (x y:Oper):Prop where
 xy:∀ d,x.dst=some d->d∉y.looksAt ops
 ne:∀ d,x.dst=some d->y.dst≠some d
 yx:∀ d,y.dst=some d->d∉x.looksAt ops
 sx:yG x.op=true
 sy:yG y.op=true
 dx:nI x.op=true
 dy:nI y.op=true
theorem Ap.symm(h:Ap ops x y):Ap ops y x:=⟨h.yx,fun d hd e=>h.ne d e hd,h.xy,h.sy,h.sx,h.dy,h.dx⟩
theorem Ap.wn(h:Ap ops x y)(v:Value):wn ops y (a.put x.dst v)=wn ops y a:=by unfold Go.Sx.wn;rw[wanted_put y a x.dst v h.xy]
theorem Ap.ex(h:Ap ops x y)(v:Value):execOp (a.put x.dst v).eval y=execOp a.eval y:=execOp_put y (Ke h.sy) a x.dst v h.xy
theorem Ap.lg(h:Ap ops x y)(v u:Value):(a.put x.dst v).put y.dst u=(a.put y.dst u).put x.dst v:=Act.put_comm a v u h.ne
theorem Ap.y0(h:Ap ops x y):Y0 P ops y u (a.put x.dst v)↔Y0 P ops y u a:=by unfold Y0;rw[h.wn,h.ex]
theorem Ap.y1(h:Ap ops x y):Y1 P ops y u (a.put x.dst v) w↔Y1 P ops y u a w:=by unfold Y1;rw[h.wn,h.ex]
theorem FO{ρ:Operand->Value}(h:nI o.op=true):o.semAt r ρ=execOp ρ o:=semAt_eq (wD h)
theorem HY(op:Op):cat op=0\/cat op=1\/cat op=2\/cat op=3:=by
 unfold cat
 split<;>simp
def DM(P:Program)(ops:Array Oper)(x:Oper)(a a' : Act):Prop:=(∀ v,Y0 P ops x v a↔Y0 P ops x v a')/\wn ops x a' = wn ops x a
theorem Ap.upon(h:Ap ops x y)(j:NP Q){z:Result Next}(b:y.uponIn (FW r) 0 P (a.put x.dst v) K Q z):y.uponIn (FW r) 0 P a (fun a' w' => K (a'.put x.dst v) w' /\ DM P ops x a a') Q z:=by
 have i:∀ u,DM P ops x a (a.put y.dst u):=fun u=>⟨fun v=>(h.symm.y0).symm,h.symm.wn u⟩
 cases z with
 | ok nx w' =>
  cases nx<;>simp only[Oper.uponIn]at b ⊢
  case value u=>exact⟨by rw[<-h.lg];exact b,i u⟩
  case skip=>exact⟨by rw[<-h.lg];exact b,i _⟩
  case defer d =>
   refine⟨?_,fun v=>?_,?_⟩
   . rw[Act.put_defers a x.dst v d]at b
     rw[<-h.lg];exact b
   . rw[h.symm.y0];exact Iff.rfl
   . rw[h.symm.wn];rfl
  case enter f args =>
   refine⟨b.1,CallsIn.mono b.2 fun e k g=>?_⟩
   cases e with
   | returned u=>exact⟨by rw[<-h.lg];exact g,i u⟩
   | panicked c=>exact absurd g (j.np _ _ _)
   | outgrown=>exact g
  case row row args=>exact⟨b.1,RowsIn.mono b.2 fun u k g=>⟨by rw[<-h.lg];exact g,i u⟩⟩
  case round l f tmps assign body =>
   refine⟨b.1,RoundIn.mono b.2 fun e k g=>?_⟩
   cases e with
   | returned u=>exact⟨by rw[<-h.lg];exact g,i u⟩
   | panicked c=>exact absurd g (j.np _ _ _)
   | outgrown=>exact g
 | halt z w' => cases z<;>simp only[Oper.uponIn]at b ⊢ <;> exact absurd b (j.np _ _ _)
theorem Ap.act(h:Ap ops x y)(g:cat y.op=2->NP Q)(b:cat y.op=2\/cat y.op=3)(c:kJ r P Q y K (a.put x.dst v) w):kJ r P Q y (fun a' w' => K (a'.put x.dst v) w' /\ DM P ops x a a') a w:=by
 have f:∀ u,DM P ops x a (a.put y.dst u):=fun u=>⟨fun v=>(h.symm.y0).symm,h.symm.wn u⟩
 unfold kJ at *
 rcases b with b|b<;>rw[b]at c<;>rw[b]
 . rw[FO h.dy,h.ex]at c
   rw[FO h.dy]
   exact h.upon (g b) c
 . rw[h.ex]at c
   obtain⟨z,w', e,⟨u,rfl,d⟩|⟨rfl,d⟩⟩:=c
   . exact⟨_,w', e,.inl ⟨u,rfl,by rw[<-h.lg];exact d,f u⟩⟩
   . exact⟨_,w', e,.inr ⟨rfl,by rw[<-h.lg];exact d,f _⟩⟩
theorem Ap.back(h:Ap ops x y)(k:cat y.op=2->NP Q)(j:cat y.op=2\/cat y.op=3)(o:Y0 P ops x v a)(b:kJ r P Q y (iB r P ops Q x K) a w):kJ r P Q y K (a.put x.dst v) w:=by
 have i:∀ u,Y0 P ops x v (a.put y.dst u):=fun u=>(h.symm.y0).2 o
 unfold kJ at *
 rcases j with j|j<;>rw[j]at b<;>rw[j]
 . rw[FO h.dy]at b
   rw[FO h.dy,h.ex]
   have k:=k j
   generalize (execOp a.eval y).run P w=z at *
   cases z with
   | ok nx w' =>
    cases nx<;>simp only[Oper.uponIn]at b ⊢
    case value u=>rw[h.lg];exact(i u).vV b
    case skip=>rw[h.lg];exact(i _).vV b
    case defer d =>
     rw[Act.put_defers a x.dst v d,h.lg]
     refine Y0.vV ?_ b
     exact(h.symm.y0 (a:={ a with defers:=d :: a.defers })).2 o
    case enter f args =>
     refine⟨b.1,CallsIn.mono b.2 fun e p g=>?_⟩
     cases e with
     | returned u=>show K _ _;rw[h.lg];exact(i u).vV g
     | panicked c=>exact absurd g (k.np _ _ _)
     | outgrown=>exact g
    case row row args=>exact⟨b.1,RowsIn.mono b.2 fun u p g=>by rw[h.lg];exact(i u).vV g⟩
    case round l f tmps assign body =>
     refine⟨b.1,RoundIn.mono b.2 fun e p g=>?_⟩
     cases e with
     | returned u=>show K _ _;rw[h.lg];exact(i u).vV g
     | panicked c=>exact absurd g (k.np _ _ _)
     | outgrown=>exact g
   | halt z w' => cases z<;>simp only[Oper.uponIn]at b ⊢ <;> exact absurd b (k.np _ _ _)
 . rw[h.ex]
   obtain⟨z,w', n,⟨u,rfl,m⟩|⟨rfl,m⟩⟩:=b
   . exact⟨_,w', n,.inl ⟨u,rfl,by rw[h.lg];exact(i u).vV m⟩⟩
   . exact⟨_,w', n,.inr ⟨rfl,by rw[h.lg];exact(i _).vV m⟩⟩
theorem kJ.ends(h:cat y.op=2->NP Q)(hd:nI y.op=true)(i:cat y.op=2\/cat y.op=3)(g:kJ r P Q y K a w):∃ a' w', K a' w' /\ (∃ u,a' = a.put y.dst u\/∃ d,a' = { a with defers:=d :: a.defers }.put y.dst u):=by
 unfold kJ at *
 rcases i with i|i<;>rw[i]at g
 . have h:=h i
   generalize (y.semAt r a.eval).run P w=z at *
   cases z with
   | ok nx w' =>
    cases nx<;>simp only[Oper.uponIn]at g
    case value u=>exact⟨_,_,g,u,.inl rfl⟩
    case skip=>exact⟨_,_,g,_,.inl rfl⟩
    case defer d=>exact⟨_,_,g,_,.inr ⟨d,rfl⟩⟩
    case enter f args =>
     obtain⟨e,k, m,b,_⟩:=g.2.2 [] (G3 _ _)
     cases e with
     | returned u=>exact⟨_,_,b,u,.inl rfl⟩
     | panicked c=>exact absurd b (h.np _ _ _)
     | outgrown=>obtain⟨a,w,b⟩:=b;exact absurd b (h.no _ _)
    case row row args =>
     obtain⟨u,k, b,_⟩:=g.2 default [] (G3 _ _)
     exact⟨_,_,b,u,.inl rfl⟩
    case round l f tmps assign body =>
     obtain⟨e,k, b,_⟩:=g.2.2 default [] (G3 _ _)
     cases e with
     | returned u=>exact⟨_,_,b,u,.inl rfl⟩
     | panicked c=>exact absurd b (h.np _ _ _)
     | outgrown=>obtain⟨a,w,b⟩:=b;exact absurd b (h.no _ _)
   | halt z w' => cases z<;>simp only[Oper.uponIn]at g<;>exact absurd g (h.np _ _ _)
 . obtain⟨z,w', n,⟨u,rfl,j⟩|⟨rfl,j⟩⟩:=g
   . exact⟨_,_,j,u,.inl rfl⟩
   . exact⟨_,_,j,_,.inl rfl⟩
def xP(x y:Op):Bool:=bif Nat.ble (cat x) 1 then(Nat.ble (cat y) 1||Nat.beq (cat x) 0)else Nat.beq (cat y) 0
theorem swap(h:Ap ops x y)(hk:xP x.op y.op=true)(l:cat x.op=2->NP Q)(q:cat y.op=2->NP Q)(f:iB r P ops Q x (iB r P ops Q y K) a w):iB r P ops Q y (iB r P ops Q x K) a w:=by
 have s:∀ o:Oper,Nat.ble (cat o.op) 1=true->cat o.op=0\/cat o.op=1:=fun o h=>by have:=pL h;omega
 have j:∀ o:Oper,¬ (cat o.op=0\/cat o.op=1)->cat o.op=2\/cat o.op=3:=fun o h=>by rcases HY o.op with b|b|b|b<;>simp_all
 by_cases hx:cat x.op=0\/cat x.op=1
 . obtain⟨v,hv,c⟩:=f.get hx
   by_cases i:cat y.op=0\/cat y.op=1
   . obtain⟨u,e,k⟩:=c.get i
     refine iB.mk (v:=u) ?_ (iB.mk (v:=v) ?_ (by rw[<-h.lg];exact k))
     . rw[h.y0,h.y1]at e;exact e
     . rw[h.symm.y0,h.symm.y1];exact hv
   . have n:Y0 P ops x v a:=by
      rcases hv with hv|hv
      . exact hv
      . exfalso
        have b:=hv.2.1
        rcases j y i with c|c<;>simp[xP,b,c]at hk
     unfold iB at c
     rw[h.wn]at c
     unfold iB
     split<;>rename_i g
     . rw[if_pos g]at c
       refine(h.act q (j y i) c).mono fun a' w' ⟨k,p⟩=>?_
       exact iB.mk (.inl ((p.1 v).1 n)) k
     . rw[if_neg g]at c
       exact iB.mk (.inl ((h.symm.y0).2 n)) (by rw[<-h.lg];exact c)
 . have i:cat y.op=0:=by
    rcases j x hx with b|b<;>simpa[xP,b]using hk
   unfold iB at f
   cases g:wn ops x a with
   | false =>
    rw[if_neg (by rw[g];decide)]at f
    obtain⟨u,e,k⟩:=iB.get (.inl i) f
    rw[h.y0,h.y1]at e
    refine iB.mk e (iB.mk (v:=undef) (.inl (.inr ⟨?_,rfl⟩)) (by rw[<-h.lg];exact k))
    rw[h.symm.wn];exact g
   | true =>
    rw[if_pos g]at f
    obtain⟨a', w', b,t,c⟩:=f.ends l h.dx (j x hx)
    have b:iB r P ops Q y K a' w' := b
    obtain⟨u,e,_⟩:=b.get (.inl i)
    have m:Y0 P ops y u a:=by
     have:Y0 P ops y u a' := by
      rcases e with e|e
      . exact e
      . exact absurd (e.2.1.symm.trans i) d_
     rcases c with rfl|⟨d,rfl⟩
     . exact h.y0.1 this
     . exact(h.y0 (a:={ a with defers:=d :: a.defers })).1 this
    refine iB.mk (.inl m) ?_
    unfold iB
    rw[h.symm.wn,if_pos g]
    exact h.symm.back l (j x hx) m f
end
def UW(s t:List Nat):List Nat:=t.foldl (fun s i=>bif s.contains i then s else i :: s) s
def sZ:List Oper->List (List Nat)->List (List Nat)
 | [],acc=>acc
 | o :: l,acc=>sZ l (acc++[o.after.toList.foldl (fun s e=>bif Region.binds .any e then UW s (e.on :: acc.getD e.on [])else s) []])
end Go.Sx
namespace Go.Sx
open Go
section
variable {r:Option Nat} {P:Program} {ops:Array Oper} {Q:Exit->Act->World->Prop} {o x y:Oper} {a:Act} {w:World} {K K' : Act->World->Prop} {v u:Value}
def qB(P:Program)(ops:Array Oper)(o:Oper)(a:Act)(w:World):Prop:=wn ops o a=false\/∃ v,(execOp a.eval o).run P w = .ok (.value v) w/\a.put o.dst v=a
theorem adD(a:Act)(d:Option Tmp)(v u:Value):(a.put d v).put d u=a.put d u:=by
 cases d with
 | none=>rfl
 | some d=>simp[Act.put]
theorem adC{a:Act}{d e:Option Tmp}{v u:Value}(h:∀ i,d=some i->e≠some i)(f:(a.put d v).put e u=a.put d v):a.put e u=a:=by
 cases e with
 | none=>rfl
 | some e =>
  cases d with
  | none=>exact f
  | some d =>
   have l:d≠e:=fun c=>h d rfl (c▸rfl)
   simp only[Act.put]at f ⊢
   have j:=congrArg Act.tmps f
   simp only at j
   have k:a.tmps.setIfInBounds e u=a.tmps:=by
    apply Array.ext
    . simp
    . intro i m g
      rw[Array.getElem_setIfInBounds (by simpa using g)]
      split
      . rename_i c
        subst c
        have b:=congrArg (fun t:Array Value=>t[e]?) j
        simp only[Mn,Array.size_setIfInBounds]at b
        rw[if_pos trivial,if_pos (by simpa using g),if_neg l]at b
        rw[uo (by simpa using g)]at b
        exact Option.some.inj b
      . rfl
   rw[k]
structure Aw (ops:Array Oper) (x k:Oper):Prop where
 xk:∀ d,x.dst=some d->d∉k.looksAt ops
 ne:∀ d,x.dst=some d->k.dst≠some d
 sk:yG k.op=true
theorem qB.put(h:Aw ops x o):qB P ops o (a.put x.dst v) w↔qB P ops o a w:=by
 have e:wn ops o (a.put x.dst v)=wn ops o a:=by unfold Go.Sx.wn;rw[wanted_put o a x.dst v h.xk]
 have d:execOp (a.put x.dst v).eval o=execOp a.eval o:=execOp_put o (Ke h.sk) a x.dst v h.xk
 unfold qB
 rw[e,d]
 constructor
 . rintro(b|⟨u,b,c⟩)
   . exact .inl b
   . exact .inr ⟨u,b,adC h.ne c⟩
 . rintro(b|⟨u,b,c⟩)
   . exact .inl b
   . exact .inr ⟨u,b,by rw[Act.put_comm a v u h.ne,c]⟩
def Ej(ops:Array Oper)(x k:Oper):Bool:=yG k.op&&match x.dst with
 | none=>true
 | some d => !(k.looksAt ops).contains d && !(k.dst==some d)
theorem NU{x k:Oper}(h:Ej ops x k=true):Aw ops x k:=by
 simp only[Ej,mC]at h
 refine⟨fun d hd=>?_,fun d hd=>?_,h.1⟩<;>rw[hd]at h<;>simp at h
 . exact h.2.1
 . exact h.2.2
def tI(ops:Array Oper)(x k:Nat):Bool:=match ops[x]?,ops[k]? with
 | some x,some k=>Ej ops x k
 | _,_=>true
theorem NV{i k:Nat}(h:tI ops i k=true)(hi:ops[i]? = some x)(hk:ops[k]? = some o):Aw ops x o:=by
 unfold tI at h;rw[hi,hk]at h;exact NU h
def kj(P:Program)(ops:Array Oper):List Nat->Act->World->Prop
 | [],_,_=>True
 | k :: ks,a,w=>(∀ o,ops[k]? = some o->qB P ops o a w)/\kj P ops ks a w
theorem ve{b:List Nat}:kj P ops b a w↔∀ k∈b,∀ o,ops[k]? = some o->qB P ops o a w:=by
 induction b with
 | nil=>simp[kj]
 | cons k b c=>simp[kj,c]
theorem kj.put{e:List Nat}(h:∀ k∈e,∀ o,ops[k]? = some o->Aw ops x o):kj P ops e (a.put x.dst v) w↔kj P ops e a w:=by
 rw[ve,ve]
 exact⟨fun d k b o c=>(qB.put (h k b o c)).1 (d k b o c),fun d k b o c=>(qB.put (h k b o c)).2 (d k b o c)⟩
theorem afj{i:Nat}{cs:List Nat}(h:Ap ops x y)(u:cat x.op=1)(hs:∀ d,x.dst=some d->d∉x.looksAt ops)(F:cat y.op=2\/cat y.op=3)(A:cat y.op=2->NP Q)(hi:ops[i]? = some x)(C:i∈cs)
 (D:iB r P ops Q x (iB r P ops Q y (fun a w=>kj P ops cs a w/\K a w)) a w) :
 iB r P ops Q y (fun a w=>kj P ops (cs.filter fun k => !(k==i)&&tI ops i k) a w/\iB r P ops Q x K a w) a w:=by
 obtain⟨v,hv,f⟩:=D.get (.inr u)
 have B : ∀ k∈cs.filter (fun k => !(k==i)&&tI ops i k),∀ o,ops[k]? = some o->Aw ops x o:=fun k g o E=>by
  have g:=z6.1 g
  exact NV (Bool.and_eq_true_iff.1 g.2).2 hi E
 have sub:∀ a' w', kj P ops cs (a'.put x.dst v) w' -> kj P ops (cs.filter fun k => !(k==i)&&tI ops i k) a' w' := fun a' w' q => by
  rw[<-kj.put (v:=v) B, ve]
  rw[ve]at q
  exact fun k g=>q k (z6.1 g).1
 have H:∀ a' : Act,wn ops x (a'.put x.dst v)=wn ops x a' := fun a' => by unfold Go.Sx.wn;rw[wanted_put x a' x.dst v hs]
 have G:∀ a' : Act,execOp (a'.put x.dst v).eval x=execOp a'.eval x:=fun a' => execOp_put x (Ke h.sx) a' x.dst v hs
 unfold iB at f
 rw[h.wn]at f
 have s:wn ops x a=false->Y0 P ops x v a:=fun e=>by
  rcases hv with hv|hv
  . exact hv
  . rw[hv.1]at e;cases e
 unfold iB
 split<;>rename_i t
 . rw[if_pos t]at f
   refine(h.act A F f).mono fun a' w' ⟨⟨m,j⟩,n⟩=>⟨sub a' w' m,?_⟩
   have c:=(ve.1 m) i C x hi
   show iB r P ops Q x K a' w'
   rcases c with c|⟨v', c,p⟩
   . rw[H]at c
     have z:Y0 P ops x undef a' := .inr ⟨c,rfl⟩
     refine iB.mk (.inl z) ?_
     have b:wn ops x a=false:=n.2▸c
     rcases s b with ⟨l,_⟩|⟨_,rfl⟩
     . rw[l]at b;cases b
     . exact j
   . rw[G]at c
     cases b:wn ops x a' with
     | false =>
      refine iB.mk (v:=undef) (.inl (.inr ⟨b,rfl⟩)) ?_
      rw[n.2]at b
      rcases s b with ⟨l,_⟩|⟨_,rfl⟩
      . rw[l]at b;cases b
      . exact j
     | true =>
      refine iB.mk (v:=v') (.inr ⟨b,u,c⟩) ?_
      rw[adD]at p;rw[p];exact j
 . rw[if_neg t]at f
   refine⟨sub _ _ (by rw[<-h.lg];exact f.1),?_⟩
   refine iB.mk (v:=v) ?_ (by rw[<-h.lg];exact f.2)
   rw[h.symm.y0,h.symm.y1];exact hv
def mB(r:Option Nat)(P:Program)(ops:Array Oper)(Q:Exit->Act->World->Prop)(b:Nat×List Nat)(K:Act->World->Prop)(a:Act)(w:World):Prop :=
 match ops[b.1]? with
 | none=>K a w
 | some o=>iB r P ops Q o (fun a w=>kj P ops b.2 a w/\K a w) a w
def vo(r:Option Nat)(P:Program)(ops:Array Oper)(Q:Exit->Act->World->Prop):List (Nat×List Nat)->Act->World->Prop
 | [],a,w=>Q .normal a w
 | it :: l,a,w=>mB r P ops Q it (vo r P ops Q l) a w
theorem mB.mono{c:Nat×List Nat}(h:∀ a w,K a w->K' a w)(b:mB r P ops Q c K a w):mB r P ops Q c K' a w:=by
 unfold mB at *
 split<;>rename_i f<;>rw[f]at b
 . exact h _ _ b
 . exact b.mono fun a w ⟨d,e⟩=>⟨d,h _ _ e⟩
structure Cm (ops:Array Oper) (i:Nat) (ci:List Nat) (x:Oper) (c:List Nat) (y:Oper):Prop where
 ap:Ap ops x y
 k:(xP x.op y.op=true/\(Nat.ble (cat x.op) 1=true->ci=[])/\(Nat.ble (cat y.op) 1=true->c=[])/\(∀ k∈ci,∀ o,ops[k]? = some o->Aw ops y o)) \/
  (cat x.op=1/\(cat y.op=2\/cat y.op=3)/\i∈c/\(∀ d,x.dst=some d->d∉x.looksAt ops)/\ci=[])
theorem afi{i:Nat}{l c:List Nat}(C:Cm ops i l x c y)(hi:ops[i]? = some x)(t:cat x.op=2->NP Q)(q:cat y.op=2->NP Q)
 (s:iB r P ops Q x (fun a w=>kj P ops l a w/\iB r P ops Q y (fun a w=>kj P ops c a w/\K a w) a w) a w) :
 iB r P ops Q y (fun a w=>kj P ops (c.filter fun k => !(k==i)&&tI ops i k) a w/\iB r P ops Q x (fun a w=>kj P ops l a w/\K a w) a w) a w:=by
 obtain⟨h,j⟩:=C
 rcases j with ⟨d,m,n,B⟩|⟨d,m,n,A,rfl⟩
 . have F:∀ o:Oper,Nat.ble (cat o.op) 1=true->cat o.op=0\/cat o.op=1:=fun o h=>by have:=pL h;omega
   by_cases hx:Nat.ble (cat x.op) 1=true
   . obtain rfl:=m hx
     have g:iB r P ops Q x (iB r P ops Q y (fun a w=>kj P ops c a w/\K a w)) a w:=s.mono fun a w h=>h.2
     refine(swap h d t q g).mono fun a w b=>?_
     obtain⟨v,hv,f,p⟩:=b.get (F x hx)
     refine⟨?_,iB.mk hv ⟨trivial,p⟩⟩
     rw[<-kj.put (x:=x) (v:=v) (fun k j o D=>NV (Bool.and_eq_true_iff.1 (z6.1 j).2).2 hi D),ve]
     exact fun k j=>(ve.1 f) k (z6.1 j).1
   . have z:cat y.op=0:=by
      rcases HY x.op with e|e|e|e<;>simp[xP,e]at d hx<;>exact d
     obtain rfl:=n (by rw[z];rfl)
     have g:iB r P ops Q x (iB r P ops Q y (fun a w=>kj P ops l a w/\K a w)) a w:=s.mono fun a w ⟨b,f⟩=>by
      obtain⟨u,E,_,p⟩:=f.get (.inl z)
      exact iB.mk E ⟨(kj.put B).2 b,p⟩
     exact(swap h d t q g).mono fun a w b=>⟨trivial,b⟩
 . have g:iB r P ops Q x (iB r P ops Q y (fun a w=>kj P ops c a w/\K a w)) a w:=s.mono fun a w h=>h.2
   exact(afj h d A m q hi n g).mono fun a w ⟨b,f⟩=>⟨b,f.mono fun a w h=>⟨trivial,h⟩⟩
theorem Cm.sub{i:Nat}{g c c' : List Nat}(h:Cm ops i g x c y)(hs:∀ k∈c', k∈c)(hi:cat x.op=1->i∈c->i∈c'):Cm ops i g x c' y:=by
 refine⟨h.ap,?_⟩
 rcases h.k with ⟨a,b,d,f⟩|⟨a,b,d,j,f⟩
 . refine .inl ⟨a,b,fun e=>?_,f⟩
   have:=d e
   subst this
   cases c' with
   | nil=>rfl
   | cons k c' => exact absurd (hs k za) oV
 . exact .inr ⟨a,b,hi a d,j,f⟩
def CH(ops:Array Oper)(L:List (Nat×List Nat))(c:List Nat):List Nat:=c.filter fun k=>L.all fun z => !(k==z.1)&&tI ops z.1 k
theorem aa6{a:Nat×List Nat}{L:List (Nat×List Nat)}{c:List Nat}:CH ops (a :: L) c=(CH ops L c).filter fun k => !(k==a.1)&&tI ops a.1 k:=by
 unfold CH
 rw[GL]
 refine ux fun k _=>?_
 rw[List.all_cons]
def KF(ops:Array Oper)(x z:Nat×List Nat):Prop:=(∀ o,ops[x.1]? = some o->cat o.op=1->tI ops z.1 x.1=true)
end
def HR(ops:Array Oper)(x y:Oper):Bool:=yG x.op&&yG y.op&&nI x.op&&nI y.op&&x.apart ops y
theorem Va{ops:Array Oper}{x y:Oper}(h:HR ops x y=true):Ap ops x y:=by
 simp only[HR,mC]at h
 obtain⟨⟨⟨⟨d,e⟩,f⟩,g⟩,i⟩:=h
 obtain⟨a,b,c⟩:=Oper.apart_spec i
 exact⟨a,b,c,d,e,f,g⟩
def NT(ops:Array Oper)(x:Oper)(c:List Nat):Bool:=c.all fun k=>match ops[k]? with|some o=>Ej ops x o|none=>true
theorem Ve{ops:Array Oper}{x:Oper}{c:List Nat}(h:NT ops x c=true):∀ k∈c,∀ o,ops[k]? = some o->Aw ops x o:=fun k a o b=>by
 have:=zk.1 h k a
 rw[b]at this
 exact NU this
def K7(ops:Array Oper)(x:Oper):Bool:=match x.dst with|some d => !(x.looksAt ops).contains d|none=>true
theorem aeH{ops:Array Oper}{x:Oper}(h:K7 ops x=true):∀ d,x.dst=some d->d∉x.looksAt ops:=fun d hd=>by
 unfold K7 at h;rw[hd]at h;simpa using h
def Ij(ops:Array Oper)(i:Nat)(a:List Nat)(x:Oper)(c:List Nat)(y:Oper):Bool:=HR ops x y&&bif xP x.op y.op then(!Nat.ble (cat x.op) 1||a.isEmpty)&&(!Nat.ble (cat y.op) 1||c.isEmpty)&&NT ops y a
 else Nat.beq (cat x.op) 1 && !Nat.ble (cat y.op) 1&&c.contains i&&K7 ops x&&a.isEmpty
theorem VW{ops:Array Oper}{i:Nat}{f c:List Nat}{x y:Oper}(h:Ij ops i f x c y=true):Cm ops i f x c y:=by
 simp only[Ij,mC]at h
 obtain⟨g,h⟩:=h
 refine⟨Va g,?_⟩
 cases hk:xP x.op y.op with
 | true =>
  rw[hk]at h
  simp only[cond_true,mC,zQ,GX,List.isEmpty_iff]at h
  obtain⟨⟨a,b⟩,d⟩:=h
  refine .inl ⟨rfl,fun e=>?_,fun e=>?_,Ve d⟩
  . rcases a with a|a
    . rw[e]at a;cases a
    . exact a
  . rcases b with a|a
    . rw[e]at a;cases a
    . exact a
 | false =>
  rw[hk]at h
  simp only[cond_false,mC,GX,List.isEmpty_iff]at h
  obtain⟨⟨⟨⟨a,b⟩,j⟩,d⟩,k⟩:=h
  refine .inr ⟨zM a,?_,by simpa using j,aeH d,k⟩
  rcases HY y.op with e|e|e|e
  . rw[e]at b;cases b
  . rw[e]at b;cases b
  . exact .inl e
  . exact .inr e
def FE(ops:Array Oper):List (Nat×List Nat)->Bool
 | []=>true
 | x :: l=>(match ops[x.1]? with
  | some o => !Nat.beq (cat o.op) 1||l.all fun z=>tI ops z.1 x.1
  | none=>true)&&FE ops l
theorem SD{ops:Array Oper}:∀ (l:List (Nat×List Nat)),FE ops l=true->l.Pairwise (KF ops)
 | [],_=>List.Pairwise.nil
 | x :: l,h=>by
  simp only[FE,mC]at h
  refine uw.2 ⟨fun z d o c b=>?_,SD l h.2⟩
  have a:=h.1
  rw[c]at a
  simp only[b,zQ]at a
  rcases a with a|a
  . cases a
  . exact zk.1 a z d
theorem Tn{α:Type}{x y:α}:∀ (l:List α),List.Sublist [x,y] l->∃ A B,l=A++y :: B/\x∈A
 | [],h=>by cases h
 | z :: l,h=>by
  cases h with
  | cons _ h =>
   obtain⟨A,B,rfl,a⟩:=Tn l h
   exact⟨z :: A,B,rfl,oS _ a⟩
  | cons_cons _ h =>
   obtain⟨A,B,rfl⟩:=BE (s9.1 h)
   exact⟨x :: A,B,rfl,za⟩
end Go.Sx
namespace Go.Sx
open Go
section
variable {r:Option Nat} {P:Program} {ops:Array Oper} {Q:Exit->Act->World->Prop} {o x y:Oper} {a:Act} {w:World} {K K' : Act->World->Prop} {v u:Value}
def kE(r:Option Nat)(P:Program)(ops:Array Oper)(Q:Exit->Act->World->Prop):List (Nat×List Nat)->(Act->World->Prop)->Act->World->Prop
 | [],K=>K
 | it :: l,K=>mB r P ops Q it (kE r P ops Q l K)
theorem kE.mono(h:∀ a w,K a w->K' a w):∀ (L:List (Nat×List Nat)) (a:Act) (w:World),kE r P ops Q L K a w->kE r P ops Q L K' a w
 | [],a,w,h1=>h a w h1
 | it :: L,a,w,h1=>mB.mono (kE.mono h L) h1
theorem sw(L2:List (Nat×List Nat)):∀ (L1:List (Nat×List Nat)),kE r P ops Q (L1++L2) K=kE r P ops Q L1 (kE r P ops Q L2 K)
 | []=>rfl
 | it :: L1=>by
  show mB r P ops Q it (kE r P ops Q (L1++L2) K)=mB r P ops Q it _
  rw[sw L2 L1]
theorem xd:∀ (L:List (Nat×List Nat)),vo r P ops Q L=kE r P ops Q L (Q .normal)
 | []=>rfl
 | it :: L=>by
  funext a w
  show mB r P ops Q it (vo r P ops Q L) a w=mB r P ops Q it _ a w
  rw[xd L]
theorem Bg{j:Nat}{c:List Nat}(v:ops[j]? = some y):∀ (L1:List (Nat×List Nat)) (a:Act) (w:World),(L1.map (·.1)).Nodup->(c=[]\/L1.Pairwise (KF ops)) ->
 (∀ g∈L1,∀ x,ops[g.1]? = some x->Cm ops g.1 g.2 x c y/\((cat x.op=2\/cat y.op=2)->NP Q)) ->
 kE r P ops Q (L1++[(j,c)]) K a w->iB r P ops Q y (fun a w=>kj P ops (CH ops L1 c) a w/\kE r P ops Q L1 K a w) a w:=by
 intro L1
 induction L1 with
 | nil =>
  intro a w _ _ _ h
  simp only[uA]at h ⊢
  unfold kE mB at h
  simp only[v]at h
  refine h.mono fun a w ⟨b,f⟩=>⟨?_,f⟩
  rw[ve]at b ⊢
  exact fun k d=>b k (z6.1 d).1
 | cons g L1 B =>
  intro a w n l o h
  rw[lV,zu]at n
  have s := fun k d=>o k (oS _ d)
  simp only[qF]at h ⊢
  unfold kE at h
  have b:=h.mono fun a w h=>B a w n.2 (l.imp_right fun h=>(uw.1 h).2) s h
  rw[aa6]
  unfold mB at b
  split at b<;>rename_i i
  . refine b.mono fun a w ⟨f,m⟩=>⟨?_,?_⟩
    . rw[ve]at f ⊢
      exact fun k d=>f k (z6.1 d).1
    . unfold kE mB;simp only[i];exact m
  . rename_i x
    obtain⟨u,p⟩:=o g za x i
    have t:=u.sub (c' := CH ops L1 c) (fun k d=>(z6.1 d).1) (fun A hi=>z6.2 ⟨hi,zk.2 fun z q=>by
     have l:=l.resolve_left (fun e=>by rw[e]at hi;cases hi)
     rw[(uw.1 l).1 z q x i A,Bool.and_true]
     have:g.1≠z.1:=fun e=>n.1 (zy.2 ⟨z,q,e.symm⟩)
     simpa using this⟩)
    refine(afi t i (fun e=>p (.inl e)) (fun e=>p (.inr e)) b).mono fun a w ⟨f,m⟩=>⟨f,?_⟩
    unfold kE mB;simp only[i];exact m
theorem UM(h:Y0 P ops o v a\/Y1 P ops o v a w)(b:Y0 P ops o u a\/Y1 P ops o u a w):v=u:=by
 have e:∀ {x y:Value},(Result.ok (Next.value x) w:Result Next) = .ok (.value y) w->x=y:=fun h=>by simpa using h
 rcases h with (⟨a1,a2,a3⟩|⟨a1,rfl⟩)|⟨a1,a2,a3⟩<;>rcases b with (⟨b1,b2,b3⟩|⟨b1,rfl⟩)|⟨b1,b2,b3⟩
 . exact e ((a3 w).symm.trans (b3 w))
 . rw[a1]at b1;cases b1
 . rw[a2]at b2;cases b2
 . rw[a1]at b1;cases b1
 . rfl
 . rw[a1]at b1;cases b1
 . rw[a2]at b2;cases b2
 . rw[a1]at b1;cases b1
 . exact e (a3.symm.trans b3)
theorem iB.all{ι:Type}{p:ι->Prop}{F:ι->Act->World->Prop}(b:cat o.op=0\/cat o.op=1)(c:ι)(d:p c)(h:∀ t,p t->iB r P ops Q o (F t) a w):iB r P ops Q o (fun a w=>∀ t,p t->F t a w) a w:=by
 obtain⟨v,hv,_⟩:=(h c d).get b
 refine iB.mk hv fun t f=>?_
 obtain⟨u,g,e⟩:=(h t f).get b
 rw[UM hv g]
 exact e
def WA(r:Option Nat)(P:Program)(ops:Array Oper)(Q:Exit->Act->World->Prop)(C:Nat->List Nat)(pre:List (List Nat))(b:List (Nat×List Nat)):Nat->List Nat->Act->World->Prop
 | 0,_=>vo r P ops Q b
 | k+1,A=>fun a w=>∀ f,f∈A/\(∀ g∈A,(pre.getD f []).contains g=false)->mB r P ops Q (f,C f) (WA r P ops Q C pre b k (A.filter fun g => !(g==f))) a w
theorem Sv{C:Nat->List Nat}{pre:List (List Nat)}{i:Nat}(hi:ops[i]? = some y)(u:cat y.op=0){L1 L2:List (Nat×List Nat)}(s:(L1.map (·.1)).Nodup)
 (h1:∀ j∈L1,∀ x,ops[j.1]? = some x->Cm ops j.1 j.2 x [] y/\((cat x.op=2\/cat y.op=2)->NP Q)) :
 ∀ (k:Nat) (A:List Nat) (a:Act) (w:World),A.length=k->A.Nodup->(∀ f∈A,∀ g∈(pre.getD f []),g<f)->(∀ f∈A,f≠i/\∀ x,ops[f]? = some x->Cm ops f (C f) x [] y/\((cat x.op=2\/cat y.op=2)->NP Q)) ->
 WA r P ops Q C pre (L1++(i,[]) :: L2) k A a w->iB r P ops Q y (WA r P ops Q C pre (L1++L2) k A) a w
 | 0,A,a,w,_,_,_,_,h=>by
  unfold WA at h ⊢
  rw[xd,show L1++(i,[]) :: L2=(L1++[(i,[])])++L2 by simp,sw]at h
  refine(Bg hi L1 a w s (.inl rfl) h1 h).mono fun a w h=>?_
  rw[xd,sw]
  exact h.2
 | k+1,A,a,w,hk,hA,hp,hc,h=>by
  unfold WA at h ⊢
  -- a least one
  obtain⟨c,o,D⟩:∃ c∈A,∀ g∈A,c<=g:=by
   have:∀ l:List Nat,l≠[]->∃ c∈l,∀ g∈l,c<=g:=by
    intro l
    induction l with
    | nil=>intro h;exact absurd rfl h
    | cons z l n =>
     intro _
     by_cases e:l=[]
     . subst e;exact⟨z,za,fun g b=>by rw[z8.1 b];exact zj _⟩
     . obtain⟨f,h1,d⟩:=n e
       by_cases q:z<=f
       . exact⟨z,za,fun g b=>(ze.1 b).elim (fun e=>by rw[e];exact zj _) fun b=>kz q (d g b)⟩
       . exact⟨f,oS _ h1,fun g b=>(ze.1 b).elim (fun e=>by omega) (d g)⟩
   exact this A (fun e=>by rw[e]at hk;cases hk)
  refine iB.all (.inl u) c ⟨o,fun g b=>?_⟩ fun f m=>?_
  . cases hb:(pre.getD c []).contains g with
    | false=>rfl
    | true=>have:=hp c o g (by simpa using hb);have:=D g b;omega
  . have d:=h f m
    have B:(A.filter fun g => !(g==f)).length=k:=by
     have:(A.filter fun g => !(g==f))=A.erase f:=by rw[List.Nodup.erase_eq_filter hA];rfl
     rw[this,Dt m.1];omega
    have t:∀ g∈A.filter (fun g => !(g==f)),g∈A:=fun g b=>(z6.1 b).1
    have n:=fun a w=>Sv (L2:=L2) hi u s h1 k (A.filter fun g => !(g==f)) a w B (hA.sublist qH) (fun g b=>hp g (t g b)) (fun g b=>hc g (t g b))
    have v:=d.mono n
    have E:kE r P ops Q ([(f,C f)]++[(i,[])]) (WA r P ops Q C pre (L1++L2) k (A.filter fun g => !(g==f))) a w:=by
     refine v.mono fun a w h=>?_
     show mB r P ops Q (i,[]) _ a w
     unfold mB
     simp only[hi]
     exact h.mono fun a w h=>⟨trivial,h⟩
    refine(Bg hi [(f,C f)] a w s_ (.inl rfl) (fun j p x F=>?_) E).mono fun a w h=>h.2
    rw[z8]at p
    subst p
    exact(hc f m.1).2 x F
end
def EX(np:Bool)(ops:Array Oper)(pre:List (List Nat))(A:List Nat):List (Nat×List Nat)->List (Nat×List Nat)->Bool
 | _,[]=>true
 | before,it :: l=>(match ops[it.1]? with
  | none=>true
  | some y=>before.all fun a=>(A.contains a.1&&A.contains it.1)||(pre.getD it.1 []).contains a.1||match ops[a.1]? with
   | none=>true
   | some x=>Ij ops a.1 a.2 x it.2 y&&(np || !(Nat.beq (cat x.op) 2||Nat.beq (cat y.op) 2)))&&EX np ops pre A (before++[it]) l
theorem Qx{np:Bool}{ops:Array Oper}{pre:List (List Nat)}{A:List Nat}:∀ (l before:List (Nat×List Nat)),EX np ops pre A before l=true->∀ L1 b L2,l=L1++b :: L2->∀ a∈before++L1,∀ x y,ops[a.1]? = some x->ops[b.1]? = some y ->
 ((a.1∈A/\b.1∈A)\/(pre.getD b.1 []).contains a.1=true)\/Cm ops a.1 a.2 x b.2 y/\((cat x.op=2\/cat y.op=2)->np=true)
 | [],before,_,L1,b,L2,e,a,hxi,x,y,hx,hy=>by simp at e
 | z :: l,before,h,L1,b,L2,e,a,hxi,x,y,hx,hy=>by
  simp only[EX,mC]at h
  cases L1 with
  | nil =>
   simp only[uA,List.cons.injEq]at e
   obtain⟨rfl,rfl⟩:=e
   have f:=h.1
   rw[hy]at f
   have g:=zk.1 f a (by simpa using hxi)
   rw[hx]at g
   rcases tj.1 g with c|c
   . rcases tj.1 c with d|d
     . rw[mC]at d
       exact .inl (.inl ⟨by simpa using d.1,by simpa using d.2⟩)
     . exact .inl (.inr d)
   . rw[mC]at c
     refine .inr ⟨VW c.1,fun e=>?_⟩
     cases np with
     | true=>rfl
     | false=>rcases e with e|e<;>simp[e]at c
  | cons i L1 =>
   simp only[qF,List.cons.injEq]at e
   obtain⟨rfl,rfl⟩:=e
   exact Qx _ (before++[z]) h.2 L1 b L2 rfl a (by simpa using hxi) x y hx hy
def Kn(np:Bool)(l:List Oper)(c:List (Nat×List Nat))(A:List Nat)(C:Nat->List Nat)(b:List (Nat×List Nat)):Bool :=
 let p:=sZ l [];let fQ:=c++(A.map fun f=>(f,C f))++b
 FD l p&&(l.zipIdx.all fun q=>q.1.after.toList.all fun e => !Region.binds .any e||decide (e.on<q.2))&&EX np l.toArray p A [] fQ&&decide ((fQ.map (·.1)).Nodup)&&((List.range l.length).all fun i=>(fQ.map (·.1)).contains i)&&Nat.ble fQ.length l.length&&(fQ.all fun a=>decide (a.1<l.length))&&((fQ.all fun a=>a.2.isEmpty)||FE l.toArray (c++b)) &&
  (A.all fun f=>(p.getD f []).all fun g=>decide (g<f))&&(b.all fun a=>A.isEmpty||(A.all fun f=>(p.getD a.1 []).contains f)||(a.2.isEmpty&&match l[a.1]? with|some o=>Nat.beq (cat o.op) 0|none=>false))
section
variable {r:Option Nat} {P:Program} {Q:Exit->Act->World->Prop} {l:List Oper} {a:Act} {w:World}
theorem ad4{id:Nat}{np:Bool}(s:List (Nat×List Nat))(A:List Nat)(C:Nat->List Nat)(u:List (Nat×List Nat))(hm:P.follows .mixedOrders=true)(aG:Kn np l s A C u=true)(hN:np=false\/NP Q)
 (h:kE r P l.toArray Q s (WA r P l.toArray Q C (sZ l []) u A.length A) a w.drew):WP r P (.region id l.toArray true) Q a w:=by
 simp only[Kn,mC]at aG
 obtain⟨⟨⟨⟨⟨⟨⟨⟨⟨bb,aU⟩,ba⟩,ah⟩,aV⟩,aW⟩,am⟩,bd⟩,a9⟩,aQ⟩:=aG
 have ah:=of_decide_eq_true ah
 have aR : np=true->NP Q:=fun e=>hN.elim (fun h=>by rw[h]at e;cases e) fun h=>h
 have aN:∀ (j:Nat) (o:Oper),l[j]? = some o->∀ e∈o.after,Region.binds .any e=true->e.on<j:=by
  intro j o O e T hb
  have v:=zk.1 aU (o,j) (by rw[List.mem_zipIdx_iff_getElem?];exact O)
  have F:=zk.1 v e (by simpa using T)
  simpa[hb]using F
 have aI:∀ f∈A,∀ g∈(sZ l []).getD f [],g<f:=fun f G g hg=>by
  have:=zk.1 (zk.1 a9 f G) g hg
  exact of_decide_eq_true this
 have aO:(s++(A.map fun f=>(f,C f))++u).map (·.1)=s.map (·.1)++A++u.map (·.1):=by
  rw[qd,qd,List.map_map]
  congr 2
  exact List.map_id'' (fun _=>rfl) A
 generalize ab:s++(A.map fun f=>(f,C f))++u=fQ at *
 rw[aO]at ah
 have ad:=zr.1 ah
 have ag:=zr.1 ad.1
 have nA:=ag.2.1
 have aa:∀ m∈s,m.1∉A:=fun m t hA=>ag.2.2 m.1 (zy.2 ⟨m,t,rfl⟩) m.1 hA rfl
 have ay:∀ m∈u,m.1∉A:=fun m t hA=>ad.2.2 m.1 (zn.2 (.inr hA)) m.1 (zy.2 ⟨m,t,rfl⟩) rfl
 have ae:∀ x∈s,∀ z∈u,x.1≠z.1:=fun x E z J=>ad.2.2 x.1 (zn.2 (.inl (zy.2 ⟨x,E,rfl⟩))) z.1 (zy.2 ⟨z,J,rfl⟩)
 have s0:List.Sublist s fQ:=ab▸(um s _).trans (um _ u)
 have au:List.Sublist (s++u) fQ:=ab▸(um s _).append (List.Sublist.refl u)
 have av:List.Sublist (s++A.map fun f=>(f,C f)) fQ:=ab▸um _ u
 have bk:List.Sublist ((A.map fun f=>(f,C f))++u) fQ:=by rw[<-ab,oT];exact Mk _ _
 refine wpIn_region_any hm ?_
 have bl:l.toArray.size=l.length:=by simp
 let B:Array Bool->Nat->Bool:=fun b i=>b.getD i false
 let n:Array Bool->List (Nat×List Nat)->List (Nat×List Nat):=fun b L=>L.filter fun m => !B b m.1
 let y:Array Bool->List Nat:=fun b=>A.filter fun f => !B b f
 have bh:∀ (fuel:Nat) (b:Array Bool) (a:Act) (w:World),b.size=l.length->(n b fQ).length<=fuel->Down l (B b) ->
  kE r P l.toArray Q (n b s) (WA r P l.toArray Q C (sZ l []) (n b u) (y b).length (y b)) a w ->
  wpAnyIn (FW r) 0 P .any l.toArray Q fuel b a w:=by
  intro fuel
  have has:∀ (b:Array Bool),b.size=l.length->∀ i,i∈Region.ready .any l.toArray b->B b i=false/\∃ c,(i,c)∈n b fQ:=by
   intro b hs i hi
   obtain⟨v,o,I,_⟩:=mem_ready.1 hi
   have al:i<l.length:=by simpa using(qg.1 I).1
   have F:=zk.1 aV i (lU.2 al)
   obtain⟨m,H,h4⟩:=zy.1 (show i∈fQ.map (·.1) by simpa using F)
   have a1 : i<b.size:=by omega
   have hS:B b i=false:=by
    simp only[B]
    simp[a1]at v ⊢
    exact v
   refine⟨hS,m.2,?_⟩
   subst h4
   exact z6.2 ⟨H,by rw[hS];rfl⟩
  have bj:∀ (b:Array Bool),b.size=l.length->Region.ready .any l.toArray b=[]->∀ i,i<l.length->B b i=true:=by
   intro b hs M i
   induction i using Nat.strongRecOn with
   | _ i ih =>
    intro hi
    cases S:B b i with
    | true=>rfl
    | false =>
     exfalso
     have:i∈Region.ready .any l.toArray b:=by
      rw[mem_ready]
      refine⟨?_,l[i],by simp[hi],fun e T hb=>?_⟩
      . have:i<b.size:=by omega
        simp only[B]at S
        simp[this]at S ⊢
        exact S
      . have F:=aN i l[i] (zm hi) e T hb
        exact ih e.on F o_
     rw[M]at this
     cases this
  have az:∀ (b:Array Bool) (a:Act) (w:World),b.size=l.length->Region.ready .any l.toArray b=[] ->
   kE r P l.toArray Q (n b s) (WA r P l.toArray Q C (sZ l []) (n b u) (y b).length (y b)) a w->Q .normal a w:=by
   intro b a w hs M h
   have v:=bj b hs M
   have lt:∀ m∈fQ,m.1<l.length:=fun m t=>of_decide_eq_true (zk.1 am m t)
   have e0:n b s=[]:=BF.2 fun m t=>by rw[v m.1 (lt m (s0.subset t))];decide
   have e1:n b u=[]:=BF.2 fun m t=>by rw[v m.1 (lt m (au.subset (zn.2 (.inr t))))];decide
   have eA:y b=[]:=BF.2 fun f G=>by rw[v f (lt (f,C f) (av.subset (zn.2 (.inr (zy.2 ⟨f,G,rfl⟩)))))];decide
   rw[e0,e1,eA]at h
   exact h
  induction fuel with
  | zero =>
   intro b a w hs S hd h
   have T:n b fQ=[]:=xo o_
   have M:Region.ready .any l.toArray b=[]:=by
    cases M:Region.ready .any l.toArray b with
    | nil=>rfl
    | cons i rs =>
     exfalso
     obtain⟨_,c,S⟩:=has b hs i (by rw[M];simp)
     rw[T]at S
     cases S
   exact⟨M,az b a w hs M h⟩
  | succ fuel ih =>
   intro b a w hs S hd h
   refine⟨fun M=>az b a w hs M h,fun i hi=>?_⟩
   obtain⟨ai,c,aE⟩:=has b hs i hi
   obtain⟨bm,o,I,aY⟩:=mem_ready.1 hi
   have aq : l[i]? = some o:=by simpa using I
   have al:i<l.length:=(zh.1 aq).1
   have a3 : i<b.size:=by omega
   have R : ∀ j,B (b.setIfInBounds i true) j=(B b j||j==i):=fun j=>I5 b i j a3
   have aB : Down l (B (b.setIfInBounds i true)):=⟨fun j oj O aA e T hb=>by
    rw[R]at aA ⊢
    rcases tj.1 aA with h|h
    . rw[show B b e.on=true from hd.closed j oj O h e T hb];rfl
    . have:j=i:=by simpa using h
      subst this
      have:oj=o:=Option.some.inj (O.symm.trans aq)
      subst this
      rw[show B b e.on=true from aY e T hb];rfl⟩
   have a8:(n (b.setIfInBounds i true) fQ).length<=fuel:=by
    obtain⟨L1,L2,D⟩:=BE aE
    have e1:n (b.setIfInBounds i true) fQ=(n b fQ).filter fun m => !(m.1==i):=by
     simp only[n,GL]
     refine ux fun m _=>?_
     rw[R]
     cases B b m.1<;>cases (m.1==i)<;>rfl
    have:(n (b.setIfInBounds i true) fQ).length<(n b fQ).length:=by
     rw[e1,D,qI,uy]
     simp only[BEq.rfl,Bool.not_true,Bool.false_eq_true,if_false,zp,zb]
     have v:=tc (fun m:Nat×List Nat => !(m.1==i)) L1
     have F:=tc (fun m:Nat×List Nat => !(m.1==i)) L2
     omega
    omega
   -- what is ahead of m must not be b
   have free:∀ j,(sZ l []).getD i [] |>.contains j->j≠i->B b j=true:=fun j O a6=>by
    have:=CU bb aB i (by rw[R];simp) al j O
    rw[R]at this
    rcases tj.1 this with h|h
    . exact h
    . exact absurd (by simpa using h) a6
   have lg:∀ (N:Nat×List Nat) (d:List Nat),List.Sublist [N,(i,d)] fQ->B b N.1=false->¬ (N.1∈A/\i∈A)->N.1≠i->∀ x,l.toArray[N.1]? = some x->Cm l.toArray N.1 N.2 x d o/\((cat x.op=2\/cat o.op=2)->NP Q):=by
    intro N d bf aS aP bg x E
    obtain⟨X,Y,aT,am⟩:=Tn fQ bf
    rcases Qx fQ [] ba X (i,d) Y aT N (by simpa using am) x o E I with (v|v)|v
    . exact absurd v aP
    . have:=free N.1 v bg
      rw[aS]at this
      cases this
    . exact⟨v.1,fun e=>aR (v.2 e)⟩
   have pw:∀ (d:List Nat) (L:List (Nat×List Nat)),(i,d)∈fQ->List.Sublist L (s++u)->d=[]\/L.Pairwise (KF l.toArray):=fun d L hd D=>by
    rcases tj.1 bd with h0|h0
    . exact .inl (by simpa using zk.1 h0 (i,d) hd)
    . exact .inr ((SD (s++u) h0).sublist D)
   have key:iB r P l.toArray Q o (kE r P l.toArray Q (n (b.setIfInBounds i true) s) (WA r P l.toArray Q C (sZ l []) (n (b.setIfInBounds i true) u) (y (b.setIfInBounds i true)).length (y (b.setIfInBounds i true)))) a w:=by
    have same:∀ L:List (Nat×List Nat),(∀ m∈L,m.1≠i)->n (b.setIfInBounds i true) L=n b L:=fun L D=>ux fun m t=>by
     rw[R]
     have:(m.1==i)=false:=by simpa using D m t
     rw[this,Bool.or_false]
    have aM:i∉A->y (b.setIfInBounds i true)=y b:=fun hA=>ux fun f G=>by
     rw[R]
     have:(f==i)=false:=by simpa using fun e:f=i=>hA (e▸G)
     rw[this,Bool.or_false]
    have cut:∀ (L L1 L2:List (Nat×List Nat)) (d:List Nat),(L.map (·.1)).Nodup->n b L=L1++(i,d) :: L2->n (b.setIfInBounds i true) L=L1++L2/\∀ m∈L1,m.1≠i:=fun L L1 L2 d hn D=>by
     have ao:((n b L).map (·.1)).Nodup:=(qH.map _).nodup hn
     rw[D]at ao
     simp only[qd,lV]at ao
     have aF:=zr.1 ao
     have aD:∀ m∈L1,m.1≠i:=fun m t e=>aF.2.2 m.1 (zy.2 ⟨m,t,rfl⟩) i za e
     have a2:∀ m∈L2,m.1≠i:=fun m t e=>(zu.1 aF.2.1).1 (zy.2 ⟨m,t,e⟩)
     refine⟨?_,aD⟩
     have e1:n (b.setIfInBounds i true) L=(n b L).filter fun m => !(m.1==i):=by
      simp only[n,GL]
      refine ux fun m _=>?_
      rw[R]
      cases B b m.1<;>cases (m.1==i)<;>rfl
     rw[e1,D,qI,uy]
     simp only[BEq.rfl,Bool.not_true,Bool.false_eq_true,if_false]
     rw[zO.2 (fun m t=>by have:=aD m t;simpa using this),zO.2 (fun m t=>by have:=a2 m t;simpa using this)]
    have V:∀ {L:List (Nat×List Nat)} {m:Nat×List Nat},m∈n b L->m∈L/\B b m.1=false:=fun h=>⟨(z6.1 h).1,by simpa using(z6.1 h).2⟩
    have pq:((n b s).map (·.1)).Nodup:=(qH.map _).nodup ag.1
    have aJ:((n b u).map (·.1)).Nodup:=(qH.map _).nodup ad.2.1
    have af:=(V aE).1
    rw[<-ab]at af
    rcases zn.1 af with af|U
    . rcases zn.1 af with ac|an
      . -- ahead of all
        have G:(i,c)∈n b s:=z6.2 ⟨ac,by rw[ai];rfl⟩
        obtain⟨L1,L2,D⟩:=BE G
        obtain⟨aj,ap⟩:=cut s L1 L2 c ag.1 D
        have aH:List.Sublist (L1++(i,c) :: L2) s:=D▸qH
        rw[D,show L1++(i,c) :: L2=(L1++[(i,c)])++L2 by simp,sw]at h
        refine(Bg I L1 a w ?_ (pw c L1 (s0.subset ac) (((um L1 _).trans aH).trans (um s u))) (fun m t x E=>?_) h).mono fun a w h=>?_
        . rw[D]at pq
          rw[qd]at pq
          exact(zr.1 pq).1
        . have a4:m∈n b s:=by rw[D];exact ur _ t
          refine lg m c (List.Sublist.trans ?_ (aH.trans s0)) (V a4).2 (fun e=>aa (i,c) ac e.2) (ap m t) x E
          exact List.Sublist.append (s9.2 t) (s9.2 za)
        . rw[aj,same u (fun z J=>(ae (i,c) ac z J).symm),aM (aa (i,c) ac),sw]
          exact h.2
      . -- one of those in any order
        obtain⟨f,K,aZ⟩:=zy.1 an
        obtain⟨rfl,rfl⟩:f=i/\C f=c:=by simpa using aZ
        have ak:f∈y b:=z6.2 ⟨K,by rw[ai];rfl⟩
        obtain⟨k,hk⟩:∃ k,(y b).length=k+1:=⟨(y b).length-1,by have:=GQ ak;omega⟩
        have eA:y (b.setIfInBounds f true)=(y b).filter fun g => !(g==f):=by
         simp only[y,GL]
         refine ux fun g _=>?_
         rw[R]
         cases B b g<;>cases (g==f)<;>rfl
        have a7:((y b).filter fun g => !(g==f)).length=k:=by
         have e:((y b).filter fun g => !(g==f))=(y b).erase f:=by rw[List.Nodup.erase_eq_filter (nA.sublist qH)];rfl
         rw[e,Dt ak,hk]
         rfl
        rw[hk]at h
        have F:kE r P l.toArray Q (n b s++[(f,C f)]) (WA r P l.toArray Q C (sZ l []) (n b u) k ((y b).filter fun g => !(g==f))) a w:=by
         rw[sw]
         refine kE.mono (fun a w h=>?_) _ _ _ h
         unfold WA at h
         refine h f ⟨ak,fun g hg=>?_⟩
         cases hb:((sZ l []).getD f []).contains g with
         | false=>rfl
         | true =>
          have v:=aI f K g (by simpa using hb)
          have F:=free g hb o_
          have H:=(z6.1 hg).2
          rw[F]at H
          cases H
        refine(Bg I (n b s) a w pq (pw (C f) _ (av.subset (zn.2 (.inr an))) (qH.trans (um s u))) (fun m t x E=>?_) F).mono fun a w h=>?_
        . have Z:=(V t).1
          refine lg m (C f) (List.Sublist.trans ?_ av) (V t).2 (fun e=>aa m Z e.1) (fun e=>aa m Z (e▸K)) x E
          exact List.Sublist.append (s9.2 Z) (s9.2 an)
        . rw[same s (fun z J e=>aa z J (e▸K)),same u (fun z J e=>ay z J (e▸K)),eA,a7]
          exact h.2
    . -- behind them
      have G:(i,c)∈n b u:=z6.2 ⟨U,by rw[ai];rfl⟩
      obtain⟨L1,L2,D⟩:=BE G
      obtain⟨aj,ap⟩:=cut u L1 L2 c ad.2.1 D
      have W:i∉A:=ay (i,c) U
      have ar:List.Sublist (L1++(i,c) :: L2) u:=D▸qH
      have aK:(L1.map (·.1)).Nodup:=by
       rw[D,qd]at aJ
       exact(zr.1 aJ).1
      have aL:List.Sublist u fQ:=(Mk s u).trans au
      have ax:∀ m∈L1,∀ x,l.toArray[m.1]? = some x->Cm l.toArray m.1 m.2 x c o/\((cat x.op=2\/cat o.op=2)->NP Q):=fun m t x E=>by
       have a5:m∈n b u:=by rw[D];exact ur _ t
       refine lg m c (List.Sublist.trans ?_ (ar.trans aL)) (V a5).2 (fun e=>W e.2) (ap m t) x E
       exact List.Sublist.append (s9.2 t) (s9.2 za)
      have aw:∀ m∈n b s,∀ x,l.toArray[m.1]? = some x->Cm l.toArray m.1 m.2 x c o/\((cat x.op=2\/cat o.op=2)->NP Q):=fun m t x E=>by
       have Z:=(V t).1
       refine lg m c (List.Sublist.trans ?_ au) (V t).2 (fun e=>W e.2) (ae m Z (i,c) U) x E
       exact List.Sublist.append (s9.2 Z) (s9.2 U)
      rw[same s (fun z J=>ae z J (i,c) U),aM W,aj]
      by_cases hA0:y b=[]
      . rw[hA0]at h ⊢
        change kE r P l.toArray Q (n b s) (vo r P l.toArray Q (n b u)) a w at h
        show iB r P l.toArray Q o (kE r P l.toArray Q (n b s) (vo r P l.toArray Q (L1++L2))) a w
        rw[D,xd,<-sw,show n b s++(L1++(i,c) :: L2)=((n b s++L1)++[(i,c)])++L2 by simp,sw]at h
        refine(Bg I (n b s++L1) a w ?_ (pw c _ (aL.subset U) (qH.append ((um L1 _).trans ar))) (fun m t x E=>(zn.1 t).elim (fun h=>aw m h x E) fun h=>ax m h x E) h).mono fun a w h=>?_
        . rw[qd]
          refine zr.2 ⟨pq,aK,fun x E z J e=>?_⟩
          obtain⟨p,hp,rfl⟩:=zy.1 E
          obtain⟨q,hq,rfl⟩:=zy.1 J
          exact ae p (V hp).1 q (ar.subset (ur _ hq)) e
        . rw[xd,<-sw,<-oT,sw]
          exact h.2
      . obtain⟨f,aC⟩:=GM _ hA0
        have K:=(z6.1 aC).1
        have bc:c=[]/\cat o.op=0:=by
         have v:=zk.1 aQ (i,c) U
         simp only[zQ]at v
         rcases v with (v|v)|v
         . rw[List.isEmpty_iff]at v
           rw[v]at K
           cases K
         . exfalso
           have F:=zk.1 v f K
           have H:=free f F (fun e=>W (e▸K))
           have h4:=(z6.1 aC).2
           rw[H]at h4
           cases h4
         . rw[mC]at v
           have F:=v.2
           simp only[aq]at F
           exact⟨by simpa using v.1,zM F⟩
        obtain⟨rfl,aX⟩:=bc
        rw[D]at h
        have F:kE r P l.toArray Q (n b s++[(i,[])]) (WA r P l.toArray Q C (sZ l []) (L1++L2) (y b).length (y b)) a w:=by
         rw[sw]
         refine kE.mono (fun a w h=>?_) _ _ _ h
         show mB r P l.toArray Q (i,[]) _ a w
         unfold mB
         simp only[I]
         refine(Sv (L2:=L2) I aX aK ax (y b).length (y b) a w rfl (nA.sublist qH) (fun f G=>aI f (z6.1 G).1) (fun f G=>⟨fun e=>W (e▸(z6.1 G).1),fun x E=>?_⟩) h).mono fun a w h=>⟨trivial,h⟩
         have a0:(f,C f)∈A.map fun f=>(f,C f):=zy.2 ⟨f,(z6.1 G).1,rfl⟩
         refine lg (f,C f) [] (List.Sublist.trans ?_ bk) (by simpa using(z6.1 G).2) (fun e=>W e.2) (fun e=>W (e▸(z6.1 G).1)) x E
         exact List.Sublist.append (s9.2 a0) (s9.2 U)
        exact(Bg I (n b s) a w pq (.inl rfl) aw F).mono fun a w h=>h.2
   have H:iB r P l.toArray Q o (wpAnyIn (FW r) 0 P .any l.toArray Q fuel (b.setIfInBounds i true)) a w :=
    key.mono fun a' w' h=>ih (b.setIfInBounds i true) a' w' (by simpa using hs) a8 aB h
   unfold wpOpIn
   rw[I]
   unfold iB at H
   show if Region.wanted o (yielded l.toArray a.tmps)=true then _ else _
   split<;>rename_i hw
   . rw[if_pos (show wn l.toArray o a=true from hw)]at H
     exact⟨fun _ _=>trivial,H.upon⟩
   . rw[if_neg (show ¬ wn l.toArray o a=true from hw)]at H
     exact⟨fun _ _=>trivial,H⟩
 have none:∀ L:List (Nat×List Nat),n (Array.replicate l.toArray.size false) L=L:=fun L=>by
  simp only[n,zO]
  intro m _
  show (!B (Array.replicate l.toArray.size false) m.1)=true
  simp only[B,uP]
  rfl
 have bi:y (Array.replicate l.toArray.size false)=A:=by
  simp only[y,zO]
  intro f _
  show (!B (Array.replicate l.toArray.size false) f)=true
  simp only[B,uP]
  rfl
 refine bh _ _ a _ s_ (by rw[none];simpa using pL aW) ⟨fun j o _ O=>?_⟩ (by rw[none,none,bi];exact h)
 simp only[B,uP]at O
 cases O
end
end Go.Sx
namespace Go.Sx
open Go
abbrev okF(np:Bool)(l:List Oper)(fQ:List (Nat×List Nat)):Bool:=Kn np l fQ [] (fun _=>[]) []
section
variable {r:Option Nat} {P:Program} {Q:Exit->Act->World->Prop} {l:List Oper} {a:Act} {w:World}
def u6:List Oper->Nat->Option Oper
 | [],_=>none
 | o :: _,0=>some o
 | _ :: l,n+1=>u6 l n
theorem Fw:∀ (l:List Oper) (n:Nat),u6 l n=l[n]?
 | [],n=>by simp[u6]
 | o :: l,0=>rfl
 | o :: l,n+1=>by simpa[u6]using Fw l n
def pick(l:List Oper):List Nat->List Oper
 | []=>[]
 | i :: is=>match u6 l i with
  | some o=>o :: pick l is
  | none=>pick l is
def yP(c:List Nat):List Nat->List (Nat×List Nat)
 | []=>[]
 | [i]=>[(i,c)]
 | i :: is=>(i,[]) :: yP c is
def yQ(last:List Nat):List (List Nat×List Nat)->List (Nat×List Nat)
 | []=>yP [] last
 | (is,c) :: rest=>yP c is++yQ last rest
def WS(r:Option Nat)(P:Program)(l:List Oper)(Q:Exit->Act->World->Prop)(last:List Nat):List (List Nat×List Nat)->Act->World->Prop
 | [],a,w=>WL r P l.toArray Q (pick l last) a w
 | (is,c) :: rest,a,w=>WL r P l.toArray (Exit.then (fun a w=>kj P l.toArray c a w/\WS r P l Q last rest a w) Q) (pick l is) a w
theorem Tm{ops:Array Oper}{o:Oper}{K M:Act->World->Prop}(h:kJ r P (Exit.then M Q) o K a w):kJ r P Q o K a w:=by
 unfold kJ at h ⊢
 split<;>rename_i f<;>simp only[f]at h
 . exact h
 . exact h
 . exact h
 . revert h
   generalize (o.semAt r a.eval).run P w=res
   intro b
   have d:LetsOut (Exit.then M Q)->LetsOut Q:=fun⟨a,w,h⟩=>⟨a,w,h⟩
   cases res with
   | ok nx w' =>
    cases nx<;>simp only[Oper.uponIn]at b ⊢ <;> first
     | exact b
     | exact⟨b.1,CallsIn.mono b.2 (fun e g c=>by cases e<;>first|exact c|exact d c)⟩
     | exact⟨b.1,RoundIn.mono b.2 (fun e g c=>by cases e<;>first|exact c|exact d c)⟩
   | halt x w' => cases x<;>simp only[Oper.uponIn]at b ⊢ <;> exact b
theorem aeF{M:Act->World->Prop}{c:List Nat}:∀ (is:List Nat) (a:Act) (w:World),wl r P l.toArray (Exit.then (fun a w=>kj P l.toArray c a w/\M a w) Q) (pick l is) a w->kE r P l.toArray Q (yP c is) M a w:=by
 intro is
 induction is with
 | nil=>intro a w h;exact h.2
 | cons i is d =>
  intro a w h
  have e:l.toArray[i]? = u6 l i:=by rw[Fw];simp
  cases is with
  | nil =>
   simp only[yP]
   unfold kE mB
   simp only[e]
   unfold pick at h
   cases ho:u6 l i with
   | none=>rw[ho]at h;exact h.2
   | some o =>
    simp only[ho]at h
    rw[L7]at h
    show iB r P l.toArray Q o _ a w
    unfold iB at h ⊢
    split<;>rename_i b
    . rw[if_pos b]at h
      exact(Tm (ops:=l.toArray) h).mono fun a w h=>⟨h.1,h.2⟩
    . rw[if_neg b]at h
      exact⟨h.1,h.2⟩
  | cons f is =>
   simp only[yP]
   unfold kE mB
   simp only[e]
   unfold pick at h
   cases ho:u6 l i with
   | none=>rw[ho]at h;exact d a w h
   | some o =>
    simp only[ho]at h
    rw[L7]at h
    show iB r P l.toArray Q o _ a w
    unfold iB at h ⊢
    split<;>rename_i b
    . rw[if_pos b]at h
      exact(Tm (ops:=l.toArray) h).mono fun a w h=>⟨trivial,d a w h⟩
    . rw[if_neg b]at h
      exact⟨trivial,d _ w h⟩
theorem S5{M:Act->World->Prop}{c:List Nat}{rest:List (Nat×List Nat)}(b:∀ a w,M a w->vo r P l.toArray Q rest a w)(is:List Nat)(a:Act)(w:World)(h:wl r P l.toArray (Exit.then (fun a w=>kj P l.toArray c a w/\M a w) Q) (pick l is) a w):vo r P l.toArray Q (yP c is++rest) a w:=by
 rw[xd,sw]
 exact kE.mono (fun a w h=>by have:=b a w h;rw[xd]at this;exact this) _ _ _ (aeF is a w h)
theorem Tt{r:Option Nat}{ops:Array Oper}:∀ (l:List Oper) (a:Act) (w:World),wl r P ops Q l a w->wl r P ops (Exit.then (fun a w=>kj P ops [] a w/\Q .normal a w) Q) l a w
 | [],a,w,h=>⟨trivial,h⟩
 | o :: l,a,w,h=>by
  rw[L7]at h ⊢
  have h:=h.mono (Tt l)
  unfold iB at h ⊢
  split<;>rename_i f
  . rw[if_pos f]at h
    unfold kJ at h ⊢
    split<;>rename_i g<;>simp only[g]at h
    . exact h
    . exact h
    . exact h
    . revert h
      generalize (o.semAt r a.eval).run P w=res
      intro b
      have d:LetsOut Q->LetsOut (Exit.then (fun a w=>kj P ops [] a w/\Q .normal a w) Q):=fun⟨a,w,h⟩=>⟨a,w,h⟩
      cases res with
      | ok nx w' =>
       cases nx<;>simp only[Oper.uponIn]at b ⊢ <;> first
        | exact b
        | exact⟨b.1,CallsIn.mono b.2 (fun e i c=>by cases e<;>first|exact c|exact d c)⟩
        | exact⟨b.1,RoundIn.mono b.2 (fun e i c=>by cases e<;>first|exact c|exact d c)⟩
      | halt x w' => cases x<;>simp only[Oper.uponIn]at b ⊢ <;> exact b
  . rw[if_neg f]at h
    exact h
theorem ME(last:List Nat):∀ (b:List (List Nat×List Nat)) (a:Act) (w:World),WS r P l Q last b a w->vo r P l.toArray Q (yQ last b) a w
 | [],a,w,h=>by
  have:=S5 (r:=r) (P:=P) (Q:=Q) (l:=l) (M:=fun a w=>Q .normal a w) (c:=[]) (rest:=[]) (fun a w h=>h) last a w (Tt _ _ _ h.out)
  simpa[yQ]using this
 | (is,c) :: rest,a,w,h=>S5 (ME last rest) is a w h.out
theorem kC{id n:Nat}{s:List (Nat×Value)}{ds:List Deferred}{bs:List (World×List Nat)}{L:List fT}(hm:P.follows .mixedOrders=true)(a:List (List Nat×List Nat))(last:List Nat)(d:St bs L w)(K:∀ w', St bs L w' -> WS r P l Q last a (Fr n s ds) w')(b:∃ np,(np=false\/NP Q)/\okF np l (yQ last a)=true:=by first|exact⟨true,.inr inferInstance,by kernel_rfl⟩|exact⟨false,.inl rfl,by kernel_rfl⟩) :
 WP r P (.region id l.toArray true) Q (Fr n s ds) w:=b.elim fun _ ⟨c,b⟩=>ad4 (yQ last a) [] (fun _=>[]) [] hm b c (by have:=ME last a _ _ (K _ (d.grow (gw.drew [] w)));rw[xd]at this;exact this)
theorem Sf:∀ (b a:List Oper),pick (a++b) (List.range' a.length b.length)=b
 | [],a=>rfl
 | o :: b,a=>by
  rw[zb,List.range'_succ]
  unfold pick
  rw[Fw,Mh (zj _)]
  have:=Sf b (a++[o])
  simpa using this
theorem KN{id n:Nat}{s:List (Nat×Value)}{ds:List Deferred}{bs:List (World×List Nat)}{L:List fT}(hm:P.follows .mixedOrders=true)(b:St bs L w)(K:∀ w', St bs L w' -> WL r P l.toArray Q l (Fr n s ds) w')(a:∃ np,(np=false\/NP Q)/\okF np l (yQ (List.range' 0 l.length) [])=true) :
 WP r P (.region id l.toArray true) Q (Fr n s ds) w:=kC hm [] (List.range' 0 l.length) b (fun w' h=>by
 have:=Sf l []
 show WL r P l.toArray Q (pick l (List.range' 0 l.length)) _ _
 rw[show pick l (List.range' 0 l.length)=l from this]
 exact K w' h) a
variable {n:Nat} {s:List (Nat×Value)} {ds:List Deferred} {is c last:List Nat} {rest:List (List Nat×List Nat)}
theorem jA{l' : List Oper}(h:WL r P l.toArray (Exit.then (fun a w=>kj P l.toArray c a w/\WS r P l Q last rest a w) Q) l' (Fr n s ds) w)(b:pick l is=l' := by rfl):WS r P l Q last ((is,c) :: rest) (Fr n s ds) w:=by subst b;exact h
theorem kF{l' : List Oper}(h:WL r P l.toArray Q l' (Fr n s ds) w)(a:pick l last=l' := by rfl):WS r P l Q last [] (Fr n s ds) w:=by subst a;exact h
theorem uf{M:Act->World->Prop}{ops:Array Oper}(b:kj P ops c (Fr n s ds) w)(h:M (Fr n s ds) w):Exit.then (fun a w=>kj P ops c a w/\M a w) Q .normal (Fr n s ds) w:=⟨b,h⟩
theorem p9{ops:Array Oper}{o:Oper}{d:Nat}{v:Value}(h:(execOp (ev n s) o).run P w = .ok (.value v) w)(hd:o.dst=some d)(hv:look s d=v):qB P ops o (Fr n s ds) w:=by
 refine .inr ⟨v,by rw[pR, h],?_⟩
 rw[hd,zT]
 refine vF ds fun t=>?_
 rw[CJ]
 split
 . rename_i e;subst e;exact hv.symm
 . rfl
theorem lq{ops:Array Oper}{k:Nat}{b:List Nat}{o:Oper}(hk:u6 ops.toList k=some o)(h:qB P ops o (Fr n s ds) w)(hs:kj P ops b (Fr n s ds) w):kj P ops (k :: b) (Fr n s ds) w :=
 ⟨fun c a=>by rw[Fw]at hk;simp at hk;rw[hk]at a;cases a;exact h,hs⟩
end
end Go.Sx
