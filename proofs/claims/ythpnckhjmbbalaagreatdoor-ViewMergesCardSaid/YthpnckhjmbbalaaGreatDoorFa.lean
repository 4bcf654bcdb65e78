/- Plain lemmas: rules for walking through code, one for each operation, over any program; an evaluator of closed calls with its soundness; and plain mathematics. No conditions. -/
import Derived.WalkKit
import Derived.TacticsIn
import Derived.RangeFuncIn
import Derived.Shelf.Abstract
import Derived.Laws.CopyOwn
import Derived.OrdersIn
import Derived.WalkSpells
import Derived.Lib.SliceRun
import Derived.RecoverIn
import Derived.WideLaws
import Derived.RangeFuncRecord
import Derived.ControlIn
import Derived.KernelRfl
set_option linter.unusedVariables false
set_option linter.unusedSectionVars false
set_option linter.unusedSimpArgs false
namespace Go.Sx
open Go
abbrev zd:=@List.mem_of_getElem?
abbrev ze:=@List.mem_cons_self
abbrev zg:=@List.mem_cons
abbrev zh:=@List.length_cons
abbrev zk:=@List.getElem?_eq_some_iff
abbrev zm:=@List.getElem?_eq_getElem
abbrev zn:=@List.length_nil
abbrev zo:=@Nat.le_refl
abbrev zp:=@Result.andThen_ok
abbrev zq:=@List.length_map
abbrev zr:=@List.mem_append
abbrev zt:=@List.all_eq_true
abbrev zu:=@List.nodup_append
abbrev zw:=@List.length_append
abbrev zx:=@List.nodup_cons
abbrev zy:=@Sem.run_bind
abbrev zz:=@List.mem_map
abbrev z6:=@List.flatMap_cons
abbrev z7:=@List.getElem?_map
abbrev z8:=@List.length_take
abbrev mw:=@List.getElem?_eq_none
abbrev jS:=@Sem.run_pure
abbrev kD:=@List.mem_filter
abbrev lR:=@List.mem_singleton
abbrev mT:=@List.mem_cons_of_mem
abbrev kr:=@List.map_cons
abbrev p5:=@Array.getElem?_eq_some_iff
abbrev k9:=@List.mem_range
abbrev mz:=@List.not_mem_nil
abbrev nt:=@Int.toNat_natCast
abbrev nu:=@List.append_assoc
abbrev lg:=@Nat.add_assoc
abbrev mU:=@Bool.and_eq_true
abbrev pq:=@Nat.le_of_ble_eq_true
abbrev oC:=@Nat.lt_of_lt_of_le
abbrev nU:=@List.ext_getElem?
abbrev lq:=@Nat.le_trans
abbrev um:=@List.eq_nil_of_length_eq_zero
abbrev oD:=@List.cons_append
abbrev lS:=@Nat.zero_add
abbrev p6:=@List.getElem?_range
abbrev rD:=@List.perm_append_comm
abbrev p7:=@List.length_range
abbrev uo:=@Array.getElem?_eq_getElem
abbrev uq:=@List.pairwise_iff_getElem
abbrev rE:=@List.filterMap_cons
abbrev qz:=@List.take_add_one
abbrev uh:=@List.getElem?_replicate
abbrev sH:=@Array.length_toList
abbrev qA:=@List.mem_flatMap
abbrev qB:=@List.take_length
abbrev qC:=@Nat.min_eq_left
abbrev tj:=@List.pairwise_cons
abbrev vt:=@List.take_of_length_le
abbrev uk:=@List.filter_eq_self
abbrev vu:=@List.take_append_drop
abbrev oO:=@Nat.zero_le
abbrev zO:=@List.getElem?_append_left
abbrev vw:=@Bool.or_eq_true_iff
abbrev vz:=@List.filter_sublist
abbrev vC:=@List.getElem_of_mem
abbrev xq:=@List.length_replicate
abbrev xu:=@List.mem_append_right
abbrev qD:=@Nat.add_zero
abbrev tq:=@List.map_append
abbrev tv:=@List.nil_append
abbrev tw:=@List.range_succ
abbrev vD:=@List.getElem?_take
abbrev xw:=@List.mem_append_left
abbrev ur:=@List.perm_middle
abbrev vE:=@List.getElem?_set
abbrev Bw:=@List.drop_eq_getElem_cons
abbrev zP:=@Array.getElem?_modify
abbrev zQ:=@Array.getElem?_toList
abbrev vF:=@List.filter_cons
abbrev vG:=@List.nodup_range
abbrev xx:=@Nat.eq_zero_or_pos
abbrev Bx:=@List.filter_cons_of_neg
abbrev By:=@List.filter_cons_of_pos
abbrev Bz:=@List.length_eq_zero_iff
abbrev xz:=@List.filter_congr
abbrev vH:=@List.append_nil
abbrev zN:=@List.map_congr_left
abbrev sI:=@Nat.add_mul
abbrev sJ:=@Nat.mul_one
abbrev Bt:=@Option.map_eq_some_iff
abbrev DE:=@Array.getElem?_append_left
abbrev xm:=@List.countP_cons
abbrev xo:=@Nat.max_eq_right
abbrev Bu:=@List.getElem?_toArray
abbrev Bv:=@Nat.eq_of_beq_eq_true
abbrev GY:=@List.eraseIdx_eq_take_drop_succ
abbrev DH:=@List.getElem?_take_of_lt
abbrev BA:=@List.mem_of_getLast?
abbrev xA:=@Option.map_some
abbrev BB:=@List.countP_eq_zero
abbrev BC:=@Nat.mul_le_mul_left
abbrev zS:=@Option.getD_some
abbrev BD:=@List.append_of_mem
abbrev BE:=@List.filter_append
abbrev G4:=@Int.tmod_eq_emod_of_nonneg
abbrev G5:=@List.getElem?_append_right
abbrev G6:=@List.getLast?_eq_none_iff
abbrev DI:=@Nat.mul_le_mul_right
abbrev LO:=@List.set_eq_take_append_cons_drop
abbrev zT:=@List.nodup_nil
abbrev BF:=@List.length_drop
abbrev G7:=@List.length_erase_of_mem
abbrev BG:=@Nat.div_add_mod'
abbrev xB:=@Nat.lt_or_ge
abbrev BH:=@Nat.min_eq_right
abbrev BI:=@Bool.or_eq_true
abbrev DJ:=@List.getLast?_cons
abbrev BJ:=@Nat.max_eq_left
abbrev xC:=@Int.le_refl
abbrev G8:=@List.length_pos_of_mem
abbrev LP:=@List.take_append_of_le_length
abbrev LQ:=@Array.getElem?_setIfInBounds
abbrev GZ:=@List.length_filter_le
abbrev zR:=@Nat.le_total
abbrev G0:=@List.getElem?_of_mem
abbrev G1:=@List.getLast?_append
abbrev G2:=@List.mem_iff_getElem
abbrev G3:=@List.mem_of_mem_take
abbrev DF:=@Nat.testBit_succ
abbrev LM:=@Array.toList_setIfInBounds
abbrev DG:=@Int.emod_nonneg
abbrev LN:=@List.exists_mem_of_ne_nil
abbrev LR:=@List.getLast?_eq_some_iff
abbrev DK:=@Nat.one_ne_zero
abbrev G9:=@Array.extract_size
abbrev He:=@List.getElem?_drop
abbrev Hf:=@List.mem_filterMap
abbrev DL:=@Bool.xor_false
abbrev Hg:=@Bool.not_eq_true'
abbrev Hh:=@List.foldl_append
abbrev Hi:=@List.pairwise_map
abbrev Hj:=@Nat.lt_trichotomy
abbrev LS:=@List.drop_of_length_le
abbrev LU:=@List.filter_eq_nil_iff
abbrev LV:=@List.singleton_sublist
abbrev LW:=@List.sublist_cons_self
abbrev LX:=@Array.getElem?_mapIdx
abbrev LY:=@List.countP_le_length
abbrev L4:=@List.filterMap_append
abbrev L5:=@Nat.div_lt_iff_lt_mul
abbrev L6:=@List.getElem?_append
abbrev zdt:=@List.map_nil
abbrev BK:=@Nat.mod_lt
abbrev DM:=@Nat.pow_succ
theorem o_{p:Prop}(h:p:=by omega):p:=h
theorem s_{p:Prop}(h:p:=by simp):p:=h
theorem d_{p:Prop}(h:p:=by decide):p:=h
end Go.Sx
namespace Go.Sx
open Go
def look:List (Nat×Value)->Nat->Value
 | [],_=>undef
 | (i,v) :: s,t=>bif Nat.beq i t then v else look s t
def Fr(n:Nat)(s:List (Nat×Value))(ds:List Deferred):Act :=
 { tmps:=Array.ofFn (n:=n) fun i=>look s i.val,defers:=ds }
def ev(n:Nat)(s:List (Nat×Value)):Operand->Value
 | .tmp t=>bif Nat.blt t n then look s t else undef
 | .const v=>v
 | .global g=>.pointer (some ⟨g,0,none⟩)
 | .func f=>.func (.func f) #[] #[]
theorem NF{a b:Nat}(h:a<b):Nat.blt a b=true:=by simp[Nat.blt];omega
theorem ND{a b:Nat}(h:¬ a<b):Nat.blt a b=false:=by
 cases hb:Nat.blt a b with
 | false=>rfl
 | true=>exact absurd (by simpa[Nat.blt,Nat.lt_iff_add_one_le]using hb) h
theorem DR(n:Nat)(s:List (Nat×Value))(ds:List Deferred)(x:Operand):(Fr n s ds).eval x=ev n s x:=by
 cases x with
 | tmp t =>
  by_cases h:t<n
  . simp[Act.eval,Fr,ev,h,NF h]
  . simp[Act.eval,Fr,ev,h,ND h]
 | _=>rfl
theorem pJ (n:Nat)(s:List (Nat×Value))(ds:List Deferred):(Fr n s ds).eval=ev n s:=funext (DR n s ds)
theorem CL(i t:Nat)(v:Value)(s:List (Nat×Value)):look ((i,v) :: s) t=if i=t then v else look s t:=by
 by_cases h:i=t
 . simp[look,h]
 . have:Nat.beq i t=false:=by
    cases hb:Nat.beq i t with
    | false=>rfl
    | true=>exact absurd (Bv hb) h
   simp[look,this,h]
theorem vL{n:Nat}{s s' : List (Nat×Value)}(ds:List Deferred)(h:∀ t,look s t=look s' t):Fr n s ds=Fr n s' ds:=by
 unfold Fr
 congr 2
 funext i
 exact h i.val
theorem zW(n:Nat)(s:List (Nat×Value))(ds:List Deferred)(d:Nat)(v:Value):(Fr n s ds).put (some d) v=Fr n ((d,v) :: s) ds:=by
 unfold Act.put Fr
 simp only[Act.mk.injEq,and_true]
 apply Array.ext
 . simp
 . intro i b a
   simp at b a
   rw[Array.getElem_setIfInBounds (by simpa using a)]
   simp[CL]
theorem aaZ(pre s:List (Nat×Value))(h:∀ p∈pre,look s p.1=p.2)(t:Nat):look (pre++s) t=look s t:=by
 induction pre with
 | nil=>rfl
 | cons p pre b =>
  have c := b (fun q a=>h q (mT _ a))
  obtain⟨i,v⟩:=p
  rw[oD,CL]
  split
  . rename_i e;subst e;exact(h (i,v) (ze ..)).symm
  . exact c
def Holds(s:List (Nat×Value)):List (Nat×Value)->Prop
 | []=>True
 | p :: l=>look s p.1=p.2/\Holds s l
theorem Holds.mem{s:List (Nat×Value)}:∀ {l:List (Nat×Value)},Holds s l->∀ p∈l,look s p.1=p.2
 | [],_,p,hp=>by cases hp
 | q :: l,h,p,hp=>by
  cases hp with
  | head=>exact h.1
  | tail _ hp=>exact Holds.mem h.2 p hp
theorem Uq{n:Nat}{s:List (Nat×Value)}{ds:List Deferred}(pre:List (Nat×Value))(h:Holds s pre):Fr n s ds=Fr n (pre++s) ds :=
 vL ds fun t=>(aaZ pre s h.mem t).symm
def FW(r:Option Nat):Fence:={ fn:=fun _=>True,depth:=none,alive:=false,round:=r }
theorem Ho(r:Option Nat)(m:Nat):(FW r).room m:=fun _ h=>by simp[FW]at h
abbrev WP(r:Option Nat)(P:Program)(c:Code)(Q:Exit->Act->World->Prop)(a:Act)(w:World):Prop:=c.wpIn (FW r) 0 P Q a w
def cat:Op->Nat
 | .move _ | .assign _ | .pick _ _ _ | .extract _ _ | .nilCheck _ | .fieldAddr _ _ _ | .indexAddr _ _ _ | .binOp _ _ _ _ _ | .unOp _ _ _ | .field _ _ _ | .index _ _ _ | .convert _ _ _ | .build _ _=>0
 | .load _ _ | .lookup _ _ _ _=>1
 | .store _ _ _ | .alloc _ | .box _ _ | .buildSlice _ _ _ | .makeSlice _ _ _ | .mapUpdate _ _ _ _ | .mapEntry _ _ _ | .entryStore _ _ _ _=>3
 | .call ⟨.builtin .len,_,_⟩=>1
 | .call ⟨.builtin .min,_,_⟩ | .call ⟨.builtin .max,_,_⟩=>0
 | .call ⟨.builtin .append,_,_⟩=>3
 | _=>2
def kB(r:Option Nat)(P:Program)(Q:Exit->Act->World->Prop)(o:Oper)(K:Act->World->Prop)(a:Act)(w:World):Prop :=
 match cat o.op with
 | 0=>∃ v,(∀ w', (execOp a.eval o).run P w' = .ok (.value v) w')/\K (a.put o.dst v) w
 | 1=>∃ v,(execOp a.eval o).run P w = .ok (.value v) w/\K (a.put o.dst v) w
 | 3=>∃ x w', (execOp a.eval o).run P w = .ok x w' /\ ((∃ v,x = .value v/\K (a.put o.dst v) w')\/(x = .skip/\K (a.put o.dst undef) w'))
 | _=>o.uponIn (FW r) 0 P a K Q ((o.semAt r a.eval).run P w)
def wl(r:Option Nat)(P:Program)(ops:Array Oper)(Q:Exit->Act->World->Prop):List Oper->Act->World->Prop
 | [],a,w=>Q .normal a w
 | o :: rest,a,w=>if Region.wanted o (yielded ops a.tmps)then kB r P Q o (wl r P ops Q rest) a w else wl r P ops Q rest (a.put o.dst undef) w
structure WL (r:Option Nat) (P:Program) (ops:Array Oper) (Q:Exit->Act->World->Prop) (l:List Oper) (a:Act) (w:World):Prop where
 out:wl r P ops Q l a w
theorem Vq{op:Op}(h:cat op≠2):∀ c,op ≠ .defer c:=by
 intro c e;subst e;exact h rfl
theorem afQ{r:Option Nat}{P:Program}{Q:Exit->Act->World->Prop}{o:Oper}{a:Act}{K K' : Act->World->Prop}(h:∀ a w,K a w->K' a w){x:Result Next}
 (b:o.uponIn (FW r) 0 P a K Q x):o.uponIn (FW r) 0 P a K' Q x:=by
 cases x with
 | ok x w' =>
  cases x<;>simp only[Oper.uponIn]at b ⊢ <;>
   first
    | exact h _ _ b
    | exact⟨b.1,CallsIn.mono b.2 (fun e d c=>by cases e<;>first|exact h _ _ c|exact c)⟩
    | exact⟨b.1,RowsIn.mono b.2 (fun _ _ c=>h _ _ c)⟩
    | exact⟨b.1,RoundIn.mono b.2 (fun e d c=>by cases e<;>first|exact h _ _ c|exact c)⟩
 | halt x w' => cases x<;>simp only[Oper.uponIn]at b ⊢ <;> exact b
theorem kB.mono{r:Option Nat}{P:Program}{Q:Exit->Act->World->Prop}{o:Oper}{a:Act}{w:World}{K K' : Act->World->Prop}(h:∀ a w,K a w->K' a w)
 (d:kB r P Q o K a w):kB r P Q o K' a w:=by
 unfold kB at *
 split<;>rename_i f<;>simp only[f]at d
 . obtain⟨v,c,b⟩:=d;exact⟨v,c,h _ _ b⟩
 . obtain⟨v,c,b⟩:=d;exact⟨v,c,h _ _ b⟩
 . obtain⟨x,w', c,⟨v,b,e⟩|⟨b,e⟩⟩:=d
   . exact⟨x,w', c,.inl ⟨v,b,h _ _ e⟩⟩
   . exact⟨x,w', c,.inr ⟨b,h _ _ e⟩⟩
 . exact afQ h d
theorem kB.upon{r:Option Nat}{P:Program}{Q:Exit->Act->World->Prop}{o:Oper}{a:Act}{w:World}{K:Act->World->Prop}
 (d:kB r P Q o K a w):o.uponIn (FW r) 0 P a K Q ((o.semAt r a.eval).run P w):=by
 have e:cat o.op≠2->o.semAt r a.eval=execOp a.eval o:=fun c=>by
  cases r with
  | none=>exact Oper.semAt_none _ o
  | some l=>exact Oper.semAt_some l _ o (Vq c)
 unfold kB at d
 split at d<;>rename_i c
 . obtain⟨v,b,f⟩:=d;rw[e (by rw[c];decide),b];exact f
 . obtain⟨v,b,f⟩:=d;rw[e (by rw[c];decide),b];exact f
 . obtain⟨x,w', b,⟨v,rfl,g⟩|⟨rfl,g⟩⟩:=d
   . rw[e (by rw[c];decide),b];exact g
   . rw[e (by rw[c];decide),b];exact g
 . exact d
theorem LH{r:Option Nat}{P:Program}{ops:Array Oper}{Q:Exit->Act->World->Prop}:∀ (l:List Oper) (a:Act) (w:World),wl r P ops Q l a w->wpListIn (FW r) 0 P ops Q l a w
 | [],_,_,h=>h
 | o :: rest,a,w,h=>by
  unfold wl at h
  unfold wpListIn
  split<;>rename_i b
  . rw[if_pos b]at h
    exact⟨fun _ _=>trivial,(h.mono (LH rest)).upon⟩
  . rw[if_neg b]at h
    exact⟨fun _ _=>trivial,LH rest _ _ h⟩
theorem uI{r:Option Nat}{m:Nat}{P:Program}{f:FuncId}{args:Array Value}{w:World}{R:Ending->World->Prop} :
 CallsIn (FW r) m P f args w R↔Calls P f args w R:=callsIn_wide (n:=m)
def we:List Oper->Nat->Option Nat
 | [],_=>none
 | o :: _,0=>o.dst
 | _ :: l,j+1=>we l j
theorem IF(l:List Oper):∀ j,we l j=(l[j]?).bind (·.dst):=by
 induction l with
 | nil=>intro j;simp[we]
 | cons o l a=>intro j;cases j with|zero=>rfl|succ j=>simpa[we]using a j
def KR:Value->Bool->Bool
 | .bool b,want=>bif want then b else !b
 | _,_=>false
def gE(ops:Array Oper)(n:Nat)(s:List (Nat×Value)):Option (Nat×Bool)->Bool
 | none=>true
 | some (j,want) =>
  match we ops.toList j with
  | some d=>KR (ev n s (.tmp d)) want
  | none=>false
theorem ry(ops:Array Oper)(n:Nat)(s:List (Nat×Value))(ds:List Deferred)(o:Oper) :
 Region.wanted o (yielded ops (Fr n s ds).tmps)=gE ops n s o.guard:=by
 unfold Region.wanted gE
 cases o.guard with
 | none=>rfl
 | some g =>
  obtain⟨j,a⟩:=g
  have e:we ops.toList j=(ops[j]?).bind (·.dst):=by rw[IF];simp
  simp only[yielded,e]
  cases (ops[j]?).bind (·.dst)with
  | none=>simp
  | some d =>
   simp only[Option.bind_some]
   by_cases h:d<n
   . have:(Fr n s ds).tmps[d]? = some (look s d):=by simp[Fr,h]
     rw[this]
     simp only[ev,NF h,cond_true]
     cases look s d<;>simp[KR]
     rename_i b
     cases b<;>cases a<;>rfl
   . have:(Fr n s ds).tmps[d]? = none:=Array.getElem?_eq_none (by simpa[Fr]using h)
     rw[this]
     simp[ev,ND h,undef,KR]
section ops
variable {r:Option Nat} {P:Program} {ops:Array Oper} {Q:Exit->Act->World->Prop} {rest:List Oper} {n:Nat} {s:List (Nat×Value)} {ds:List Deferred} {w w' : World}
theorem agh(h:Q .normal (Fr n s ds) w):WL r P ops Q [] (Fr n s ds) w:=⟨h⟩
theorem semAt_eq{r:Option Nat}{ρ:Operand->Value}{o:Oper}(h:∀ c,o.op ≠ .defer c):o.semAt r ρ=execOp ρ o:=by
 cases r with
 | none=>exact congrFun (congrFun (funext fun ρ=>funext fun o=>Oper.semAt_none ρ o) ρ) o
 | some l=>exact Oper.semAt_some l ρ o h
def nM:Op->Bool
 | .defer _=>false
 | _=>true
theorem wM{op:Op}(h:nM op=true):∀ c,op ≠ .defer c:=by
 intro c e;subst e;cases h
theorem agi{o:Oper}{v:Value}(b:gE ops n s o.guard=true)(h:∀ w,(execOp (ev n s) o).run P w = .ok (.value v) w)
 (K:WL r P ops Q rest ((Fr n s ds).put o.dst v) w) (a:cat o.op=0:=by rfl):WL r P ops Q (o :: rest) (Fr n s ds) w:=by
 refine⟨?_⟩
 unfold wl
 rw[ry,b,if_pos rfl]
 unfold kB
 rw[a]
 exact⟨v,fun w=>by rw[pJ, h w],K.out⟩
theorem Ud{o:Oper}{v:Value}(b:gE ops n s o.guard=true)(hd:nM o.op=true)(h:(execOp (ev n s) o).run P w = .ok (.value v) w')
 (K:WL r P ops Q rest ((Fr n s ds).put o.dst v) w') (a:(cat o.op=2\/cat o.op=3)\/(cat o.op=1/\w=w'):=by first|exact .inl (.inr rfl)|exact .inl (.inl rfl)|exact .inr ⟨rfl,rfl⟩):WL r P ops Q (o :: rest) (Fr n s ds) w:=by
 refine⟨?_⟩
 unfold wl
 rw[ry,b,if_pos rfl]
 unfold kB
 rcases a with (a|a)|⟨a,rfl⟩<;>rw[a]
 . show o.uponIn _ _ _ _ _ _ _
   rw[semAt_eq (wM hd),pJ, h]
   exact K.out
 . exact⟨_,w', by rw[pJ, h],.inl ⟨v,rfl,K.out⟩⟩
 . exact⟨v,by rw[pJ, h],K.out⟩
theorem Dw{o:Oper}(b:gE ops n s o.guard=true)(hd:nM o.op=true)(h:(execOp (ev n s) o).run P w = .ok .skip w')
 (K:WL r P ops Q rest ((Fr n s ds).put o.dst undef) w') (a:cat o.op=2\/cat o.op=3:=by first|exact .inr rfl|exact .inl rfl):WL r P ops Q (o :: rest) (Fr n s ds) w:=by
 refine⟨?_⟩
 unfold wl
 rw[ry,b,if_pos rfl]
 unfold kB
 rcases a with a|a<;>rw[a]
 . show o.uponIn _ _ _ _ _ _ _
   rw[semAt_eq (wM hd),pJ, h]
   exact K.out
 . exact⟨_,w', by rw[pJ, h],.inr ⟨rfl,K.out⟩⟩
theorem Uc{o:Oper}(b:gE ops n s o.guard=true)(h:o.uponIn (FW r) 0 P (Fr n s ds) (wl r P ops Q rest) Q ((o.semAt r (Fr n s ds).eval).run P w))(a:cat o.op=2:=by rfl):WL r P ops Q (o :: rest) (Fr n s ds) w:=by
 refine⟨?_⟩
 unfold wl
 rw[ry,b,if_pos rfl]
 unfold kB
 rw[a]
 exact h
theorem Ub{o:Oper}{f:FuncId}{args:Array Value}(c:gE ops n s o.guard=true)(hd:nM o.op=true)(h:(execOp (ev n s) o).run P w = .ok (.enter f args) w')
 (K:Calls P f args w' fun
  | .returned v,w'' => WL r P ops Q rest ((Fr n s ds).put o.dst v) w''
  | .panicked chain,w'' => Q (.panic chain) (Fr n s ds) w''
  | .outgrown,_=>LetsOut Q) (b:cat o.op=2:=by rfl):WL r P ops Q (o :: rest) (Fr n s ds) w:=by
 refine Uc c ?_ b
 rw[semAt_eq (wM hd),pJ, h]
 exact⟨fun h=>by simp[FW]at h,uI.2 (Calls.mono K fun e w' a=>by cases e<;>first|exact a.out|exact a)⟩
theorem sk{d:Nat}{op:Op}{ty:TypeId}{pos:String}{af:Array Edge}{g:Nat×Bool}(a:gE ops n s (some g)=false)
 (K:WL r P ops Q rest (Fr n ((d,undef) :: s) ds) w):WL r P ops Q (⟨some d,op,ty,pos,af,some g⟩ :: rest) (Fr n s ds) w:=by
 refine⟨?_⟩
 unfold wl
 rw[ry]
 simp only[a]
 show wl r P ops Q rest ((Fr n s ds).put (some d) undef) w
 rw[zW]
 exact K.out
theorem gr{k:IntKind}{a b:Int}(h:a=b):Value.int k a=Value.int k b:=by rw[h]
theorem EY{a b:Bool}(h:a=b):Value.bool a=Value.bool b:=by rw[h]
end ops
end Go.Sx
namespace Go.Sx
open Go
section
variable {r:Option Nat} {P:Program} {ops:Array Oper} {Q:Exit->Act->World->Prop} {rest:List Oper} {n:Nat} {s:List (Nat×Value)} {ds:List Deferred} {w w' : World}
variable {d:Nat} {ty:TypeId} {pos:String} {af:Array Edge} {g:Option (Nat×Bool)}
theorem pv{op:Op}{v:Value}(b:gE ops n s g=true)(hd:nM op=true)(h:(execOp (ev n s) ⟨some d,op,ty,pos,af,g⟩).run P w = .ok (.value v) w')
 (K:WL r P ops Q rest (Fr n ((d,v) :: s) ds) w') (a:(cat op=2\/cat op=3)\/(cat op=1/\w=w'):=by first|exact .inl (.inr rfl)|exact .inl (.inl rfl)|exact .inr ⟨rfl,rfl⟩):WL r P ops Q (⟨some d,op,ty,pos,af,g⟩ :: rest) (Fr n s ds) w :=
 Ud b hd h (by rw[zW];exact K) a
theorem pw{op:Op}{v:Value}(b:gE ops n s g=true)(h:∀ w,(execOp (ev n s) ⟨some d,op,ty,pos,af,g⟩).run P w = .ok (.value v) w)
 (K:WL r P ops Q rest (Fr n ((d,v) :: s) ds) w) (a:cat op=0:=by rfl):WL r P ops Q (⟨some d,op,ty,pos,af,g⟩ :: rest) (Fr n s ds) w :=
 agi b h (by rw[zW];exact K) a
theorem k7{x:Operand}{v:Value}(a:ev n s x=v){dd:Option Nat} :
 (execOp (ev n s) ⟨dd,.move x,ty,pos,af,g⟩).run P w = .ok (.value v) w:=by simp[execOp,a]
theorem mv{x:Operand}{v:Value}(a:gE ops n s g=true)(b:ev n s x=v)(K:WL r P ops Q rest (Fr n ((d,v) :: s) ds) w) :
 WL r P ops Q (⟨some d,.move x,ty,pos,af,g⟩ :: rest) (Fr n s ds) w:=pw a (fun _=>k7 b) K
theorem vX{x:Operand}{v:Value}(a:ev n s x=v){dd:Option Nat} :
 (execOp (ev n s) ⟨dd,.assign x,ty,pos,af,g⟩).run P w = .ok (.value v) w:=by simp[execOp,a]
theorem vW{x:Operand}{v:Value}(a:gE ops n s g=true)(b:ev n s x=v)(K:WL r P ops Q rest (Fr n ((d,v) :: s) ds) w) :
 WL r P ops Q (⟨some d,.assign x,ty,pos,af,g⟩ :: rest) (Fr n s ds) w:=pw a (fun _=>vX b) K
theorem acN{c x y:Operand}{v:Value}(a:ev n s c = .bool true)(b:ev n s x=v){dd:Option Nat} :
 (execOp (ev n s) ⟨dd,.pick c x y,ty,pos,af,g⟩).run P w = .ok (.value v) w:=by simp[execOp,b,a,asBool]
theorem acM{c x y:Operand}{v:Value}(a:ev n s c = .bool false)(b:ev n s y=v){dd:Option Nat} :
 (execOp (ev n s) ⟨dd,.pick c x y,ty,pos,af,g⟩).run P w = .ok (.value v) w:=by simp[execOp,b,a,asBool]
def kR:BinOp->Int->Int->Option Bool
 | .eql,a,b=>some (a==b)
 | .neq,a,b=>some (a != b)
 | .lss,a,b=>some (decide (a<b))
 | .leq,a,b=>some (decide (a<=b))
 | .gtr,a,b=>some (decide (b<a))
 | .geq,a,b=>some (decide (b<=a))
 | _,_,_=>none
theorem Be(op:BinOp)(t:TypeId)(x y:Operand)(k k' : IntKind)(a b:Int):(eqGuard op t x y (.int k a) (.int k' b)).run P w = .ok () w:=by
 unfold eqGuard
 cases op<;>simp
theorem aec{op:BinOp}{t:TypeId}{k:IntKind}{a b:Int}{c:Bool}(h:kR op a b=some c):(binOp op t (.int k a) (.int k b)).run P w = .ok (.bool c) w:=by
 cases op<;>simp[kR]at h<;>subst h<;>simp[binOp,Op.intCmp]
theorem N3{op:BinOp}{x y:Operand}{t t' : TypeId}{k:IntKind}{a b:Int}{c:Bool}(e:ev n s x = .int k a)(f:ev n s y = .int k b)
 (d:kR op a b=some c) {dd:Option Nat} :
 (execOp (ev n s) ⟨dd,.binOp op t x y t', ty,pos,af,g⟩).run P w = .ok (.value (.bool c)) w:=by simp[execOp,e,f,Be,aec d]
theorem cmp{op:BinOp}{x y:Operand}{t t' : TypeId}{k:IntKind}{a b:Int}{c:Bool}(f:gE ops n s g=true)(h:ev n s x = .int k a)(i:ev n s y = .int k b)
 (e:kR op a b=some c) (K:WL r P ops Q rest (Fr n ((d,.bool c) :: s) ds) w) :
 WL r P ops Q (⟨some d,.binOp op t x y t', ty,pos,af,g⟩ :: rest) (Fr n s ds) w:=pw f (fun _=>N3 h i e) K
theorem qo{a b:Int}(h:a<b):kR .lss a b=some true:=by simp[kR,h]
theorem lC{a b:Int}(h:¬ a<b):kR .lss a b=some false:=by simp[kR,h]
theorem Ax{a b:Int}(h:a<=b):kR .leq a b=some true:=by simp[kR,h]
theorem NN{a b:Int}(h:¬ a<=b):kR .leq a b=some false:=by simp[kR,h]
theorem pR{a b:Int}(h:¬ a>b):kR .gtr a b=some false:=by simp[kR];omega
theorem nY{a b:Int}(h:a≥b):kR .geq a b=some true:=by simp[kR];omega
theorem oG{a b:Int}(h:¬ a≥b):kR .geq a b=some false:=by simp[kR];omega
theorem rR{a b:Int}(h:a=b):kR .eql a b=some true:=by simp[kR,h]
theorem uH{a b:Int}(h:¬ a=b):kR .eql a b=some false:=by simp[kR,h]
theorem NM{a b:Int}(h:¬ a=b):kR .neq a b=some true:=by simp[kR,h]
theorem oW{a b:Int}(h:a=b):kR .neq a b=some false:=by simp[kR,h]
def Ca:BinOp->Int->Int->Option Int
 | .add,a,b=>some (a+b)
 | .sub,a,b=>some (a-b)
 | .mul,a,b=>some (a*b)
 | _,_,_=>none
theorem aeb{op:BinOp}{t:TypeId}{k:IntKind}{a b c:Int}(h:Ca op a b=some c):(binOp op t (.int k a) (.int k b)).run P w = .ok (.int k (k.wrap c)) w:=by
 cases op<;>simp[Ca]at h<;>subst h<;>simp[binOp,Op.intArith]
theorem Ep{op:BinOp}{x y:Operand}{t t' : TypeId}{k:IntKind}{a b c e:Int}(h:ev n s x = .int k a)(i:ev n s y = .int k b)
 (d:Ca op a b=some c) (f:k.wrap c=e) {dd:Option Nat} :
 (execOp (ev n s) ⟨dd,.binOp op t x y t', ty,pos,af,g⟩).run P w = .ok (.value (.int k e)) w:=by simp[execOp,h,i,Be,aeb d,f]
theorem ar{op:BinOp}{x y:Operand}{t t' : TypeId}{k:IntKind}{a b c e:Int}(h:gE ops n s g=true)(j:ev n s x = .int k a)(l:ev n s y = .int k b)
 (f:Ca op a b=some c) (i:k.wrap c=e) (K:WL r P ops Q rest (Fr n ((d,.int k e) :: s) ds) w) :
 WL r P ops Q (⟨some d,.binOp op t x y t', ty,pos,af,g⟩ :: rest) (Fr n s ds) w:=pw h (fun _=>Ep j l f i) K
theorem ox{a:Int}(h : -9223372036854775808<=a/\a<=9223372036854775807):IntKind.i64.wrap a=a:=IntWalk.i64_in a h
theorem GA{a:Int}(h:0<=a/\a<=18446744073709551615):IntKind.u64.wrap a=a:=IntWalk.u64_in a h
theorem T2{a:Int}(h:0<=a/\a<=255):IntKind.u8.wrap a=a:=IntWalk.u8_in a h
theorem adw{x y:Operand}{t t' : TypeId}{k:IntKind}{a b e:Int}(d:ev n s x = .int k a)(f:ev n s y = .int k b)
 (hb:b≠0) (c:k.wrap (a.tdiv b)=e) {dd:Option Nat} :
 (execOp (ev n s) ⟨dd,.binOp .quo t x y t', ty,pos,af,g⟩).run P w = .ok (.value (.int k e)) w:=by simp[execOp,d,f,Be,binOp,Op.intDiv,hb,c]
theorem quo{x y:Operand}{t t' : TypeId}{k:IntKind}{a b e:Int}(c:gE ops n s g=true)(h:ev n s x = .int k a)(i:ev n s y = .int k b)
 (hb:b≠0) (f:k.wrap (a.tdiv b)=e) (K:WL r P ops Q rest (Fr n ((d,.int k e) :: s) ds) w) :
 WL r P ops Q (⟨some d,.binOp .quo t x y t', ty,pos,af,g⟩ :: rest) (Fr n s ds) w:=pw c (fun _=>adw h i hb f) K
theorem adC{x y:Operand}{t t' : TypeId}{k:IntKind}{a b e:Int}(d:ev n s x = .int k a)(f:ev n s y = .int k b)
 (hb:b≠0) (c:a.tmod b=e) {dd:Option Nat} :
 (execOp (ev n s) ⟨dd,.binOp .rem t x y t', ty,pos,af,g⟩).run P w = .ok (.value (.int k e)) w:=by simp[execOp,d,f,Be,binOp,Op.intDiv,hb,c]
theorem rem{x y:Operand}{t t' : TypeId}{k:IntKind}{a b e:Int}(c:gE ops n s g=true)(h:ev n s x = .int k a)(i:ev n s y = .int k b)
 (hb:b≠0) (f:a.tmod b=e) (K:WL r P ops Q rest (Fr n ((d,.int k e) :: s) ds) w) :
 WL r P ops Q (⟨some d,.binOp .rem t x y t', ty,pos,af,g⟩ :: rest) (Fr n s ds) w:=pw c (fun _=>adC h i hb f) K
def tG(op:BinOp)(k:IntKind)(x y:Int):Option Int :=
 let a:=BitVec.ofInt k.bits x
 let b:=BitVec.ofInt k.bits y
 match op with
 | .and=>some (k.wrap (a &&& b).toNat)
 | .or=>some (k.wrap (a ||| b).toNat)
 | .xor=>some (k.wrap (a ^^^ b).toNat)
 | .andNot=>some (k.wrap (a &&& ~~~b).toNat)
 | _=>none
theorem Vi{op:BinOp}{x y:Operand}{t t' : TypeId}{k:IntKind}{a b e:Int}(d:ev n s x = .int k a)(f:ev n s y = .int k b)
 (c:tG op k a b=some e) {dd:Option Nat} :
 (execOp (ev n s) ⟨dd,.binOp op t x y t', ty,pos,af,g⟩).run P w = .ok (.value (.int k e)) w:=by
 simp only[tG]at c
 cases op<;>simp at c<;>simp[execOp,d,f,Be,binOp,Op.intBits,c]
theorem bi{op:BinOp}{x y:Operand}{t t' : TypeId}{k:IntKind}{a b e:Int}(c:gE ops n s g=true)(h:ev n s x = .int k a)(i:ev n s y = .int k b)
 (f:tG op k a b=some e) (K:WL r P ops Q rest (Fr n ((d,.int k e) :: s) ds) w) :
 WL r P ops Q (⟨some d,.binOp op t x y t', ty,pos,af,g⟩ :: rest) (Fr n s ds) w:=pw c (fun _=>Vi h i f) K
theorem aey{x y:Operand}{t t' : TypeId}{k i:IntKind}{a b e:Int}(f:ev n s x = .int k a)(h:ev n s y = .int i b)
 (hb:0<=b) (d:a.fdiv (2 ^ (min b.toNat k.bits))=e) {dd:Option Nat} :
 (execOp (ev n s) ⟨dd,.binOp .shr t x y t', ty,pos,af,g⟩).run P w = .ok (.value (.int k e)) w:=by
 have c : ¬ b<0:=by omega
 simp[execOp,f,h,Be,binOp,Op.shift,c, d]
theorem shr{x y:Operand}{t t' : TypeId}{k j:IntKind}{a b e:Int}(c:gE ops n s g=true)(h:ev n s x = .int k a)(i:ev n s y = .int j b)
 (hb:0<=b) (f:a.fdiv (2 ^ (min b.toNat k.bits))=e) (K:WL r P ops Q rest (Fr n ((d,.int k e) :: s) ds) w) :
 WL r P ops Q (⟨some d,.binOp .shr t x y t', ty,pos,af,g⟩ :: rest) (Fr n s ds) w:=pw c (fun _=>aey h i hb f) K
theorem acg{x:Operand}{t:TypeId}{b c:Bool}(d:ev n s x = .bool b)(a:(!b)=c){dd:Option Nat} :
 (execOp (ev n s) ⟨dd,.unOp .not t x,ty,pos,af,g⟩).run P w = .ok (.value (.bool c)) w:=by simp[execOp,d,Op.unary,a]
theorem Wk{x:Operand}{t t' : TypeId}{k k' : IntKind}{u:TypeDesc}{a e:Int}(d:ev n s x = .int k a)
 (hs:P.underlying t=some u) (b:P.underlying t' = some (.int k')) (c:k'.wrap a=e) {dd:Option Nat} :
 (execOp (ev n s) ⟨dd,.convert t t' x,ty,pos,af,g⟩).run P w = .ok (.value (.int k' e)) w:=by simp[execOp,d,convert,run_underlying hs,run_underlying b,Conv.intToInt,c]
theorem E1{x:Operand}{i:Nat}{vs:Array Value}{v:Value}(a:ev n s x = .tuple vs)(hv:vs[i]? = some v){dd:Option Nat} :
 (execOp (ev n s) ⟨dd,.extract x i,ty,pos,af,g⟩).run P w = .ok (.value v) w:=by simp[execOp,a,Instr.extract,hv]
theorem Qz{x:Operand}{t e:TypeId}{a:Option Addr}{m c:Nat}(d:ev n s x = .slice a m c)(b:P.underlying t=some (.slice e)){dd:Option Nat} :
 (execOp (ev n s) ⟨dd,.call ⟨.builtin .len,#[x],#[t]⟩,ty,pos,af,g⟩).run P w = .ok (.value (.int .i64 m)) w:=by simp[execOp,resolve,invoke,builtin,d,Builtin.len_,run_underlying b];rfl
theorem Fk{x:Operand}{t e:TypeId}{a:Option Addr}{m c:Nat}(b:gE ops n s g=true)(h:ev n s x = .slice a m c)(f:P.underlying t=some (.slice e))
 (K:WL r P ops Q rest (Fr n ((d,.int .i64 m) :: s) ds) w) :
 WL r P ops Q (⟨some d,.call ⟨.builtin .len,#[x],#[t]⟩,ty,pos,af,g⟩ :: rest) (Fr n s ds) w:=pv b rfl (Qz h f) K
theorem AT{x:Operand}{a:Addr}(b:ev n s x = .pointer (some a)){dd:Option Nat} :
 (execOp (ev n s) ⟨dd,.nilCheck x,ty,pos,af,g⟩).run P w = .ok (.value (.pointer (some a))) w:=by simp[execOp,b]
theorem uV{x:Operand}{a:Addr}(b:gE ops n s g=true)(c:ev n s x = .pointer (some a))
 (K:WL r P ops Q rest (Fr n ((d,.pointer (some a)) :: s) ds) w) :
 WL r P ops Q (⟨some d,.nilCheck x,ty,pos,af,g⟩ :: rest) (Fr n s ds) w:=pw b (fun _=>AT c) K
theorem abF{fn:Fn}{fi ca:List Operand}{vf vc:List Value}(b:fi.map (ev n s)=vf)(a:ca.map (ev n s)=vc){dd:Option Nat} :
 (execOp (ev n s) ⟨dd,.makeFunc fn fi.toArray ca.toArray,ty,pos,af,g⟩).run P w = .ok (.value (.func fn vf.toArray vc.toArray)) w:=by subst b a;simp[execOp,Instr.makeFunc]
theorem oc{fn:Fn}{fi ca:List Operand}{vf vc:List Value}(c:gE ops n s g=true)(b:fi.map (ev n s)=vf)(a:ca.map (ev n s)=vc)
 (K:WL r P ops Q rest (Fr n ((d,.func fn vf.toArray vc.toArray) :: s) ds) w) :
 WL r P ops Q (⟨some d,.makeFunc fn fi.toArray ca.toArray,ty,pos,af,g⟩ :: rest) (Fr n s ds) w:=pv c rfl (abF b a) K
theorem ZU{x y:Operand}{t:TypeId}{k:IntKind}{b:ByteArray}{i:Int}{c:UInt8}(f:ev n s x = .string b)(h:ev n s y = .int k i)
 (e:P.underlying t=some .string) (a:0<=i) (d:b[i.toNat]? = some c) {dd:Option Nat} :
 (execOp (ev n s) ⟨dd,.index t x y,ty,pos,af,g⟩).run P w = .ok (.value (.int .u8 c.toNat)) w:=by simp[execOp,f,h,Instr.index,asIntOf,run_underlying e,a,d]
theorem ZS{x y:Operand}{t:TypeId}{k:IntKind}{b:ByteArray}{i:Int}{c:UInt8}(f:gE ops n s g=true)(j:ev n s x = .string b)(l:ev n s y = .int k i)
 (h:P.underlying t=some .string) (a:0<=i) (e:b[i.toNat]? = some c) (K:WL r P ops Q rest (Fr n ((d,.int .u8 c.toNat) :: s) ds) w) :
 WL r P ops Q (⟨some d,.index t x y,ty,pos,af,g⟩ :: rest) (Fr n s ds) w:=pw f (fun _=>ZU j l h a e) K
end
end Go.Sx
namespace Go.Sx
open Go
section
variable {r:Option Nat} {P:Program} {Q:Exit->Act->World->Prop} {n:Nat} {s:List (Nat×Value)} {ds:List Deferred} {w w' : World}
theorem rg{id:Nat}{l:List Oper}(h:WL r P l.toArray Q l (Fr n s ds) w):WP r P (.region id l.toArray false) Q (Fr n s ds) w:=wpIn_region_lit (LH _ _ _ h.out)
theorem sp(h:Q .normal (Fr n s ds) w):WP r P .skip Q (Fr n s ds) w:=wpIn_skip h
theorem bk{id:Nat}{c:Code}(h:WP r P c (Exit.inBlock id Q) (Fr n s ds) w):WP r P (.block id c) Q (Fr n s ds) w:=wpIn_block h
theorem xt{id:Nat}(h:Q (.exit id) (Fr n s ds) w):WP r P (.exit id) Q (Fr n s ds) w:=wpIn_exit h
theorem rt(h:Q .ret (Fr n s ds) w):WP r P .ret Q (Fr n s ds) w:=wpIn_ret h
theorem Vt{c:Operand}{x y:Code}(a:ev n s c = .bool true)(h:WP r P x Q (Fr n s ds) w):WP r P (.cond c x y) Q (Fr n s ds) w :=
 wpIn_cond_true (by rw[DR];exact a) h
theorem Vs{c:Operand}{x y:Code}(a:ev n s c = .bool false)(h:WP r P y Q (Fr n s ds) w):WP r P (.cond c x y) Q (Fr n s ds) w :=
 wpIn_cond_false (by rw[DR];exact a) h
section
variable {K:Act->World->Prop} {a:Act} {i j:Nat} {ch:List PanicEntry}
theorem tN(h:K a w):Exit.then K Q .normal a w:=h
theorem bX(h:Q .normal a w):Exit.inBlock i Q (.exit i) a w:=by simp only[Exit.inBlock,if_true];exact h
theorem Ie(b:Nat.beq j i=false)(h:Q (.exit j) a w):Exit.inBlock i Q (.exit j) a w:=by
 have:¬ j=i:=fun e=>by subst e;simp at b
 simp only[Exit.inBlock,this,if_false];exact h
end
def L7{α:Type}(n:Nat)(ds:List Deferred)(pre:α->List (Nat×Value))(C:α->World->Prop)(μ:α->Nat)(m:Nat)(a:Act)(w:World):Prop :=
 ∃ x s,a=Fr n s ds/\Holds s (pre x)/\C x w/\μ x<m
theorem again{α:Type}{pre:α->List (Nat×Value)}{C:α->World->Prop}{μ:α->Nat}{m:Nat}(x:α)(h:Holds s (pre x))(a:C x w)(hm:μ x<m):L7 n ds pre C μ m (Fr n s ds) w :=
 ⟨x,s,rfl,h,a,hm⟩
theorem lp{α:Type}{c:Code}(pre:α->List (Nat×Value))(C:α->World->Prop)(μ:α->Nat)(i:α)(q:Holds s (pre i))(t:C i w)
 (G:∀ x H w', C x w' -> WP r P c (Exit.then (L7 n ds pre C μ (μ x)) Q) (Fr n (pre x++H) ds) w'):WP r P (.loop c) Q (Fr n s ds) w:=by
 intro b k cs D hb h
 have key:∀ j x s w,μ x=j->Holds s (pre x)->C x w ->
  ∃ e a' w', Q e a' w' /\ ArrivesIn (Machine.fenced P (FW r)) P (lone (b.atR (Fr n s ds) (.code c :: .inLoop c :: k)) cs w) b k cs e a' w' := by
  intro j
  induction j using Nat.strongRecOn with
  | _ j F =>
   intro x s w A hs v
   obtain⟨e,g,f,d,a⟩:=G x s w v b (.inLoop c :: k) cs D hb h
   rw[<-Uq (pre x) hs]at a
   cases e with
   | normal =>
    obtain⟨m,I,rfl,E,u,z⟩:=d
    obtain⟨p,o,J,B,y⟩:=F (μ m) (A▸z) m I f rfl E u
    exact⟨p,o,J,B,.of_steps (StepsIn.trans a (.one (fenced_calm hb h rfl) stepR_inLoop)) y⟩
   | exit id=>exact⟨_,g,f,d,.pass (x:=.inLoop c) rfl (fun _ _=>.inl s_) a⟩
   | goto l=>exact⟨_,g,f,d,.pass (x:=.inLoop c) rfl (fun _ _=>.inl s_) a⟩
   | ret=>exact⟨_,g,f,d,.pass (x:=.inLoop c) rfl (fun _ _=>.inl s_) a⟩
   | panic ch=>exact⟨_,g,f,d,.pass (x:=.inLoop c) rfl (fun _ _=>.inl s_) a⟩
   | outgrown=>exact⟨_,g,f,d,.pass (x:=.inLoop c) rfl (fun _ _=>.inl s_) a⟩
 obtain⟨e,a', w', d,a⟩:=key _ i s w rfl q t
 exact⟨e,a', w', d,.of_steps (.one (fenced_calm hb h rfl) stepR_loop) a⟩
def BM(r:Option Nat)(P:Program)(c:Code)(Q:Exit->Act->World->Prop):Nat->Act->World->Prop
 | 0,_,_=>False
 | k+1,a,w=>WP r P c (Exit.then (BM r P c Q k) Q) a w
theorem ru{c:Code}(k:Nat)(h:BM r P c Q k (Fr n s ds) w):WP r P (.loop c) Q (Fr n s ds) w:=by
 intro b kk cs t hb j
 have key:∀ k a w,BM r P c Q k a w ->
  ∃ e a' w', Q e a' w' /\ ArrivesIn (Machine.fenced P (FW r)) P (lone (b.atR a (.code c :: .inLoop c :: kk)) cs w) b kk cs e a' w' := by
  intro k
  induction k with
  | zero=>intro a w h;exact h.elim
  | succ k u =>
   intro a w h
   obtain⟨e,g,i,f,d⟩:=h b (.inLoop c :: kk) cs t hb j
   cases e with
   | normal =>
    obtain⟨o,m,v,q,p⟩:=u g i f
    exact⟨o,m,v,q,.of_steps (StepsIn.trans d (.one (fenced_calm hb j rfl) stepR_inLoop)) p⟩
   | exit id=>exact⟨_,g,i,f,.pass (x:=.inLoop c) rfl (fun _ _=>.inl s_) d⟩
   | goto l=>exact⟨_,g,i,f,.pass (x:=.inLoop c) rfl (fun _ _=>.inl s_) d⟩
   | ret=>exact⟨_,g,i,f,.pass (x:=.inLoop c) rfl (fun _ _=>.inl s_) d⟩
   | panic ch=>exact⟨_,g,i,f,.pass (x:=.inLoop c) rfl (fun _ _=>.inl s_) d⟩
   | outgrown=>exact⟨_,g,i,f,.pass (x:=.inLoop c) rfl (fun _ _=>.inl s_) d⟩
 obtain⟨e,a', w', f,d⟩:=key k _ w h
 exact⟨e,a', w', f,.of_steps (.one (fenced_calm hb j rfl) stepR_loop) d⟩
theorem iD{c:Code}{k:Nat}{a:Act}(h:WP r P c (Exit.then (BM r P c Q k) Q) a w):BM r P c Q (k+1) a w:=h
def vV:List Value->Nat->List (Nat×Value)
 | [],_=>[]
 | v :: vs,i=>(i,v) :: vV vs (i+1)
theorem aa0(vs:List Value):∀ i t,i<=t->look (vV vs i) t=(vs[t-i]?).getD undef:=by
 induction vs with
 | nil=>intro i t _;simp[vV,look]
 | cons v vs a =>
  intro i t h
  rw[vV,CL]
  split
  . rename_i e;subst e;simp
  . rename_i e
    rw[a (i+1) t o_]
    rw[show t-i=(t-(i+1))+1 by omega]
    simp
theorem L9(vs:List Value)(n:Nat)(h:vs.length<=n):({ tmps:=vs.toArray++Array.replicate (n-vs.toArray.size) undef,defers:=[] }:Act)=Fr n (vV vs 0) []:=by
 unfold Fr
 simp only[Act.mk.injEq,and_true]
 apply Array.ext
 . simp;omega
 . intro i a b
   simp only[Array.getElem_ofFn]
   rw[aa0 vs 0 i o_]
   by_cases hi:i<vs.length
   . rw[Array.getElem_append_left (by simpa using hi)]
     simp[hi]
   . rw[Array.getElem_append_right (by simpa using hi)]
     simp[hi]
def CR(P:Program)(f:FuncId)(vs:Array Value)(w:World)(R:Value->World->Prop):Prop :=
 Calls P f vs w fun e w' => ∃ v,e = .returned v/\R v w'
theorem CR.mono{f:FuncId}{vs:Array Value}{R R' : Value->World->Prop}(h:CR P f vs w R)(c:∀ v w', R v w' -> R' v w'):CR P f vs w R' :=
 Calls.mono h fun e w' ⟨v,b,a⟩=>⟨v,b,c v w' a⟩
theorem enter{f:FuncId}{fn:Func}{c:Code}{vs:List Value}{R:Ending->World->Prop}(a:P.funcs[f]? = some fn)(hb:fn.body=some c)(b:fn.ntmps=n)(hs:Nat.ble vs.length n=true)
 (h:WP none P c (bodyPost P fn R) (Fr n (vV vs 0) []) w):Calls P f vs.toArray w R:=by
 refine uI.1 (callsIn_of_wp (F:=FW none) (n:=0) a hb trivial ?_)
 rw[b,L9 vs n (pq hs)]
 exact h
theorem sS(t:Nat):(Fr n s ds).tmps.getD t undef=ev n s (.tmp t):=DR n s ds (.tmp t)
theorem gp{fn:Func}{t:Nat}{v:Value}{R:Value->World->Prop}(a:fn.results = #[.tmp t])(hv:ev n s (.tmp t)=v)(h:R v w) :
 bodyPost P fn (fun e w' => ∃ v,e = .returned v/\R v w') .ret (Fr n s []) w :=
 ⟨rfl,_,results_tmp a _ _ _,_,rfl,by rw[sS,hv];exact h⟩
theorem Bb{fn:Func}{R:Value->World->Prop}(a:fn.results = #[])(h:R (.tuple #[]) w) :
 bodyPost P fn (fun e w' => ∃ v,e = .returned v/\R v w') .ret (Fr n s []) w :=
 ⟨rfl,_,results_none a _ _ _,_,rfl,h⟩
theorem iZ{fn:Func}{R:Value->World->Prop}(a:fn.results = #[])(h:R (.tuple #[]) w) :
 bodyPost P fn (fun e w' => ∃ v,e = .returned v/\R v w') .normal (Fr n s []) w :=
 ⟨rfl,_,results_none a _ _ _,_,rfl,h⟩
theorem iH{fn:Func}{t u:Nat}{v v' : Value}{R:Value->World->Prop}(a:fn.results = #[.tmp t,.tmp u])(hv:ev n s (.tmp t)=v)(b : ev n s (.tmp u)=v')(h:R (.tuple #[v,v']) w) :
 bodyPost P fn (fun e w' => ∃ v,e = .returned v/\R v w') .ret (Fr n s []) w :=
 ⟨rfl,_,results_tmp2 a _ _ _,_,rfl,by rw[sS,sS,hv,b];exact h⟩
theorem adL {fn:Func}{t u x:Tmp}(h:fn.results = #[.tmp t,.tmp u,.tmp x])(tmps:Array Value)(P:Program)(w:World) :
 (results fn tmps).run P w = .ok (.tuple #[tmps.getD t undef,tmps.getD u undef,tmps.getD x undef]) w:=by
 simp[results,h]
theorem tf{fn:Func}{t u x:Nat}{v v' v'' : Value}{R:Value->World->Prop}(a:fn.results = #[.tmp t,.tmp u,.tmp x])(hv:ev n s (.tmp t)=v)(b : ev n s (.tmp u)=v')(c : ev n s (.tmp x)=v'')(h:R (.tuple #[v,v', v'']) w) :
 bodyPost P fn (fun e w' => ∃ v,e = .returned v/\R v w') .ret (Fr n s []) w :=
 ⟨rfl,_,adL a _ _ _,_,rfl,by rw[sS,sS,sS,hv,b, c];exact h⟩
variable {ops:Array Oper} {rest:List Oper} {d:Option Nat} {ty:TypeId} {pos:String} {af:Array Edge} {g:Option (Nat×Bool)}
def kI(d:Option Nat)(v:Value)(s:List (Nat×Value)):List (Nat×Value):=match d with|some i=>(i,v) :: s|none=>s
theorem zX(d:Option Nat)(v:Value):(Fr n s ds).put d v=Fr n (kI d v s) ds:=by
 cases d with
 | none=>rfl
 | some i=>exact zW n s ds i v
abbrev gi(P:Program)(f:FuncId):Prop:=∀ (args:Array Value) (w:World),(callFunc f args).run P w = .ok (.enter f args) w
theorem Ft (a:List Operand):a.toArray.map (ev n s)=(a.map (ev n s)).toArray:=by simp
theorem jM{f:FuncId}{a:List Operand}{T:Array TypeId}{vl:List Value}{R:Value->World->Prop}(i:gE ops n s g=true)(hvs:a.map (ev n s)=vl)(h:gi P f)
 (c:CR P f vl.toArray w R) (K:∀ v w', R v w' -> WL r P ops Q rest (Fr n (kI d v s) ds) w') :
 WL r P ops Q (⟨d,.call ⟨.value (.func f),a.toArray,T⟩,ty,pos,af,g⟩ :: rest) (Fr n s ds) w:=by
 refine Ub (f:=f) (args:=vl.toArray) (w' := w) i rfl ?_ (Calls.mono c ?_)
 . simp only[execOp,resolve,invoke,Deferred.ofValue,Ft, hvs]
   simp[ev,h _ _]
 . rintro e w' ⟨v,rfl,b⟩
   simp only[zX]
   exact K v w' b
theorem qp{x:Operand}{f:FuncId}{fi ca:List Value}{a:List Operand}{T:Array TypeId}{vl:List Value}{R:Value->World->Prop}(i:gE ops n s g=true)
 (j:ev n s x = .func (.func f) fi.toArray ca.toArray) (hvs:fi++a.map (ev n s)++ca=vl) (h:gi P f)
 (c:CR P f vl.toArray w R) (K:∀ v w', R v w' -> WL r P ops Q rest (Fr n (kI d v s) ds) w') :
 WL r P ops Q (⟨d,.call ⟨.value x,a.toArray,T⟩,ty,pos,af,g⟩ :: rest) (Fr n s ds) w:=by
 refine Ub (f:=f) (args:=vl.toArray) (w' := w) i rfl ?_ (Calls.mono c ?_)
 . subst hvs
   simp only[execOp,resolve,invoke,Deferred.ofValue,Ft, j]
   simp[h _ _]
 . rintro e w' ⟨v,rfl,b⟩
   simp only[zX]
   exact K v w' b
end
end Go.Sx
namespace Go.Sx
open Go
structure gA (S:List Nat) (w w' : World):Prop where
 os:w'.os=w.os
 tape:w'.tape=w.tape
 output:w'.output=w.output
 size:w.heap.size<=w'.heap.size
 block:∀ b,b<w.heap.size->b∉S->w'.heap[b]? = w.heap[b]?
theorem gA.refl(S:List Nat)(w:World):gA S w w:=⟨rfl,rfl,rfl,zo _,fun _ _ _=>rfl⟩
theorem gA.trans{S:List Nat}{a b c:World}(h:gA S a b)(k:gA S b c):gA S a c :=
 ⟨k.os.trans h.os,k.tape.trans h.tape,k.output.trans h.output,lq h.size k.size,fun i hi d=>(k.block i (oC hi h.size) d).trans (h.block i hi d)⟩
theorem gA.mono{S c : List Nat}{a b:World}(h:gA S a b)(hs:∀ x∈S,x∈c):gA c a b :=
 ⟨h.os,h.tape,h.output,h.size,fun i hi d=>h.block i hi (fun e=>d (hs i e))⟩
theorem gA.drew(S:List Nat)(w:World):gA S w w.drew:=⟨rfl,rfl,rfl,zo _,fun _ _ _=>rfl⟩
theorem gA.alloc(S:List Nat)(w:World)(o:Obj):gA S w (w.alloc o) :=
 ⟨rfl,rfl,rfl,s_,fun b hb _=>RowKit.Below.heap_alloc w o b hb⟩
theorem gA.setRow(w:World)(g:Nat)(cs:Array Value):gA [g] w (w.setRow g cs) :=
 ⟨rfl,rfl,rfl,s_,fun b _ hb=>setRow_other w g b cs (by simpa using hb)⟩
theorem gA.acm{w w' : World}{row:Option Nat}(h:w.grownBy w' row):gA row.toList w w' :=
 ⟨h.os,h.tape,h.output,h.size,fun b hb a=>h.block b hb (fun e=>a (by rw[<-e];simp))⟩
theorem gA.below{w w' : World}(h:gA [] w w'):RowKit.Below w.heap.size w w' :=
 ⟨h.os,h.tape,h.output,h.size,fun b hb=>h.block b hb s_⟩
structure fS where
 gJ:List Nat
 holds:World->Prop
 loc:∀ w w', (∀ b∈gJ,w'.heap[b]? = w.heap[b]?)->holds w->holds w'
def blk(b:Nat)(T:TypeId)(cs:List Value):fS where
 gJ:=[b]
 holds w:=w.heap[b]? = some (.cells cs.toArray T (0,0))
 loc w w' h hh:=(h b s_).trans hh
def row(v:Value)(e:TypeId)(sz m:Nat)(xs:List Value):fS where
 gJ:=v.ownBlock.toList
 holds w:=w.ownsRow 0 e sz v m xs
 loc w w' h hh:=by
  refine⟨hh.1,?_⟩
  rcases hh.2 with c|⟨g,a,cur,rfl,hb,b,rest⟩
  . exact .inl c
  . exact .inr ⟨g,a,cur,rfl,hb,(h g (by simp[Value.ownBlock])).trans b,rest⟩
def iT(L:List fS):List Nat:=L.flatMap (·.gJ)
structure Bs (wb:World) (X:List Nat) (L:List fS) (w:World):Prop where
 gD:gA X wb w
 mine:∀ b∈iT L,b∈X\/wb.heap.size<=b
structure St (bs:List (World×List Nat)) (L:List fS) (w:World):Prop where
 base:∀ p∈bs,Bs p.1 p.2 L w
 own:∀ R∈L,R.holds w
 sep:(iT L).Nodup
 lt:∀ b∈iT L,b<w.heap.size
variable {bs:List (World×List Nat)} {L L' : List fS} {w w' w0:World}
theorem St.init(w:World):St [(w,[])] [] w :=
 ⟨fun p hp=>by simp only[lR]at hp;subst hp;exact⟨gA.refl _ _,by simp[iT]⟩,s_,by simp[iT],by simp[iT]⟩
theorem St.PX(w:World)(L:List fS)(d:∀ R∈L,R.holds w)(c:(iT L).Nodup)(a:∀ b∈iT L,b<w.heap.size):St [(w,iT L)] L w :=
 ⟨fun p hp=>by simp only[lR]at hp;subst hp;exact⟨gA.refl _ _,fun b hb=>.inl hb⟩,d,c,a⟩
theorem St.gD{X:List Nat}(h:St bs L w)(hb:(w0,X)∈bs):gA X w0 w:=(h.base _ hb).gD
theorem St.keep{X:List Nat}(h:St bs L w)(hb:(w0,X)∈bs){b:Nat}(c:b<w0.heap.size)(a:b∉X):w.heap[b]? = w0.heap[b]? :=
 (h.base _ hb).gD.block b c a
theorem St.Ij{X:List Nat}(h:St bs L w)(hb:(w0,X)∈bs){a:Addr}{v:Value}(b:w0.cell? a=some v)(c:a.block∉X):w.cell? a=some v :=
 (World.cell?_of_block (h.keep hb (World.block_lt_of_cell? w0 a b) c)).trans b
theorem mY(R:fS)(L:List fS):iT (R :: L)=R.gJ++iT L:=by simp[iT]
theorem rY{R:fS}{L:List fS}{i:Nat}(hi:L[i]? = some R){b:Nat}(hb:b∈R.gJ):b∈iT L :=
 qA.2 ⟨R,zd hi,hb⟩
theorem St.iN{i:Nat}{R R' : fS}(h:St bs L w)(hi:L[i]? = some R)(k:gA R.gJ w w')(t:∀ b∈R'.gJ,b∈R.gJ\/w.heap.size<=b)
 (E:R'.gJ.Nodup) (r:∀ b∈R'.gJ,b<w'.heap.size) (F:R'.holds w'):St bs (L.set i R') w' := by
 obtain⟨f,j,rfl,D⟩:∃ f j,L=f++R :: j/\f.length=i:=by
  have r:=(zk.1 hi).1
  refine⟨L.take i,L.drop (i+1),?_,by simp;omega⟩
  have:=(zk.1 hi).2
  rw[<-this,<-Bw r,vu]
 have G:(f++R :: j).set i R' = f++R' :: j:=by rw[<-D];simp
 have g:∀ R:fS,iT (f++R :: j)=iT f++(R.gJ++iT j):=fun R=>by simp[iT]
 rw[G]
 have y:=h.sep
 rw[g,zu]at y
 obtain⟨n1,A,B⟩:=y
 rw[zu]at A
 obtain⟨J,H,I⟩:=A
 have m:∀ b,b∈iT f\/b∈iT j->b<w.heap.size/\b∉R.gJ:=by
  intro b hb
  refine⟨h.lt b (by rw[g];simp only[zr];rcases hb with hb|hb<;>simp[hb]),fun o=>?_⟩
  rcases hb with hb|hb
  . exact B b hb b (by simp[o]) rfl
  . exact I b o b hb rfl
 have u:∀ b,b∈iT f\/b∈iT j->w'.heap[b]? = w.heap[b]? := fun b hb=>k.block b (m b hb).1 (m b hb).2
 refine⟨fun p hp=>?_,fun X s=>?_,?_,?_⟩
 . have hb:=h.base p hp
   refine⟨⟨k.os.trans hb.gD.os,k.tape.trans hb.gD.tape,k.output.trans hb.gD.output,lq hb.gD.size k.size,fun b v z=>?_⟩,fun b q => ?_⟩
   . refine(k.block b (oC v hb.gD.size) (fun o=>?_)).trans (hb.gD.block b v z)
     rcases hb.mine b (by rw[g];simp[o])with d|d
     . exact z d
     . omega
   . rw[g]at q
     simp only[zr]at q
     rcases q with d|d|d
     . exact hb.mine b (by rw[g];simp[d])
     . rcases t b d with l|l
       . exact hb.mine b (by rw[g];simp[l])
       . exact .inr (lq hb.gD.size l)
     . exact hb.mine b (by rw[g];simp[d])
 . simp only[zr,zg]at s
   rcases s with d|rfl|d
   . exact X.loc w w' (fun b hb=>u b (.inl (qA.2 ⟨X,d,hb⟩))) (h.own X (by simp[d]))
   . exact F
   . exact X.loc w w' (fun b hb=>u b (.inr (qA.2 ⟨X,d,hb⟩))) (h.own X (by simp[d]))
 . rw[g,zu]
   have x:∀ b,(b∈iT f\/b∈iT j)->∀ c∈R'.gJ,b≠c:=by
    rintro b hb c C rfl
    rcases t b C with l|l
    . exact(m b hb).2 l
    . have:=(m b hb).1;omega
   refine⟨n1,zu.2 ⟨E,H,fun a n b hb e=>x b (.inr hb) a n e.symm⟩,fun a n b hb=>?_⟩
   simp only[zr]at hb
   rcases hb with hb|hb
   . exact x a (.inl n) b hb
   . exact B a n b (by simp[hb])
 . intro b hb
   rw[g]at hb
   simp only[zr]at hb
   rcases hb with d|d|d
   . exact oC (m b (.inl d)).1 k.size
   . exact r b d
   . exact oC (m b (.inr d)).1 k.size
theorem St.grow(h:St bs L w)(a:gA [] w w'):St bs L w' :=
 ⟨fun p hp=>by
  have hb:=h.base p hp
  exact⟨⟨a.os.trans hb.gD.os,a.tape.trans hb.gD.tape,a.output.trans hb.gD.output,lq hb.gD.size a.size,
   fun b d e=>(a.block b (oC d hb.gD.size) s_).trans (hb.gD.block b d e)⟩,hb.mine⟩,
  fun X c=>X.loc w w' (fun b hb=>a.block b (h.lt b (qA.2 ⟨X,c,hb⟩)) s_) (h.own X c),
  h.sep,fun b hb=>oC (h.lt b hb) a.size⟩
theorem St.add{R:fS}{lo:Nat}(h:St bs L w)(g:∀ p∈bs,p.1.heap.size<=lo)(i : ∀ b∈iT L,b<lo)(d:∀ b∈R.gJ,lo<=b)(k:R.gJ.Nodup)(j:∀ b∈R.gJ,b<w.heap.size)(l:R.holds w):St bs (R :: L) w:=by
 refine⟨fun p hp=>⟨(h.base p hp).gD,fun b hb=>?_⟩,fun X c=>?_,?_,?_⟩
 . rw[mY,zr]at hb
   rcases hb with hb|hb
   . exact .inr (lq (g p hp) (d b hb))
   . exact(h.base p hp).mine b hb
 . simp only[zg]at c
   rcases c with rfl|c
   . exact l
   . exact h.own X c
 . rw[mY,zu]
   exact⟨k,h.sep,fun a f b hb e=>by have m:=d a f;have n:=i b hb;omega⟩
 . intro b hb
   rw[mY,zr]at hb
   rcases hb with hb|hb
   . exact j b hb
   . exact h.lt b hb
theorem St.sQ{R:fS}(h:St bs L w)(a:gA [] w w')(c:∀ b∈R.gJ,w.heap.size<=b)(e:R.gJ.Nodup)(d:∀ b∈R.gJ,b<w'.heap.size)(f:R.holds w'):St bs (R :: L) w' :=
 (h.grow a).add (lo:=w.heap.size) (fun p hp=>(h.base p hp).gD.size) h.lt c e d f
theorem St.sub(h:St bs L w)(hs:L'.Sublist L):St bs L' w:=by
 have hm:∀ b∈iT L', b∈iT L:=fun b hb=>by
  obtain⟨X,c,e⟩:=qA.1 hb
  exact qA.2 ⟨X,hs.subset c,e⟩
 refine⟨fun p hp=>⟨(h.base p hp).gD,fun b hb=>(h.base p hp).mine b (hm b hb)⟩,fun X c=>h.own X (hs.subset c),?_,fun b hb=>h.lt b (hm b hb)⟩
 exact h.sep.sublist (by
  clear h hm
  induction hs with
  | slnil=>exact List.Sublist.slnil
  | cons a _ d=>rw[mY];exact d.trans (List.sublist_append_right _ _)
  | cons_cons a _ d=>rw[mY,mY];exact List.Sublist.append_left d _)
theorem St.Ey{i b:Nat}{T:TypeId}{cs:List Value}(h:St bs L w)(hi:L[i]? = some (blk b T cs)):w.heap[b]? = some (.cells cs.toArray T (0,0)) :=
 h.own _ (zd hi)
theorem St.rQ{i b o:Nat}{T:TypeId}{cs:List Value}{v:Value}(h:St bs L w)(hi:L[i]? = some (blk b T cs))(hv:cs[o]? = some v):w.cell? ⟨b,o,none⟩=some v:=by
 rw[cell_of_row w b o cs.toArray T (0,0) (h.Ey hi)]
 simpa using hv
def setAt(cs:List Value)(o:Nat)(vs:List Value):List Value:=cs.take o++vs++cs.drop (o+vs.length)
abbrev TI(P:Program)(t:TypeId)(sz by_:Nat)(z:Value):Prop:=(P.info? t).map (fun i=>(i.size,i.bytes,i.zero))=some (sz,by_,some z)
theorem TI.get{P:Program}{t:TypeId}{sz by_:Nat}{z:Value}(h:TI P t sz by_ z):∃ i,P.info? t=some i/\i.size=sz/\i.bytes=by_/\i.zero=some z:=by
 unfold TI at h
 cases hi:P.info? t with
 | none=>rw[hi]at h;simp at h
 | some i=>rw[hi]at h;simp at h;exact⟨i,rfl,h.1,h.2.1,h.2.2⟩
variable {P:Program} {t:TypeId} {sz by_:Nat} {z:Value}
theorem TI.size(h:TI P t sz by_ z)(w:World):(sizeOf t).run P w = .ok sz w:=by
 obtain⟨i,hi,a,_,_⟩:=h.get
 simp[sizeOf,typeInfo,hi,a]
theorem TI.zU(h:TI P t sz by_ z)(w:World):(zeroValue t).run P w = .ok z w:=by
 obtain⟨i,hi,_,_,a⟩:=h.get
 simp[zeroValue,typeInfo,hi,a]
def j9:TypeDesc->Bool
 | .struct _ | .array _ _=>true
 | _=>false
section
variable {r:Option Nat} {ops:Array Oper} {Q:Exit->Act->World->Prop} {rest:List Oper} {n:Nat} {s:List (Nat×Value)} {ds:List Deferred}
variable {d:Nat} {ty:TypeId} {pos:String} {af:Array Edge} {g:Option (Nat×Bool)} {v:Value} {x y:Operand} {u:TypeDesc}
theorem wU(a:P.underlying t=some u)(w:World):(isAgg t).run P w = .ok (j9 u) w:=by
 unfold isAgg
 cases u<;>simp[run_underlying a,j9]
theorem mK{a:Addr}(d:ev n s x = .pointer (some a))(c:P.underlying t=some u)(b:j9 u=false)(hv:w.cell? a=some v){dd:Option Nat} :
 (execOp (ev n s) ⟨dd,.load t x,ty,pos,af,g⟩).run P w = .ok (.value v) w:=by
 simp only[execOp,d,Instr.loadAt,Instr.sureAddr,loadVar,zy,jS,zp,wU c,b]
 simp[load,Sem.run,hv]
theorem ld{a:Addr}(b:gE ops n s g=true)(f:ev n s x = .pointer (some a))(e:P.underlying t=some u)(c:j9 u=false)(hv:w.cell? a=some v)
 (K:WL r P ops Q rest (Fr n ((d,v) :: s) ds) w) :
 WL r P ops Q (⟨some d,.load t x,ty,pos,af,g⟩ :: rest) (Fr n s ds) w:=pv b rfl (mK f e c hv) K
theorem tM{b o:Nat}{cs:List Value}(h:ev n s x = .pointer (some ⟨b,o,none⟩))(f:P.underlying t=some u)(d:j9 u=true)(e:TI P t sz by_ z)
 (c:cs.length=sz) (hv:∀ j u,cs[j]? = some u->w.cell? ⟨b,o+j,none⟩=some u) {dd:Option Nat} :
 (execOp (ev n s) ⟨dd,.load t x,ty,pos,af,g⟩).run P w = .ok (.value (.agg cs.toArray)) w:=by
 subst c
 have:=run_loadCells_list (P:=P) w ⟨b,o,none⟩ cs (fun j u a=>by rw[Addr.add_lit];exact hv j u a)
 simp only[execOp,h,Instr.loadAt,Instr.sureAddr,loadVar,zy,jS,zp,wU f,d,e.size,this,if_true]
theorem uR{b o:Nat}{cs:List Value}(a:gE ops n s g=true)(i:ev n s x = .pointer (some ⟨b,o,none⟩))(h:P.underlying t=some u)(e:j9 u=true)(f:TI P t sz by_ z)
 (c:cs.length=sz) (hv:∀ j u,cs[j]? = some u->w.cell? ⟨b,o+j,none⟩=some u)
 (K:WL r P ops Q rest (Fr n ((d,.agg cs.toArray) :: s) ds) w) :
 WL r P ops Q (⟨some d,.load t x,ty,pos,af,g⟩ :: rest) (Fr n s ds) w:=pv a rfl (tM i h e f c hv) K
theorem St.Ig{i b o:Nat}{T:TypeId}{cs:List Value}{vs:List Value}(h:St bs L w)(hi:L[i]? = some (blk b T cs))(hv:(cs.drop o).take vs.length=vs) :
 ∀ j u,vs[j]? = some u->w.cell? ⟨b,o+j,none⟩=some u:=by
 intro j u a
 refine h.rQ hi ?_
 rw[<-hv,vD]at a
 split at a
 . simpa using a
 . cases a
theorem Gd{b o:Nat}{T:TypeId}{cs cs' vs:List Value}(i:Nat)(k:gE ops n s g=true)(q:ev n s x = .pointer (some ⟨b,o,none⟩))(u:ev n s y=v)(hvs:v.cells.toList=vs)
 (p:TI P t sz by_ z) (m:vs.length=sz) (h1:vs.all (·.oneCell')=true) (f:St bs L w) (hi:L[i]? = some (blk b T cs)) (j:Nat.ble (o+vs.length) cs.length=true)
 (hcs:setAt cs o vs=cs') (h:L.set i (blk b T cs')=L')
 (K:∀ w', St bs L' w' -> WL r P ops Q rest (Fr n s ds) w'):WL r P ops Q (⟨none,.store t x y,ty,pos,af,g⟩ :: rest) (Fr n s ds) w:=by
 have d:=f.Ey hi
 have e:=run_storeCells_at P b o T vs 0 cs.toArray w d (by simpa using pq j) (by simpa using h1)
 have l:v.cells.size=sz:=by rw[<-m,<-hvs];simp
 refine Dw (w' := w.setRow b (cs'.toArray)) k rfl ?_ ?_
 . simp only[execOp,q,u,Instr.storeAt,Instr.sureAddr,storeVar,zy,jS,zp,p.size,l,ne_eq,not_true,if_false,hvs]
   subst hcs
   simp only[qD]at e
   simp[e,setAt]
 . subst h
   refine K _ ?_
   refine f.iN hi (gA.setRow w b _) (fun c a=>.inl a) (by simp[blk]) (fun c a=>?_) (setRow_heap w b cs.toArray cs'.toArray T (0,0) d)
   simp only[blk,lR]at a
   subst a
   simpa using(p5.1 d).1
theorem yK{bs:List (World×List Nat)}{L:List fS}(a:St bs L w)(T:TypeId)(cs:List Value):St bs (blk w.heap.size T cs :: L) (w.alloc (.cells cs.toArray T)) :=
 a.sQ (gA.alloc [] w _) (fun b hb=>by simp[blk]at hb;omega) (by simp[blk]) (fun b hb=>by simp[blk]at hb;simp;omega) (heap_alloc_new w _)
theorem al{cs:List Value}(a:gE ops n s g=true)(e:TI P t sz by_ z)(hcs:z.cells.toList=cs)(c:St bs L w)
 (K:∀ b w', w.heap.size<=b->gA [] w w' -> St bs (blk b t cs :: L) w' -> WL r P ops Q rest (Fr n ((d,.pointer (some ⟨b,0,none⟩)) :: s) ds) w') :
 WL r P ops Q (⟨some d,.alloc t,ty,pos,af,g⟩ :: rest) (Fr n s ds) w:=by
 subst hcs
 refine pv (w' := w.alloc (.cells z.cells t)) a rfl ?_ (K _ _ (zo _) (gA.alloc [] w _) ?_)
 . simp only[execOp,Instr.alloc,zy,e.zU,zp]
   rfl
 . have:=yK c t z.cells.toList
   simpa using this
theorem bx{cs:List Value}(a:gE ops n s g=true)(e:ev n s x=v)(hcs:v.cells.toList=cs)(c:St bs L w)
 (K:∀ b w', w.heap.size<=b->gA [] w w' -> St bs (blk b t cs :: L) w' -> WL r P ops Q rest (Fr n ((d,.pointer (some ⟨b,0,none⟩)) :: s) ds) w') :
 WL r P ops Q (⟨some d,.box t x,ty,pos,af,g⟩ :: rest) (Fr n s ds) w:=by
 subst hcs
 refine pv (w' := w.alloc (.cells v.cells t)) a rfl ?_ (K _ _ (zo _) (gA.alloc [] w _) ?_)
 . simp only[execOp,e,Instr.box]
   rfl
 . have:=yK c t v.cells.toList
   simpa using this
theorem uM{T:TypeId}{i b o o' szf byf:Nat}{zf:Value}{fields:Array Field}{f:Field}(h:ev n s x = .pointer (some ⟨b,o,none⟩))(a:P.underlying T=some (.struct fields))
 (c:fields[i]? = some f) (e:TI P f.type (szf+1) byf zf) (d:o+f.offset=o') {dd:Option Nat} :
 (execOp (ev n s) ⟨dd,.fieldAddr T x i,ty,pos,af,g⟩).run P w = .ok (.value (.pointer (some ⟨b,o', none⟩))) w:=by subst d;simp[execOp,h,Instr.fieldAt,run_underlying a,c,Instr.sureAddr,fieldPlace,e.size,Addr.add_lit]
theorem fa{T:TypeId}{i b o o' szf byf:Nat}{zf:Value}{fields:Array Field}{f:Field}(e:gE ops n s g=true)(k:ev n s x = .pointer (some ⟨b,o,none⟩))(a:P.underlying T=some (.struct fields))
 (c:fields[i]? = some f) (j:TI P f.type (szf+1) byf zf) (h:o+f.offset=o') (K:WL r P ops Q rest (Fr n ((d,.pointer (some ⟨b,o', none⟩)) :: s) ds) w) :
 WL r P ops Q (⟨some d,.fieldAddr T x i,ty,pos,af,g⟩ :: rest) (Fr n s ds) w:=pw e (fun _=>uM k a c j h) K
theorem Jp{T e:TypeId}{k:IntKind}{b o m c o' : Nat}{i:Int}(j:ev n s x = .slice (some ⟨b,o,none⟩) m c)(l:ev n s y = .int k i)(d:P.underlying T=some (.slice e))
 (h:TI P e sz by_ z) (a:0<=i/\i<m) (f:o+i.toNat*sz=o') {dd:Option Nat} :
 (execOp (ev n s) ⟨dd,.indexAddr T x y,ty,pos,af,g⟩).run P w = .ok (.value (.pointer (some ⟨b,o', none⟩))) w:=by subst f;simp[execOp,j,l,Instr.indexAt,run_underlying d,asIntOf,a,h.size,Addr.add_lit]
theorem jk{T e:TypeId}{k:IntKind}{b o m c o' : Nat}{i:Int}(h:gE ops n s g=true)(p:ev n s x = .slice (some ⟨b,o,none⟩) m c)(q:ev n s y = .int k i)(f:P.underlying T=some (.slice e))
 (l:TI P e sz by_ z) (a:0<=i/\i<m) (j:o+i.toNat*sz=o') (K:WL r P ops Q rest (Fr n ((d,.pointer (some ⟨b,o', none⟩)) :: s) ds) w) :
 WL r P ops Q (⟨some d,.indexAddr T x y,ty,pos,af,g⟩ :: rest) (Fr n s ds) w:=pw h (fun _=>Jp p q f l a j) K
end
end Go.Sx
namespace Go.Sx
open Go
def gZ(k:IntKind)(x:Int):Prop:=k.min<=x/\x<=k.max
theorem gZ.i64{x:Int}(h:gZ .i64 x) : -9223372036854775808<=x/\x<=9223372036854775807:=h
def Sl{α:Type}(sz:Nat)(enc:World->α->List Value->Prop)(ok:Nat->Prop)(w:World)(v:Value)(xs:List α):Prop :=
 ∃ a c,v = .slice a xs.length c/\xs.length<=c/\c<=maxLen/\∀ i x,xs[i]? = some x->∃ b o vs,a=some ⟨b,o,none⟩/\ok b/\vs.length=sz/\enc w x vs/\∀ j u,vs[j]? = some u->w.cell? ⟨b,o+i*sz+j,none⟩=some u
def encI(k:IntKind)(_:World)(x:Int)(vs:List Value):Prop:=vs=[.int k x]/\gZ k x
abbrev Ints(k:IntKind)(ok:Nat->Prop)(w:World)(v:Value)(xs:List Int):Prop:=Sl 1 (encI k) ok w v xs
section
variable {α:Type} {sz:Nat} {enc:World->α->List Value->Prop} {ok ok' : Nat->Prop} {w w' w0:World} {v:Value} {xs:List α}
theorem Sl.nil(sz:Nat)(enc:World->α->List Value->Prop)(ok:Nat->Prop)(w:World):Sl sz enc ok w (.slice none 0 0) [] :=
 ⟨none,0,rfl,zo _,oO _,fun i x h=>by simp at h⟩
theorem Sl.len(h:Sl sz enc ok w v xs):xs.length<=9223372036854775807:=by
 obtain⟨a,c,_,d,b,_⟩:=h
 simp only[maxLen]at b;omega
theorem Sl.mono(h:Sl sz enc ok w v xs)(j:∀ b,ok b->ok' b):Sl sz enc ok' w v xs:=by
 obtain⟨a,c,e,d,f,g⟩:=h
 exact⟨a,c,e,d,f,fun i x hi=>let ⟨b,o,vs,ha,hb,rest⟩:=g i x hi;⟨b,o,vs,ha,j b hb,rest⟩⟩
theorem Sl.any(h:Sl sz enc ok w v xs):Sl sz enc (fun _=>True) w v xs:=h.mono fun _ _=>trivial
theorem Sl.to(h:Sl sz enc ok w v xs)(hk:∀ b,ok b->b<w.heap.size->w'.heap[b]? = w.heap[b]?)(m:∀ x vs,x∈xs->enc w x vs->enc w' x vs)(hp:0<sz):Sl sz enc ok w' v xs:=by
 obtain⟨a,c,e,d,f,g⟩:=h
 refine⟨a,c,e,d,f,fun i x hi=>?_⟩
 obtain⟨b,o,vs,k,hb,p,q,l⟩:=g i x hi
 refine⟨b,o,vs,k,hb,p,m x vs (zd hi) q,fun j u n=>?_⟩
 have:=l j u n
 exact(World.cell?_of_block (hk b hb (World.block_lt_of_cell? w _ this))).trans this
theorem Ints.to{k:IntKind}{xs:List Int}(h:Ints k ok w v xs)(hk:∀ b,ok b->b<w.heap.size->w'.heap[b]? = w.heap[b]?):Ints k ok w' v xs :=
 Sl.to h hk (fun _ _ _ h=>h) d_
theorem St.ints{k:IntKind}{xs:List Int}{X:List Nat}{bs:List (World×List Nat)}{L:List fS}(h:St bs L w)(hb:(w0,X)∈bs)(a:Ints k ok w0 v xs)(e:∀ b,ok b->b∉X):Ints k ok w v xs :=
 Ints.to a fun b c d=>h.keep hb d (e b c)
theorem St.Fb{k:IntKind}{xs:List Int}{bs:List (World×List Nat)}{L:List fS}(h:St bs L w)(hb:(w0,[])∈bs)(a:Ints k ok w0 v xs):Ints k ok w v xs :=
 h.ints hb a fun _ _=>mz
end
theorem Kn{w:World}{e:TypeId}{sz m b:Nat}{v:Value}{xs:List Value}(h:w.ownsRow 0 e sz v m xs)(hb:v.ownBlock=some b):b<w.heap.size:=(h.lt b hb).2
theorem aea{P:Program}{w:World}{t ty e:TypeId}{i:TypeInfo}(d:P.underlying t=some (.slice e))(hi:P.info? e=some i){v:Value}{m:Nat}{xs:List Value}{sz:Nat}(h:w.ownsRow 0 e sz v m xs)
 {a:Option Addr} {c:Nat}:(Builtin.append_ #[t,t] ty #[v,.slice a 0 c]).run P w = .ok v w:=by
 have b:(Builtin.firstCells i.size 0 (.slice a 0 c)).run P w = .ok #[] w:=by
  cases a with
  | none=>simp[Builtin.firstCells]
  | some a=>simp[Builtin.firstCells,loadCells,loadCellsFrom]
 rcases h.2 with ⟨rfl,rfl⟩|⟨g,j,cur,rfl,_,k,f,_,_,_⟩
 . simp[Builtin.append_,run_underlying d,sizeOf,typeInfo,hi,Builtin.lenOf,b]
 . simp[Builtin.append_,run_underlying d,sizeOf,typeInfo,hi,Builtin.lenOf,b,f,storeCells]
def Src(w:World)(u:Value)(sz cnt:Nat)(news:List Value):Prop :=
 ∃ a c,u = .slice a cnt c/\news.length=cnt*sz/\∀ j x,news[j]? = some x->∃ ad,a=some ad/\w.cell? (ad.add j)=some x
theorem ad9{P:Program}{w:World}{t ty e:TypeId}{sz by_:Nat}{z:Value}(n:P.underlying t=some (.slice e))(hi:TI P e sz by_ z)(K:z.cells.size=sz)(C:0<sz)
 {v u:Value} {m cnt:Nat} {xs news:List Value} (d:w.ownsRow 0 e sz v m xs) (hs:Src w u sz cnt news) (h1:∀ x∈news,x.oneCell' = true) (hb:(m+cnt)*by_<=140737488355328) (s:m+cnt<=maxLen) :
 ∃ v' w', (Builtin.append_ #[t,t] ty #[v,u]).run P w = .ok v' w' /\ w'.ownsRow 0 e sz v' (m+cnt) (xs++news)/\gA v.ownBlock.toList w w' /\ (∀ b,v'.ownBlock=some b->(v.ownBlock=some b\/w.heap.size<=b)/\b<w'.heap.size) /\
  (v' = .slice none 0 0↔v = .slice none 0 0/\cnt=0):=by
 obtain⟨i,l,rfl,rfl,y⟩:=hi.get
 obtain⟨a,c,rfl,k,B⟩:=hs
 by_cases h0:cnt=0
 . subst h0
   have J:news=[]:=um (by simpa using k)
   subst J
   exact⟨v,w,aea n l d,by simpa using d,gA.refl _ _,fun b hb=>⟨.inl hb,Kn d hb⟩,s_⟩
 . have Q:0<news.length:=by rw[k];exact Nat.mul_pos o_ C
   obtain⟨ad,rfl,_⟩:=B 0 news[0] s_
   have p : ∀ j x,news[j]? = some x->w.cell? (ad.add j)=some x:=fun j x I=>by
    obtain⟨L, e,h⟩:=B j x I
    cases e;exact h
   obtain⟨v', w', q,A,D,E⟩:=run_append_own (P:=P) w 0 t ty e i z i.size i.bytes n l y rfl rfl K C v m xs d ad cnt c news k p h1 s hb (oO _)
   refine⟨v', w', q,A,gA.acm D,fun b o => ⟨?_,Kn A o⟩,by simpa[h0]using E⟩
   rcases d.2 with ⟨rfl,rfl⟩|⟨g,r,cur,rfl,M,H,O,N,F,R⟩
   . have S:xs=[]:=um (by simpa using d.1)
     have f := run_append_nil (P:=P) w t ty e i z n l y ad cnt c news k p o_ (by simp only[maxLen]at s;omega) (by simp only[lS]at hb;omega)
     rw[q]at f
     cases f
     right
     simp only[Value.ownBlock,Option.some.injEq]at o
     omega
   . by_cases hroom:m+cnt<=r
     . have G:m*i.size+news.length<=cur.size:=by rw[k,F,<-sI];exact DI _ hroom
       have f := run_append_room (P:=P) w t ty e i n l g m r cur H ad cnt c news k p h1 hroom G
       rw[q]at f
       cases f
       left
       simpa[Value.ownBlock]using o
     . have holds:∀ j u,xs[j]? = some u->w.cell? ((⟨g,0,none⟩:Addr).add j)=some u:=d.cells (g:=g) rfl
       have f := run_append_grow (P:=P) w t ty e i z n l y ⟨g,0,none⟩ m r xs d.1 holds ad cnt c news k p o_ (by simp only[maxLen]at s;omega) (growslice_fits o_ hb)
       rw[q]at f
       cases f
       right
       simp only[Value.ownBlock,Option.some.injEq]at o
       omega
section
variable {r:Option Nat} {P:Program} {ops:Array Oper} {Q:Exit->Act->World->Prop} {rest:List Oper} {n:Nat} {s:List (Nat×Value)} {ds:List Deferred} {w:World}
variable {d:Nat} {ty:TypeId} {pos:String} {af:Array Edge} {g:Option (Nat×Bool)} {v u:Value} {x y:Operand} {bs:List (World×List Nat)} {L L' : List fS} {t e:TypeId} {sz by_ m cnt:Nat} {z:Value} {xs news:List Value}
theorem Nt(i:Nat)(p:gE ops n s g=true)(D:ev n s x=v)(E:ev n s y=u)(C:P.underlying t=some (.slice e))(hi:TI P e sz by_ z)(F:z.cells.size=sz)(B:0<sz)
 (k:St bs L w) (j:L[i]? = some (row v e sz m xs)) (hs:Src w u sz cnt news) (h1:∀ x∈news,x.oneCell' = true) (hb:(m+cnt)*by_<=140737488355328) (o:m+cnt<=maxLen)
 (K:∀ v' w', St bs (L.set i (row v' e sz (m+cnt) (xs++news))) w' -> gA v.ownBlock.toList w w' -> WL r P ops Q rest (Fr n ((d,v') :: s) ds) w') :
 WL r P ops Q (⟨some d,.call ⟨.builtin .append,#[x,y],#[t,t]⟩,ty,pos,af,g⟩ :: rest) (Fr n s ds) w:=by
 have q:w.ownsRow 0 e sz v m xs:=k.own _ (zd j)
 obtain⟨v', w', A,l,c,f,_⟩:=ad9 (ty:=ty) C hi F B q hs h1 hb o
 refine pv p rfl (v:=v') (w' := w') (by simp only[execOp,resolve,invoke,builtin,zy,jS,zp,List.map_toArray,kr,zdt,D,E,A]) (K v' w' ?_ c)
 refine k.iN j c (fun b a => ?_) ?_ (fun b a => ?_) l
 . simp only[row,Option.mem_toList]at a
   rcases(f b a).1 with h|h
   . exact .inl (by simp[row,h])
   . exact .inr h
 . show v'.ownBlock.toList.Nodup
   cases v'.ownBlock<;>simp
 . simp only[row,Option.mem_toList]at a
   exact(f b a).2
theorem jm(i:Nat)(a:gE ops n s g=true)(c:ev n s x=v)(b:P.underlying t=some (.slice e))(j:St bs L w)(f:L[i]? = some (row v e sz m xs))
 (K:WL r P ops Q rest (Fr n ((d,.int .i64 m) :: s) ds) w):WL r P ops Q (⟨some d,.call ⟨.builtin .len,#[x],#[t]⟩,ty,pos,af,g⟩ :: rest) (Fr n s ds) w:=by
 have h:w.ownsRow 0 e sz v m xs:=j.own _ (zd f)
 rcases h.2 with ⟨rfl,rfl⟩|⟨l, k,cur,rfl,_⟩
 . exact Fk a c b K
 . exact Fk a c b K
theorem k6{α:Type}{enc:World->α->List Value->Prop}{ok:Nat->Prop}{w0:World}{ys:List α}(f:gE ops n s g=true)(i:ev n s x=v)(h:P.underlying t=some (.slice e))(b:Sl sz enc ok w0 v ys)
 (K:WL r P ops Q rest (Fr n ((d,.int .i64 ys.length) :: s) ds) w):WL r P ops Q (⟨some d,.call ⟨.builtin .len,#[x],#[t]⟩,ty,pos,af,g⟩ :: rest) (Fr n s ds) w:=by
 obtain⟨a,c,rfl,_⟩:=b
 exact Fk f i h K
theorem CB{k k' : IntKind}{ok:Nat->Prop}{ys:List Int}{i:Int}{el:Int}(p:gE ops n s g=true)(B:ev n s x=v)(C:ev n s y = .int k' i)(A:P.underlying t=some (.slice e))(hi:TI P e 1 by_ z)
 (l:Ints k ok w v ys) (h:0<=i) (f:ys[i.toNat]? = some el)
 (K:∀ b o,w.cell? ⟨b,o,none⟩=some (.int k el)->gZ k el->ok b->WL r P ops Q rest (Fr n ((d,.pointer (some ⟨b,o,none⟩)) :: s) ds) w) :
 WL r P ops Q (⟨some d,.indexAddr t x y,ty,pos,af,g⟩ :: rest) (Fr n s ds) w:=by
 have E:=(zk.1 f).1
 obtain⟨a,c,rfl,_,_,j⟩:=l
 obtain⟨b,o,vs,rfl,u,D,⟨rfl,q⟩,m⟩:=j i.toNat el f
 refine jk p B C A hi ⟨h,o_⟩ rfl (K b _ ?_ q u)
 have:=m 0 (.int k el) s_
 simpa using this
end
end Go.Sx
namespace Go.Sx
open Go
def iX(S:Nat->Bool):Nat->List Oper->List Value->List (Nat×Value)->List (Nat×Value)
 | i,o :: l,v :: vs,s=>iX S (i+1) l vs (bif S i then kI o.dst v s else s)
 | _,_,_,s=>s
def ng(S:Nat->Bool)(t:Nat):Nat->List Oper->List Value->Option Value
 | i,o :: l,v :: vs=>match ng S t (i+1) l vs with
  | some u=>some u
  | none=>bif S i&&(o.dst==some t)then some v else none
 | _,_,_=>none
theorem JM(d:Option Nat)(v:Value)(s:List (Nat×Value))(t:Nat):look (kI d v s) t=if d=some t then v else look s t:=by
 cases d with
 | none=>simp[kI]
 | some i=>simp only[kI,CL,Option.some.injEq]
theorem o6(S:Nat->Bool)(t:Nat)(l:List Oper):∀ (i:Nat) (vs:List Value) (s:List (Nat×Value)),look (iX S i l vs s) t=(ng S t i l vs).getD (look s t):=by
 induction l with
 | nil=>intro i vs s;cases vs<;>simp[iX,ng]
 | cons o l a =>
  intro i vs s
  cases vs with
  | nil=>simp[iX,ng]
  | cons v vs =>
   simp only[iX,ng]
   rw[a]
   cases ng S t (i+1) l vs with
   | some u=>rfl
   | none =>
    simp only[Option.getD_none]
    cases hS:S i with
    | false=>simp
    | true =>
     simp only[cond_true,Bool.true_and,JM]
     by_cases hd:o.dst=some t
     . simp[hd]
     . have:(o.dst==some t)=false:=by simpa using hd
       simp[hd,this]
theorem AO{S b : Nat->Bool}{t:Nat}(l:List Oper):∀ (i:Nat) (vs a : List Value),vs.length=a.length ->
 (∀ j o,l[j]? = some o->o.dst=some t->S (i+j)=b (i+j)/\(S (i+j)=true->vs[j]? = a[j]?))->ng S t i l vs=ng b t i l a := by
 induction l with
 | nil=>intro i vs a _ _;cases vs<;>cases a <;> simp[ng]
 | cons o l k =>
  intro i vs a d h
  cases vs with
  | nil =>
   cases a with
   | nil=>simp[ng]
   | cons v' a => simp at d
  | cons v vs =>
   cases a with
   | nil=>simp at d
   | cons v' a =>
    simp only[ng]
    rw[k (i+1) vs a (by simpa using d) (fun j m g hd=>by
     have:=h (j+1) m (by simpa using g) hd
     rw[show i+1+j=i+(j+1) by omega]
     simpa using this)]
    cases ng b t (i+1) l a with
    | some u=>rfl
    | none =>
     simp only
     by_cases hd:o.dst=some t
     . have:=h 0 o rfl hd
       simp only[qD]at this
       obtain⟨c,e⟩:=this
       rw[c]at e
       cases hS:b i with
       | false=>simp[c,hS]
       | true=>have f:=e hS;simp at f;simp[c,hS,f]
     . have:(o.dst==some t)=false:=by simpa using hd
       simp[this]
theorem CF{S:Nat->Bool}{t:Nat}(l:List Oper):∀ (i:Nat) (vs:List Value),(∀ j o,l[j]? = some o->o.dst=some t->S (i+j)=false)->ng S t i l vs=none:=by
 induction l with
 | nil=>intro i vs _;cases vs<;>simp[ng]
 | cons o l b =>
  intro i vs h
  cases vs with
  | nil=>simp[ng]
  | cons v vs =>
   simp only[ng]
   rw[b (i+1) vs (fun j c a hd=>by rw[show i+1+j=i+(j+1) by omega];exact h (j+1) c (by simpa using a) hd)]
   simp only
   by_cases hd:o.dst=some t
   . have:=h 0 o rfl hd
     simp only[qD]at this
     simp[this]
   . have:(o.dst==some t)=false:=by simpa using hd
     simp[this]
theorem Qo{S:Nat->Bool}{t:Nat}(l:List Oper):∀ (i k:Nat) (vs:List Value) (o:Oper) (v:Value),l[k]? = some o->o.dst=some t->vs[k]? = some v->S (i+k)=true ->
 (∀ j a, k<j->l[j]? = some a -> a.dst=some t->S (i+j)=false)->ng S t i l vs=some v:=by
 induction l with
 | nil=>intro i k vs o v h;simp at h
 | cons n l g =>
  intro i k vs o v e hd hv b f
  cases vs with
  | nil=>simp at hv
  | cons p vs =>
   simp only[ng]
   cases k with
   | zero =>
    simp at e hv
    subst e hv
    rw[CF l (i+1) vs (fun j a d c => by rw[show i+1+j=i+(j+1) by omega];exact f (j+1) a o_ (by simpa using d) c)]
    simp only[qD]at b
    simp[b,hd]
   | succ k =>
    rw[g (i+1) k vs o v (by simpa using e) hd (by simpa using hv) (by rw[show i+1+k=i+(k+1) by omega];exact b)
     (fun j a m d c => by rw[show i+1+j=i+(j+1) by omega];exact f (j+1) a o_ (by simpa using d) c)]
def FQ(l:List Oper)(pre:List (List Nat)):Bool :=
 (List.range l.length).all fun j=>(pre.getD j []).all fun i=>(l[j]?).any fun o=>o.after.toList.any fun e=>Region.binds .any e&&decide (e.on<j)&&(e.on==i||(pre.getD e.on []).contains i)
def nq(ops:Array Oper)(x y:Oper):Bool :=
 match x.dst with
 | some d=>(y.looksAt ops).contains d||y.dst==some d
 | none=>false
def Fc:Op->Bool
 | .select _ _=>true
 | _=>false
def FY(l:List Oper)(pre:List (List Nat))(mem:List Nat):Bool :=
 FQ l pre &&
 (l.all fun o => !Fc o.op) &&
 ((List.range l.length).all fun j=>(l[j]?).all fun o=>o.after.toList.all fun e => !Region.binds .any e||decide (e.on<j)) &&
 ((
  List.range l.length).all fun j=>(List.range j).all fun i =>
  match l[i]?,l[j]? with
  | some x,some y => !(nq l.toArray x y||nq l.toArray y x||(mem.contains i&&mem.contains j))||(pre.getD j []).contains i
  | _,_=>true) &&
 (mem.all fun m=>decide (m<l.length)) &&
 decide (mem.Pairwise (· < ·))
def uS(pre:List (List Nat))(mem:List Nat)(i:Nat):Nat:=mem.countP fun m=>(pre.getD i []).contains m
def uP(pre:List (List Nat))(mem:List Nat)(i:Nat):Nat:=mem.countP fun m => !(pre.getD m []).contains i
section
variable {Γ:Type} (P:Program) (ops:Array Oper) (Q:Exit->Act->World->Prop) (n:Nat) (ds:List Deferred) (s0:List (Nat×Value))
def mE(o:Oper)(s:List (Nat×Value))(v:Value)(C:World->Prop)(w:World):Prop :=
 (gE ops n s o.guard=true/\nM o.op=true/\((execOp (ev n s) o).run P w = .ok (.value v) w\/∃ f args,(execOp (ev n s) o).run P w = .ok (.enter f args) w/\CR P f args w (fun v' w' => v' = v/\C w')))
 \/ (gE ops n s o.guard=false/\v=undef)
def nC(l:List Oper)(o:Oper)(s:List (Nat×Value))(Nx:Value->World->Prop)(w:World):Prop :=
 (gE ops n s o.guard=true/\nM o.op=true/\((∃ v w', (execOp (ev n s) o).run P w = .ok (.value v) w' /\ Nx v w')\/(∃ w', (execOp (ev n s) o).run P w = .ok .skip w' /\ Nx undef w') \/
  (∃ f args,(execOp (ev n s) o).run P w = .ok (.enter f args) w/\Calls P f args w (fun e w' => match e with
   | .returned v=>Nx v w'
   | .panicked ch=>∀ s,(∀ t,(∀ o∈l,o.dst≠some t)->look s t=look s0 t)->Q (.panic ch) (Fr n s ds) w'
   | .outgrown=>LetsOut Q))))
 \/ (gE ops n s o.guard=false/\Nx undef w)
def l9(pre:List (List Nat))(i:Nat)(g a : Γ):Nat->List (Γ->Value)->Prop
 | k,v :: vs=>(bif (pre.getD k []).contains i||k==i then True else v a = v g)/\l9 pre i g a (k+1) vs
 | _,[]=>True
def lT(l0:List Oper)(pre:List (List Nat))(mem:List Nat)(V:List (Γ->Value))(M:Nat->Γ->World->Prop):Nat->(Γ->List (Nat×Value))->List Oper->List (Γ->Value)->Prop
 | i,s,o :: l,v :: vs =>
  (
   bif mem.contains i then ∀ g w,M (mem.idxOf i) g w->nC P ops Q n ds s0 l0 o (s g) (fun v' w' => ∃ a, M (mem.idxOf i+1) a w' /\ v' = v a /\ l9 pre i g a 0 V) w
   else ∀ p g w,uS pre mem i<=p->p<=uP pre mem i->M p g w->mE P ops n o (s g) (v g) (M p g) w) /\
  lT l0 pre mem V M (i+1) (fun g=>kI o.dst (v g) (s g)) l vs
 | _,_,[],[]=>True
 | _,_,_,_=>False
end
section
variable {Γ:Type} {r:Option Nat} {P:Program} {Q:Exit->Act->World->Prop} {n:Nat} {ds:List Deferred} {s0:List (Nat×Value)} {l:List Oper} {pre:List (List Nat)} {mem:List Nat} {V:List (Γ->Value)} {M:Nat->Γ->World->Prop}
theorem l9.get{i:Nat}{g d : Γ}:∀ (V:List (Γ->Value)) (b:Nat),l9 pre i g d b V->∀ k v,V[k]? = some v->((pre.getD (b+k) []).contains i||(b+k)==i)=false->v d = v g:=by
 intro V
 induction V with
 | nil=>intro b _ k v h;simp at h
 | cons f V e =>
  intro b h k v c a
  cases k with
  | zero =>
   simp at c
   subst c
   have:=h.1
   simp only[qD]at a
   rw[a]at this
   exact this
  | succ k=>exact e (b+1) h.2 k v (by simpa using c) (by rw[show b+1+k=b+(k+1) by omega];exact a)
theorem lT.get{l0:List Oper}:∀ (l:List Oper) (vs:List (Γ->Value)) (b:Nat) (s:Γ->List (Nat×Value)),lT P l0.toArray Q n ds s0 l0 pre mem V M b s l vs->l.length=vs.length /\
 ∀ k o,l[k]? = some o->∃ v,vs[k]? = some v /\
  (
   bif mem.contains (b+k)then ∀ g w,M (mem.idxOf (b+k)) g w->nC P l0.toArray Q n ds s0 l0 o (iX (fun j=>decide (j<b+k)) b l (vs.map (· g)) (s g)) (fun v' w' => ∃ c, M (mem.idxOf (b+k)+1) c w' /\ v' = v c /\ l9 pre (b+k) g c 0 V) w
   else ∀ p g w,uS pre mem (b+k)<=p->p<=uP pre mem (b+k)->M p g w->mE P l0.toArray n o (iX (fun j=>decide (j<b+k)) b l (vs.map (· g)) (s g)) (v g) (M p g) w):=by
 intro l
 induction l with
 | nil=>intro vs b s h;cases vs with|nil=>exact⟨rfl,fun k o a=>by simp at a⟩|cons v vs=>exact h.elim
 | cons o l d =>
  intro vs b s h
  cases vs with
  | nil=>exact h.elim
  | cons v vs =>
   obtain⟨m,q⟩:=h
   obtain⟨e,r⟩:=d vs (b+1) _ q
   refine⟨by simp[e],fun k x a=>?_⟩
   cases k with
   | zero =>
    simp at a
    subst a
    refine⟨v,rfl,?_⟩
    have hs:∀ g,iX (fun j=>decide (j<b+0)) b (o :: l) ((v :: vs).map (· g)) (s g)=s g:=by
     intro g
     have key:∀ (l:List Oper) (us:List Value) (i:Nat) (s:List (Nat×Value)),b<=i->iX (fun j=>decide (j<b+0)) i l us s=s:=by
      intro l
      induction l with
      | nil=>intro us i s _;cases us<;>rfl
      | cons o l d=>intro us i s hi;cases us with|nil=>rfl|cons u us=>simp only[iX];rw[show decide (i<b+0)=false by simp;omega];exact d us (i+1) s o_
     exact key _ _ _ _ (zo _)
    simp only[hs]
    exact m
   | succ k =>
    obtain⟨v', t, f⟩:=r k x (by simpa using a)
    refine⟨v', by simpa using t, ?_⟩
    rw[show b+1+k=b+(k+1) by omega]at f
    have hs:∀ g,iX (fun j=>decide (j<b+(k+1))) b (o :: l) ((v :: vs).map (· g)) (s g)=iX (fun j=>decide (j<b+(k+1))) (b+1) l (vs.map (· g)) (kI o.dst (v g) (s g)):=by
     intro g
     simp only[kr,iX]
     rw[show decide (b<b+(k+1))=true by simp]
     rfl
    simp only[hs]
    exact f
structure Down (l:List Oper) (S:Nat->Bool):Prop where
 closed:∀ j o,l[j]? = some o->S j=true->∀ e∈o.after,Region.binds .any e=true->S e.on=true
theorem C6{S:Nat->Bool}(hp:FQ l pre=true)(hd:Down l S):∀ j,S j=true->j<l.length->∀ i,(pre.getD j []).contains i=true->S i=true:=by
 intro j
 induction j using Nat.strongRecOn with
 | _ j m =>
  intro g c i hi
  have f:=zt.1 hp j (k9.2 c)
  have a:=zt.1 f i (by simpa using hi)
  rw[zm c]at a
  simp only[Option.any_some,List.any_eq_true,mU,decide_eq_true_eq,BI,beq_iff_eq]at a
  obtain⟨e,h,⟨hb,k⟩,b⟩:=a
  have d:=hd.closed j _ (zm c) g e (by simpa using h) hb
  rcases b with rfl|b
  . exact d
  . exact m e.on k d o_ i (by simpa using b)
theorem Wa{S:Nat->Bool}{i:Nat}:∀ (mem:List Nat),mem.Pairwise (· < ·)->i∈mem->(∀ m∈mem,m<i->S m=true)->S i=false->(∀ m∈mem,i<m->S m=false) ->
 mem.countP S=mem.idxOf i/\mem.countP (fun j=>S j||j==i)=mem.idxOf i+1:=by
 intro mem
 induction mem with
 | nil=>intro _ h;simp at h
 | cons m mem p =>
  intro hp hi d f g
  rw[tj]at hp
  by_cases e:m=i
  . subst e
    have l:∀ x∈mem,S x=false:=fun x c=>g x (by simp[c]) (hp.1 x c)
    have o : ∀ x∈mem,(S x||x==m)=false:=fun x c=>by
     have:=hp.1 x c
     simp[l x c];omega
    rw[xm,xm,BB.2 (fun x c=>by simp[l x c]),BB.2 (fun x c=>by rw[o x c];simp)]
    simp[f]
  . have k:i∈mem:=by simpa[Ne.symm e]using hi
    have n:=hp.1 i k
    obtain⟨a,b⟩:=p hp.2 k (fun x c=>d x (by simp[c])) f (fun x c=>g x (by simp[c]))
    have hm:=d m s_ n
    rw[xm,xm,a,b,List.idxOf_cons]
    have:(m==i)=false:=by simpa using e
    simp[hm,this]
theorem I5(a:Array Bool)(i j:Nat)(hi:i<a.size):(a.setIfInBounds i true).getD j false=(a.getD j false||j==i):=by
 by_cases h:i=j
 . subst h;simp[hi]
 . have b : (j==i)=false:=by simpa using Ne.symm h
   simp[b, Array.getElem?_setIfInBounds_ne h]
theorem wo(m j:Nat):(Array.replicate m false).getD j false=false:=by
 rcases xB j m with h|h
 . simp[h]
 . simp[h]
theorem Sp{id:Nat}{w:World}(hm:P.follows .mixedOrders=true)(pre:List (List Nat))(mem:List Nat)(az:FY l pre mem=true)(V:List (Γ->Value))(M:Nat->Γ->World->Prop)(g0:Γ)(sE:Γ->List (Nat×Value))
 (h0:M 0 g0 w.drew) (hO:lT P l.toArray Q n ds s0 l pre mem V M 0 (fun _=>s0) l V) (hE:∀ g,iX (fun _=>true) 0 l (V.map (· g)) s0=sE g)
 (aL:∀ g w', M mem.length g w' -> Q .normal (Fr n (sE g) ds) w'):WP r P (.region id l.toArray true) Q (Fr n s0 ds) w:=by
 simp only[FY,mU]at az
 obtain⟨⟨⟨⟨⟨ap,aT⟩,aI⟩,aK⟩,am⟩,aq⟩:=az
 have aq:=of_decide_eq_true aq
 obtain⟨aZ,aw⟩:=lT.get (l0:=l) l V 0 (fun _=>s0) hO
 simp only[lS]at aw
 -- conflicts are ordered
 have U:∀ i j x y,l[i]? = some x->l[j]? = some y->i<j->(nq l.toArray x y=true\/nq l.toArray y x=true\/(i∈mem/\j∈mem))->(pre.getD j []).contains i=true:=by
  intro i j x y hx hy al h
  have p:j<l.length:=(zk.1 hy).1
  have A:=zt.1 (zt.1 aK j (k9.2 p)) i (k9.2 al)
  simp only[hx,hy]at A
  rcases vw.1 A with q|q
  . exfalso
    have O:(nq l.toArray x y||nq l.toArray y x||(mem.contains i&&mem.contains j))=true:=by
     rcases h with h|h|⟨h,h'⟩<;>simp[h]
     simp[h']
    rw[O]at q
    cases q
  . exact q
 refine wpIn_region_any hm ?_
 have a1:l.toArray.size=l.length:=by simp
 -- the invariant
 let c:Array Bool->Nat->Bool:=fun a i=>a.getD i false
 have aY:∀ (fuel:Nat) (a:Array Bool) (g:Γ) (w:World),a.size=l.length->a.toList.countP (! ·)<=fuel->Down l (c a)->M (mem.countP (c a)) g w ->
  wpAnyIn (FW r) 0 P .any l.toArray Q fuel a (Fr n (iX (c a) 0 l (V.map (· g)) s0) ds) w:=by
  intro fuel
  have fin:∀ (a:Array Bool) (g:Γ) (w:World),a.size=l.length->(∀ i,i<l.length->c a i=true)->M (mem.countP (c a)) g w->Q .normal (Fr n (iX (c a) 0 l (V.map (· g)) s0) ds) w:=by
   intro a g w hs X F
   have e1:mem.countP (c a)=mem.length:=List.countP_eq_length.2 fun m E => X m (by simpa using of_decide_eq_true (zt.1 am m E))
   rw[e1]at F
   have e2:Fr n (iX (c a) 0 l (V.map (· g)) s0) ds=Fr n (sE g) ds:=by
    rw[<-hE g]
    refine vL ds fun t=>?_
    rw[o6,o6]
    congr 1
    refine AO l 0 _ _ rfl fun j o p _=>⟨?_,fun _=>rfl⟩
    rw[lS]
    exact X j (zk.1 p).1
   rw[e2]
   exact aL g w F
  have aD:∀ (a:Array Bool),a.size=l.length->Region.ready .any l.toArray a=[]->∀ i,i<l.length->c a i=true:=by
   intro a hs s i
   induction i using Nat.strongRecOn with
   | _ i ih =>
    intro hi
    cases R:c a i with
    | true=>rfl
    | false =>
     exfalso
     have:i∈Region.ready .any l.toArray a:=by
      rw[mem_ready]
      refine⟨?_,l[i],by simp[hi],fun e D hb=>?_⟩
      . have:i<a.size:=by omega
        simp only[c]at R
        simp[this]at R ⊢
        exact R
      . have A:=zt.1 aI i (k9.2 hi)
        rw[zm hi]at A
        simp only[Option.all_some,zt]at A
        have q:=A e (by simpa using D)
        rw[hb,Bool.not_true,Bool.false_or,decide_eq_true_eq]at q
        exact ih e.on q o_
     rw[s]at this
     cases this
  induction fuel with
  | zero =>
   intro a g w hs R hd F
   have hz:∀ x∈a.toList,x=true:=by
    intro x hx
    have:=BB.1 (Nat.le_zero.1 R) x hx
    simpa using this
   have X:∀ i,i<l.length->c a i=true:=by
    intro i hi
    have ak : i<a.size:=by omega
    simp only[c]
    simp[ak]
    exact hz _ s_
   refine⟨?_,fin a g w hs X F⟩
   cases s:Region.ready .any l.toArray a with
   | nil=>rfl
   | cons i rs =>
    have:i∈Region.ready .any l.toArray a:=by rw[s];simp
    rw[mem_ready]at this
    obtain⟨A,o,ho,_⟩:=this
    have hi:i<l.length:=by simpa using(p5.1 ho).1
    have:=X i hi
    simp only[c]at this
    have ak : i<a.size:=by omega
    simp[ak]at A this
    rw[A]at this
    cases this
  | succ fuel ih =>
   intro a g w hs R hd F
   refine⟨fun s=>fin a g w hs (aD a hs s) F,fun i hi=>?_⟩
   obtain⟨ae,o,ho,au⟩:=mem_ready.1 hi
   have B : l[i]? = some o:=by simpa using ho
   have Y:i<l.length:=(zk.1 B).1
   have ab : i<a.size:=by omega
   have L:c a i=false:=by
    simp only[c];simp[ab]at ae ⊢;exact ae
   -- the set behind it
   let S:=c a
   let J := c (a.setIfInBounds i true)
   have L:S i=false:=L
   have hd:Down l S:=hd
   have H : ∀ j,J j=(S j||j==i):=fun j=>I5 a i j ab
   have aj : Down l J := ⟨fun j C p aa e D hb=>by
    rw[H]at aa ⊢
    rcases vw.1 aa with h|h
    . rw[show S e.on=true from hd.closed j C p h e D hb];rfl
    . have:j=i:=by simpa using h
      subst this
      have:C=o:=Option.some.inj (p.symm.trans B)
      subst this
      rw[show S e.on=true from au e D hb];rfl⟩
   have aB:=fun j=>C6 (S:=S) ap hd j
   have aS := fun j=>C6 (S:=J) ap aj j
   -- what waits for i has not come up
   have T:∀ k,k<l.length->(pre.getD k []).contains i=true->S k=false:=by
    intro k I aP
    cases W:S k with
    | false=>rfl
    | true=>have:=aB k W I i aP;rw[L]at this;cases this
   -- what i waits for has
   have af:∀ k,(pre.getD i []).contains k=true->S k=true:=by
    intro k I
    have A:=aS i (by rw[H];simp) Y k I
    rw[H]at A
    rcases vw.1 A with h|h
    . exact h
    . exfalso
      have e:k=i:=by simpa using h
      subst e
      have:=T k Y I
      -- k is in fP own list: then it has come up before itself
      have q:=zt.1 (zt.1 ap k (k9.2 Y)) k (by simpa using I)
      rw[zm Y]at q
      simp only[Option.any_some,List.any_eq_true,mU,decide_eq_true_eq,BI,beq_iff_eq]at q
      obtain⟨e,D,⟨hb,a0⟩,O⟩:=q
      have aH:S e.on=true:=by
       have:l[k]=o:=by rw[zm Y]at B; exact Option.some.inj B
       rw[this]at D
       exact au e (by simpa using D) hb
      rcases O with O|O
      . omega
      . have:=aB e.on aH o_ k (by simpa using O)
        rw[L]at this;cases this
   -- the slots that it looks at hold what they hold in the order of the text
   have agree:∀ t,t∈o.looksAt l.toArray->look (iX S 0 l (V.map (· g)) s0) t=look (iX (fun j=>decide (j<i)) 0 l (V.map (· g)) s0) t:=by
    intro t G
    rw[o6,o6]
    congr 1
    refine AO l 0 _ _ rfl fun j C p N=>⟨?_,fun _=>rfl⟩
    rw[lS]
    have aC:nq l.toArray C o=true:=by simp[nq,N,G]
    rcases Hj j i with h|h|h
    . simp[h,af j (U j i C o p B h (.inl aC))]
    . subst h;simp[L,S]
    . have:=T j (zk.1 p).1 (U i j o C B p h (.inr (.inl aC)))
      simp[this];omega
   have av:execOp (ev n (iX S 0 l (V.map (· g)) s0)) o=execOp (ev n (iX (fun j=>decide (j<i)) 0 l (V.map (· g)) s0)) o:=by
    refine execOp_congr o (fun cs b e=>?_) fun x hx=>?_
    . have:=zt.1 aT o (zd B)
      rw[e]at this
      simp[Fc]at this
    . cases x with
      | tmp t =>
       simp only[ev]
       rw[agree t (xw _ (Hf.2 ⟨.tmp t,by simpa using hx,rfl⟩))]
      | _=>rfl
   have ad:gE l.toArray n (iX S 0 l (V.map (· g)) s0) o.guard=gE l.toArray n (iX (fun j=>decide (j<i)) 0 l (V.map (· g)) s0) o.guard:=by
    cases hg:o.guard with
    | none=>rfl
    | some gd =>
     obtain⟨jg,a2⟩:=gd
     simp only[gE]
     have e:we l.toArray.toList jg=(l.toArray[jg]?).bind (·.dst):=by rw[IF];simp
     rw[e]
     cases hdg:(l.toArray[jg]?).bind (·.dst)with
     | none=>rfl
     | some d =>
      simp only[ev]
      rw[agree d (xu _ (by rw[hg];simp only;rw[hdg];simp))]
   -- the frame behind it
   have ar:(a.setIfInBounds i true).toList.countP (! ·)<=fuel:=by
    have:(a.setIfInBounds i true).toList.countP (! ·)+1<=a.toList.countP (! ·):=by
     rw[LM]
     have ax:i<a.toList.length:=by simpa using ab
     have aM:a.toList[i]=false:=by simp[ab]at ae;simpa using ae
     have e:=vu i a.toList
     have e2:a.toList=a.toList.take i++false :: a.toList.drop (i+1):=by
      conv=>lhs;rw[<-e,Bw ax,aM]
     have e3:a.toList.set i true=a.toList.take i++true :: a.toList.drop (i+1):=by
      rw[LO,if_pos ax]
     rw[e3]
     conv=>rhs;rw[e2]
     simp[List.countP_append,xm]
     omega
    omega
   have frame:∀ (z : Γ) (v:Γ->Value),V[i]? = some v->(∀ k u,V[k]? = some u->S k=true->u z = u g) ->
    (Fr n (iX S 0 l (V.map (· g)) s0) ds).put o.dst (v z)=Fr n (iX J 0 l (V.map (· z)) s0) ds:=by
    intro z v hv aU
    rw[zX]
    refine vL ds fun t=>?_
    rw[JM,o6,o6]
    by_cases hdt:o.dst=some t
    . rw[if_pos hdt]
      have:ng J t 0 l (V.map (· z))=some (v z):=by
       refine Qo l 0 i _ o (v z) B hdt (by simp[hv]) (by rw[lS,H];simp) fun j C al p N=>?_
       rw[lS,H]
       have aX:nq l.toArray o C=true:=by simp[nq,hdt,N]
       have:=T j (zk.1 p).1 (U i j o C B p al (.inl aX))
       simp[this];omega
      rw[this];rfl
    . rw[if_neg hdt]
      congr 1
      refine AO l 0 _ _ s_ fun j C p N=>?_
      rw[lS,H]
      have aO:¬ j=i:=by
       rintro rfl
       have:C=o:=Option.some.inj (p.symm.trans B)
       subst this
       exact hdt N
      refine⟨by simp[aO],fun aa=>?_⟩
      have ay:j<V.length:=by have:=(zk.1 p).1;omega
      simp only[z7,zm ay,xA]
      rw[aU j _ (zm ay) aa]
   obtain⟨v,hv,ac⟩:=aw i o B
   unfold wpOpIn
   rw[ho]
   simp only
   by_cases himem:i∈mem
   . -- an operation on memory
     have ai:mem.contains i=true:=by simpa using himem
     rw[ai]at ac
     have aA:∀ m∈mem,(m<i->S m=true)/\(i<m->S m=false):=by
      intro m E
      have Z:m<l.length:=of_decide_eq_true (zt.1 am m E)
      exact⟨fun h=>af m (U m i _ o (zm Z) B h (.inr (.inr ⟨E, himem⟩))),
       fun h=>T m Z (U i m o _ B (zm Z) h (.inr (.inr ⟨himem,E⟩)))⟩
     obtain⟨c1,c2⟩:=Wa (S:=S) mem aq himem (fun m E h=>(aA m E).1 h) L (fun m E h=>(aA m E).2 h)
     have aE : mem.countP J = mem.idxOf i+1:=by rw[<-c2];exact List.countP_congr fun j _=>by rw[H]
     have aG : M (mem.idxOf i) g w:=by rw[<-c1];exact F
     have next:∀ v' w', (∃ z, M (mem.idxOf i+1) z w' /\ v' = v z /\ l9 pre i g z 0 V) ->
      wpAnyIn (FW r) 0 P .any l.toArray Q fuel (a.setIfInBounds i true) ((Fr n (iX S 0 l (V.map (· g)) s0) ds).put o.dst v') w' := by
      rintro v' w' ⟨z, ag,rfl,aV⟩
      have:=ih (a.setIfInBounds i true) z w' (by simpa using hs) ar aj (by rw[show mem.countP (c (a.setIfInBounds i true))=mem.idxOf i+1 from aE];exact ag)
      rw[frame z v hv ?_]
      . exact this
      . intro k u I W
        refine l9.get V 0 aV k u I ?_
        rw[lS]
        have aQ:k<l.length:=by have:=(zk.1 I).1;omega
        have A:(pre.getD k []).contains i=false:=by
         cases h:(pre.getD k []).contains i with
         | false=>rfl
         | true=>have:=T k aQ h;rw[W]at this;cases this
        have q:¬ k=i:=by rintro rfl;rw[L]at W;cases W
        rw[A];simp[q]
     rcases ac g w aG with ⟨G,ao,ah⟩|⟨G,K⟩
     . rw[ry,ad,G,if_pos rfl]
       refine⟨fun _ _=>trivial,?_⟩
       rw[semAt_eq (wM ao),pJ, av]
       rcases ah with ⟨v', w', s,K⟩|⟨w', s,K⟩|⟨f,args,s,hC⟩
       . rw[s];exact next v' w' K
       . rw[s];exact next undef w' K
       . rw[s]
         refine⟨fun h=>by simp[FW]at h,uI.2 (Calls.mono hC ?_)⟩
         intro e w' D
         cases e with
         | returned v' => exact next v' w' D
         | panicked ch =>
          refine D _ fun t aW => ?_
          rw[o6,CF l 0 _ (fun j C p N=>absurd N (aW C (zd p)))]
          rfl
         | outgrown=>exact D
     . rw[ry,ad,G]
       exact⟨fun _ _=>trivial,next undef w K⟩
   . have ai:mem.contains i=false:=by simpa using himem
     rw[ai]at ac
     have aJ : mem.countP J = mem.countP S:=by
      refine List.countP_congr fun j p=>?_
      rw[H]
      have:¬ j=i:=by rintro rfl;exact himem p
      simp[this]
     have aR:uS pre mem i<=mem.countP S:=List.countP_mono_left fun m _ h=>af m h
     have aN:mem.countP S<=uP pre mem i:=List.countP_mono_left fun m E h=>by
      have Z:m<l.length:=of_decide_eq_true (zt.1 am m E)
      cases q:(pre.getD m []).contains i with
      | false=>rfl
      | true=>have:=T m Z q;rw[h]at this;cases this
     have next:∀ w', M (mem.countP S) g w' -> wpAnyIn (FW r) 0 P .any l.toArray Q fuel (a.setIfInBounds i true) ((Fr n (iX S 0 l (V.map (· g)) s0) ds).put o.dst (v g)) w' := by
      intro w' ag
      have:=ih (a.setIfInBounds i true) g w' (by simpa using hs) ar aj (by rw[show mem.countP (c (a.setIfInBounds i true))=mem.countP S from aJ];exact ag)
      rw[frame g v hv (fun _ _ _ _=>rfl)]
      exact this
     rcases ac (mem.countP S) g w aR aN F with ⟨G,ao,ah⟩|⟨G,K⟩
     . rw[ry,ad,G,if_pos rfl]
       refine⟨fun _ _=>trivial,?_⟩
       rw[semAt_eq (wM ao),pJ, av]
       rcases ah with s|⟨f,args,s,hC⟩
       . rw[s];exact next w F
       . rw[s]
         refine⟨fun h=>by simp[FW]at h,uI.2 (Calls.mono hC ?_)⟩
         rintro e w' ⟨v', rfl,rfl,aF⟩
         exact next w' aF
     . rw[ry,ad,G]
       exact⟨fun _ _=>trivial,by rw[<-K];exact next w F⟩
 have e0:Fr n s0 ds=Fr n (iX (c (Array.replicate l.toArray.size false)) 0 l (V.map (· g0)) s0) ds:=by
  refine vL ds fun t=>?_
  rw[o6,CF l 0 _ (fun j o _ _=>?_)]
  . rfl
  . simp only[c];exact wo _ _
 have hz:mem.countP (c (Array.replicate l.toArray.size false))=0:=BB.2 fun j _=>by
  simp only[c];rw[wo];simp
 rw[e0]
 refine aY _ _ g0 _ s_ (lq LY s_) ⟨fun j o _ h=>?_⟩ (by rw[hz];exact h0)
 exfalso
 simp only[c]at h
 rw[wo]at h
 cases h
end
end Go.Sx
namespace Go.Sx
open Go
section
variable {r:Option Nat} {P:Program} {ops:Array Oper} {Q:Exit->Act->World->Prop} {rest:List Oper} {n:Nat} {s:List (Nat×Value)} {ds:List Deferred} {w w' : World}
variable {d:Nat} {dd:Option Nat} {ty:TypeId} {pos:String} {af:Array Edge} {g:Option (Nat×Bool)} {v u:Value} {x y:Operand} {bs:List (World×List Nat)} {L L' : List fS} {t e:TypeId} {sz by_ m cnt:Nat} {z:Value} {xs news:List Value}
theorem K5{b o:Nat}{T:TypeId}{cs cs' vs:List Value}(i:Nat)(p:ev n s x = .pointer (some ⟨b,o,none⟩))(q:ev n s y=v)(hvs:v.cells.toList=vs)
 (m:TI P t sz by_ z) (l:vs.length=sz) (h1:vs.all (·.oneCell')=true) (f:St bs L w) (hi:L[i]? = some (blk b T cs)) (j:o+vs.length<=cs.length)
 (hcs:setAt cs o vs=cs') (h:L.set i (blk b T cs')=L') :
 ∃ w', (execOp (ev n s) ⟨dd,.store t x y,ty,pos,af,g⟩).run P w = .ok .skip w' /\ St bs L' w' /\ gA [b] w w' := by
 have d:=f.Ey hi
 have e:=run_storeCells_at P b o T vs 0 cs.toArray w d (by simpa using j) (by simpa using h1)
 have k:v.cells.size=sz:=by rw[<-l,<-hvs];simp
 refine⟨w.setRow b (cs'.toArray),?_,?_,gA.setRow w b _⟩
 . simp only[execOp,p,q,Instr.storeAt,Instr.sureAddr,storeVar,zy,jS,zp,m.size,k,ne_eq,not_true,if_false,hvs]
   subst hcs
   simp only[qD]at e
   simp[e,setAt]
 . subst h
   refine f.iN hi (gA.setRow w b _) (fun c a=>.inl a) (by simp[blk]) (fun c a=>?_) (setRow_heap w b cs.toArray cs'.toArray T (0,0) d)
   simp only[blk,lR]at a
   subst a
   simpa using(p5.1 d).1
theorem Gf{b o:Nat}{T:TypeId}{cs cs' vs:List Value}(i:Nat)(h:gE ops n s g=true)(m:ev n s x = .pointer (some ⟨b,o,none⟩))(p:ev n s y=v)(hvs:v.cells.toList=vs)
 (l:TI P t sz by_ z) (k:vs.length=sz) (h1:vs.all (·.oneCell')=true) (j:St bs L w) (hi:L[i]? = some (blk b T cs)) (f:o+vs.length<=cs.length)
 (hcs:setAt cs o vs=cs') (e:L.set i (blk b T cs')=L')
 (K:∀ w', St bs L' w' -> gA [b] w w' -> WL r P ops Q rest (Fr n s ds) w'):WL r P ops Q (⟨none,.store t x y,ty,pos,af,g⟩ :: rest) (Fr n s ds) w:=by
 obtain⟨w', a,c,d⟩:=K5 (dd:=none) (ty:=ty) (pos:=pos) (af:=af) (g:=g) i m p hvs l k h1 j hi f hcs e
 exact Dw h rfl a (K w' c d)
theorem P0{T e:TypeId}{k:IntKind}{b o o' m:Nat}{i:Int}(h:ev n s x = .pointer (some ⟨b,o,none⟩))(j:ev n s y = .int k i)(c:P.underlying T=some (.array m e))
 (f:TI P e sz by_ z) (a:0<=i/\i<m) (d:o+i.toNat*sz=o') :
 (execOp (ev n s) ⟨dd,.indexAddr T x y,ty,pos,af,g⟩).run P w = .ok (.value (.pointer (some ⟨b,o', none⟩))) w:=by
 subst d
 simp only[execOp,h,j,Instr.indexAt,run_underlying c,asIntOf,zy,jS,zp,Instr.sureAddr]
 simp[a,f.size,Addr.add_lit]
theorem jL{T e:TypeId}{k:IntKind}{b o o' m:Nat}{i:Int}(f:gE ops n s g=true)(l:ev n s x = .pointer (some ⟨b,o,none⟩))(p:ev n s y = .int k i)(c:P.underlying T=some (.array m e))
 (j:TI P e sz by_ z) (a:0<=i/\i<m) (h:o+i.toNat*sz=o') (K:WL r P ops Q rest (Fr n ((d,.pointer (some ⟨b,o', none⟩)) :: s) ds) w) :
 WL r P ops Q (⟨some d,.indexAddr T x y,ty,pos,af,g⟩ :: rest) (Fr n s ds) w:=pw f (fun _=>P0 l p c j a h) K
theorem Cb{ps:List (Nat×Operand)}{pvs:List (Nat×Value)}(hp:ps.map (fun q=>(q.1,ev n s q.2))=pvs)(hb:∀ w,(Instr.build t pvs.toArray).run P w = .ok v w) :
 (execOp (ev n s) ⟨dd,.build t ps.toArray,ty,pos,af,g⟩).run P w = .ok (.value v) w:=by
 have:(ps.toArray.map fun(i,x)=>(i,ev n s x))=pvs.toArray:=by rw[<-hp];simp
 simp only[execOp,this,zy,hb,zp,jS]
theorem ji{ps:List (Nat×Operand)}{pvs:List (Nat×Value)}(a:gE ops n s g=true)(hp:ps.map (fun q=>(q.1,ev n s q.2))=pvs)(hb:∀ w,(Instr.build t pvs.toArray).run P w = .ok v w)
 (K:WL r P ops Q rest (Fr n ((d,v) :: s) ds) w):WL r P ops Q (⟨some d,.build t ps.toArray,ty,pos,af,g⟩ :: rest) (Fr n s ds) w:=pw a (fun _=>Cb hp hb) K
theorem abE{T:Array TypeId}{k:IntKind}{a b c:Int}(e:ev n s x = .int k a)(f:ev n s y = .int k b)(d:(if b<a then b else a)=c) :
 (execOp (ev n s) ⟨dd,.call ⟨.builtin .min,#[x,y],T⟩,ty,pos,af,g⟩).run P w = .ok (.value (.int k c)) w:=by
 subst d;simp[execOp,resolve,invoke,builtin,e,f,Builtin.min_,Builtin.min2]
theorem min2{T:Array TypeId}{k:IntKind}{a b c:Int}(f:gE ops n s g=true)(h:ev n s x = .int k a)(i:ev n s y = .int k b)(e:(if b<a then b else a)=c)
 (K:WL r P ops Q rest (Fr n ((d,.int k c) :: s) ds) w):WL r P ops Q (⟨some d,.call ⟨.builtin .min,#[x,y],T⟩,ty,pos,af,g⟩ :: rest) (Fr n s ds) w:=pw f (fun _=>abE h i e) K
theorem abj{T:Array TypeId}{k:IntKind}{a b c:Int}(e:ev n s x = .int k a)(f:ev n s y = .int k b)(d:(if a<b then b else a)=c) :
 (execOp (ev n s) ⟨dd,.call ⟨.builtin .max,#[x,y],T⟩,ty,pos,af,g⟩).run P w = .ok (.value (.int k c)) w:=by
 subst d;simp[execOp,resolve,invoke,builtin,e,f,Builtin.max_,Builtin.max2]
theorem max2{T:Array TypeId}{k:IntKind}{a b c:Int}(f:gE ops n s g=true)(h:ev n s x = .int k a)(i:ev n s y = .int k b)(e:(if a<b then b else a)=c)
 (K:WL r P ops Q rest (Fr n ((d,.int k c) :: s) ds) w):WL r P ops Q (⟨some d,.call ⟨.builtin .max,#[x,y],T⟩,ty,pos,af,g⟩ :: rest) (Fr n s ds) w:=pw f (fun _=>abj h i e) K
theorem Yu{a:Option Addr}{m c:Nat}{t' : TypeId}(d:ev n s x = .slice a m c)(f:ev n s y = .slice none 0 0)(b:P.underlying t=some (.slice e)) :
 (execOp (ev n s) ⟨dd,.binOp .eql t x y t', ty,pos,af,g⟩).run P w = .ok (.value (.bool a.isNone)) w:=by
 have h:=Lib.run_eql_slice_nil (P:=P) w t e a m c 0 0 b
 simp[execOp,d,f,eqGuard,h]
theorem Yt{a:Option Addr}{m c:Nat}{t' : TypeId}(b:gE ops n s g=true)(h:ev n s x = .slice a m c)(i:ev n s y = .slice none 0 0)(f:P.underlying t=some (.slice e))
 (K:WL r P ops Q rest (Fr n ((d,.bool a.isNone) :: s) ds) w):WL r P ops Q (⟨some d,.binOp .eql t x y t', ty,pos,af,g⟩ :: rest) (Fr n s ds) w:=pw b (fun _=>Yu h i f) K
theorem Rg (d:St bs L w)(e:TypeId)(sz len:Nat)(cs:List Value)(a:cs.length=len*sz)(c:len<=maxLen) :
 St bs (row (.slice (some ⟨w.heap.size,0,none⟩) len len) e sz len cs :: L) (w.alloc (.cells cs.toArray e)) :=
 d.sQ (gA.alloc [] w _) (fun b hb=>by simp[row,Value.ownBlock]at hb;omega) (by simp[row,Value.ownBlock]) (fun b hb=>by simp[row,Value.ownBlock]at hb;simp;omega)
  ⟨a,.inr ⟨w.heap.size,len,cs.toArray,rfl,oO _,heap_alloc_new w _,zo _,c,by simp[a],by simp[<-a]⟩⟩
theorem NG{len:Nat}{ps:List (Nat×Operand)}{pvs:List (Nat×Value)}{cs:List Value}(hp:ps.map (fun q=>(q.1,ev n s q.2))=pvs)(f:P.underlying t=some (.slice e))(hi:TI P e sz by_ z)
 (a:Instr.fill (fun i=>some (i*sz,sz)) ((Array.range (len*sz)).map (z.cells[· % z.cells.size]!)) pvs=some cs.toArray) (h:len*sz<=16777216) :
 (execOp (ev n s) ⟨dd,.buildSlice t len ps.toArray,ty,pos,af,g⟩).run P w = .ok (.value (.slice (some ⟨w.heap.size,0,none⟩) len len)) (w.alloc (.cells cs.toArray e)):=by
 have b:(ps.toArray.map fun(i,x)=>(i,ev n s x))=pvs.toArray:=by rw[<-hp];simp
 have c:¬ len*sz>2 ^ 24:=by simp;omega
 simp only[execOp,b,Instr.buildSlice,zy,run_underlying f,zp,hi.size,jS]
 rw[if_neg c]
 by_cases h0:len*sz=0
 . simp only[h0,if_true,zy,jS,zp]
   rw[h0]at a
   have d : Instr.fill (fun i=>some (i*sz,sz)) ((Array.range 0).map ((#[]:Array Value)[· % (#[]:Array Value).size]!)) pvs=some cs.toArray:=by
    rw[<-a];simp[Array.range_zero']
   simp only[d, zy,jS,zp]
   rfl
 . simp only[h0,if_false,zy,hi.zU,jS,zp,a]
   rfl
theorem Vn{len:Nat}{ps:List (Nat×Operand)}{pvs:List (Nat×Value)}{cs:List Value}(f:gE ops n s g=true)(hp:ps.map (fun q=>(q.1,ev n s q.2))=pvs)(l:P.underlying t=some (.slice e))(hi:TI P e sz by_ z)
 (c:Instr.fill (fun i=>some (i*sz,sz)) ((Array.range (len*sz)).map (z.cells[· % z.cells.size]!)) pvs=some cs.toArray) (h:cs.length=len*sz) (j:Nat.ble (len*sz) 16777216=true) (a:Nat.ble len 16777216=true) (k:St bs L w)
 (K:∀ b w', w.heap.size<=b->gA [] w w' -> St bs (row (.slice (some ⟨b,0,none⟩) len len) e sz len cs :: L) w' -> WL r P ops Q rest (Fr n ((d,.slice (some ⟨b,0,none⟩) len len) :: s) ds) w') :
 WL r P ops Q (⟨some d,.buildSlice t len ps.toArray,ty,pos,af,g⟩ :: rest) (Fr n s ds) w :=
 pv f rfl (NG hp l hi c (pq j)) (K _ _ (zo _) (gA.alloc [] w _) (Rg k e sz len cs h (by have:=pq a;simp only[maxLen];omega)))
def idx:Nat->List Value->List (Nat×Value)
 | _,[]=>[]
 | i,v :: vs=>(i,v) :: idx (i+1) vs
theorem PF(off:Nat):∀ (l:List Value) (a:Nat) (b:Array Value),off+a+l.length<=b.size ->
 (l.zipIdx a).foldl (fun cs (q:Value×Nat)=>cs.setIfInBounds (off+q.2) q.1) b=(b.toList.take (off+a)++l++b.toList.drop (off+a+l.length)).toArray:=by
 intro l
 induction l with
 | nil=>intro a b _;simp
 | cons c l f =>
  intro a b h
  simp only[List.zipIdx_cons,List.foldl_cons]
  rw[f (a+1) _ (by simp at h ⊢;omega)]
  simp only[zh]at h
  have e:off+a<b.toList.length:=by simp;omega
  congr 1
  rw[LM,LO,if_pos e]
  have e1:(b.toList.take (off+a)++c :: b.toList.drop (off+a+1)).take (off+(a+1))=b.toList.take (off+a)++[c]:=by
   rw[List.take_append,z8,qC o_,show off+(a+1)-(off+a)=1 by omega,vt (by simp;omega)]
   simp
  have d:(b.toList.take (off+a)++c :: b.toList.drop (off+a+1)).drop (off+(a+1)+l.length)=b.toList.drop (off+a+(l.length+1)):=by
   rw[List.drop_append,z8,qC o_,LS (by simp;omega),show off+(a+1)+l.length-(off+a)=l.length+1 by omega]
   simp only[tv,List.drop_succ_cons,List.drop_drop]
   congr 1;omega
  rw[e1,d]
  simp
theorem Pz(sz:Nat):∀ (vs:List Value) (k:Nat) (a:Array Value),(∀ v∈vs,v.cells.size=sz)->k*sz+vs.length*sz<=a.size ->
 Instr.fill (fun i=>some (i*sz,sz)) a (idx k vs)=some (a.toList.take (k*sz)++vs.flatMap (·.cells.toList)++a.toList.drop (k*sz+vs.length*sz)).toArray:=by
 intro vs
 induction vs with
 | nil=>intro k a _ _;simp[idx,Instr.fill]
 | cons v vs l =>
  intro k a hs f
  have hv:=hs v s_
  simp only[zh,sI,Nat.one_mul]at f
  simp only[idx,Instr.fill,hv]
  rw[if_neg (by simp;omega)]
  have d:=PF (k*sz) v.cells.toList 0 a (by simp[hv];omega)
  have h:Array.foldl (fun cs (q:Value×Nat)=>cs.setIfInBounds (k*sz+q.2) q.1) a v.cells.zipIdx=(a.toList.take (k*sz)++v.cells.toList++a.toList.drop (k*sz+sz)).toArray:=by
   rw[<-Array.foldl_toList,Array.toList_zipIdx]
   simp only[qD,sH,hv]at d
   exact d
  rw[show (Array.foldl (fun cs (x:Value×Nat)=>match x with|(c,j)=>cs.setIfInBounds (k*sz+j) c) a v.cells.zipIdx)=_ from h]
  have b:v.cells.toList.length=sz:=by simp[hv]
  rw[l (k+1) _ (fun u g=>hs u (by simp[g])) (by simp[b,sI];omega)]
  congr 2
  simp only[List.toList_toArray,sI,Nat.one_mul,z6,zh]
  have e1:(a.toList.take (k*sz)++v.cells.toList++a.toList.drop (k*sz+sz)).take (k*sz+sz)=a.toList.take (k*sz)++v.cells.toList:=by
   rw[List.take_append,vt (by simp[b];omega)]
   simp[b];omega
  have e:(a.toList.take (k*sz)++v.cells.toList++a.toList.drop (k*sz+sz)).drop (k*sz+sz+vs.length*sz)=a.toList.drop (k*sz+(vs.length*sz+sz)):=by
   rw[List.drop_append,LS (by simp[b];omega)]
   simp only[zw,z8,sH,b,tv,List.drop_drop]
   congr 1;omega
  rw[e1,e]
  simp
theorem kj{len:Nat}{ps:List (Nat×Operand)}{vs cs:List Value}(h:gE ops n s g=true)(hp:ps.map (fun q=>(q.1,ev n s q.2))=idx 0 vs)(k:P.underlying t=some (.slice e))(hi:TI P e sz by_ z)
 (i:vs.length=len) (hv:∀ v∈vs,v.cells.size=sz) (hcs:vs.flatMap (·.cells.toList)=cs) (c:Nat.ble (len*sz) 16777216=true) (a:Nat.ble len 16777216=true) (j:St bs L w)
 (K:∀ b w', w.heap.size<=b->gA [] w w' -> St bs (row (.slice (some ⟨b,0,none⟩) len len) e sz len cs :: L) w' -> WL r P ops Q rest (Fr n ((d,.slice (some ⟨b,0,none⟩) len len) :: s) ds) w') :
 WL r P ops Q (⟨some d,.buildSlice t len ps.toArray,ty,pos,af,g⟩ :: rest) (Fr n s ds) w:=by
 subst i hcs
 have f:(vs.flatMap (·.cells.toList)).length=vs.length*sz:=by
  clear hp c a K
  induction vs with
  | nil=>simp
  | cons v vs m=>simp only[z6,zw,zh,sH,hv v s_,m (fun u l=>hv u (by simp[l])),sI];omega
 refine Vn h hp k hi ?_ f c a j K
 rw[Pz sz vs 0 _ hv s_]
 simp
theorem abe(z0:Value)(k:Nat):madeCells #[z0] k=(List.replicate k z0).toArray:=by
 unfold madeCells
 apply Array.ext
 . simp
 . intro i a b
   simp[Nat.mod_one]
theorem abG{k k' : IntKind}{c m:Nat}(l:ev n s x = .int k (m:Int))(o:ev n s y = .int k' (c:Int))(j:P.underlying t=some (.slice e))(hi:TI P e 1 by_ z)(p:z.cells = #[z])(hm:m<=c)(hb:by_*c<=281474976710656)(q:c<=9223372036854775807) :
 (execOp (ev n s) ⟨dd,.makeSlice t x y,ty,pos,af,g⟩).run P w = .ok (.value (.slice (some ⟨w.heap.size,0,none⟩) m c)) (w.alloc (.cells (List.replicate c z).toArray e)):=by
 obtain⟨i,h,b,d,f⟩:=hi.get
 subst d
 have a:=run_make (P:=P) w t e i z j h f k k' m c o_ o_ (by rw[<-Int.natCast_mul];omega) o_
 rw[p,b,sJ]at a
 simp only[nt]at a
 rw[abe]at a
 simp only[execOp,l,o,zy,a,zp,jS]
theorem i6{k k' : IntKind}{c m:Nat}(f:gE ops n s g=true)(j:ev n s x = .int k (m:Int))(l:ev n s y = .int k' (c:Int))(i:P.underlying t=some (.slice e))(hi:TI P e 1 by_ z)(o:z.cells = #[z])(hm:m<=c)(hb:by_*c<=281474976710656)(a:c<=9223372036854775807)(h:St bs L w)
 (K:∀ b w', w.heap.size<=b->gA [] w w' -> St bs (blk b e (List.replicate c z) :: L) w' -> WL r P ops Q rest (Fr n ((d,.slice (some ⟨b,0,none⟩) m c) :: s) ds) w') :
 WL r P ops Q (⟨some d,.makeSlice t x y,ty,pos,af,g⟩ :: rest) (Fr n s ds) w :=
 pv f rfl (abG j l i hi o hm hb a) (K _ _ (zo _) (gA.alloc [] w _) (yK h e _))
theorem St.TN{i b:Nat}{cs:List Value}{m c sz:Nat}(h:St bs L w)(hi:L[i]? = some (blk b e cs))(f:cs.length=c*sz)(hm:m<=c)(g:c<=maxLen) :
 St bs (L.set i (row (.slice (some ⟨b,0,none⟩) m c) e sz m (cs.take (m*sz)))) w:=by
 have d:=h.Ey hi
 refine h.iN hi (gA.refl _ _) (fun x a=>.inl (by simpa[row,Value.ownBlock,blk]using a)) (by simp[row,Value.ownBlock]) (fun x a=>?_) ?_
 . simp[row,Value.ownBlock]at a
   subst a
   exact(p5.1 d).1
 . refine⟨by simp[f];rw[<-Nat.mul_min_mul_right,qC (DI _ hm)],.inr ⟨b,c,cs.toArray,rfl,oO _,d,hm,g,by simp[f],s_⟩⟩
theorem St.ad4{i:Nat}(h:St bs L w)(hi:L[i]? = some (row v e sz m xs)):Src w v sz m xs:=by
 have a:w.ownsRow 0 e sz v m xs:=h.own _ (zd hi)
 rcases a.2 with ⟨rfl,rfl⟩|⟨d, c,cur,rfl,_⟩
 . exact⟨none,0,rfl,a.1,fun j x b=>by have:=a.1;simp at this;subst this;simp at b⟩
 . exact⟨some ⟨d, 0,none⟩,c,rfl,a.1,fun j x b=>⟨_,rfl,a.cells rfl j x b⟩⟩
theorem St.ad0{i:Nat}{k:IntKind}{ys:List Int}(h:St bs L w)(hi:L[i]? = some (row v e 1 ys.length (ys.map (.int k))))(hk:∀ y∈ys,gZ k y):Ints k (fun b=>b∈iT L) w v ys:=by
 have f:w.ownsRow 0 e 1 v ys.length (ys.map (.int k)):=h.own _ (zd hi)
 rcases f.2 with ⟨rfl,m⟩|⟨c, l,cur,rfl,_,p,n,o,_⟩
 . have:ys=[]:=um m
   subst this
   exact Sl.nil _ _ _ _
 . refine⟨_,l,rfl,n,o,fun j y d=>⟨c, 0,[.int k y],rfl,rY hi (by simp[row,Value.ownBlock]),rfl,⟨rfl,hk y (zd d)⟩,fun q u a=>?_⟩⟩
   cases q with
   | zero =>
    simp at a
    subst a
    have:=f.cells (g:=c) rfl j (.int k y) (by simp[d])
    rw[Addr.add_lit]at this
    simpa using this
   | succ q=>simp at a
end
section
variable {P:Program} {ops:Array Oper} {Q:Exit->Act->World->Prop} {n:Nat} {s s0:List (Nat×Value)} {ds:List Deferred} {w w' : World} {o:Oper} {v:Value} {C:World->Prop} {l:List Oper} {Nx:Value->World->Prop}
theorem qv(a:gE ops n s o.guard=true)(hd:nM o.op=true)(h:(execOp (ev n s) o).run P w = .ok (.value v) w):mE P ops n o s v C w:=.inl ⟨a,hd,.inl h⟩
theorem qc{f:FuncId}{args:Array Value}(b:gE ops n s o.guard=true)(hd:nM o.op=true)(h:(execOp (ev n s) o).run P w = .ok (.enter f args) w)(a:CR P f args w (fun v' w' => v' = v/\C w')):mE P ops n o s v C w:=.inl ⟨b,hd,.inr ⟨f,args,h,a⟩⟩
theorem FF(b:gE ops n s o.guard=true)(hd:nM o.op=true)(h:(execOp (ev n s) o).run P w = .ok (.value v) w')(a:Nx v w'):nC P ops Q n ds s0 l o s Nx w:=.inl ⟨b,hd,.inl ⟨v,w', h,a⟩⟩
theorem mun(b:gE ops n s o.guard=true)(hd:nM o.op=true)(h:(execOp (ev n s) o).run P w = .ok .skip w')(a:Nx undef w'):nC P ops Q n ds s0 l o s Nx w:=.inl ⟨b,hd,.inr (.inl ⟨w', h,a⟩)⟩
theorem Fu{f:FuncId}{args:Array Value}{R:Value->World->Prop}(g:gE ops n s o.guard=true)(hd:nM o.op=true)(h:(execOp (ev n s) o).run P w = .ok (.enter f args) w)(c:CR P f args w R)(a:∀ v w', R v w' -> Nx v w'):nC P ops Q n ds s0 l o s Nx w :=
 .inl ⟨g,hd,.inr (.inr ⟨f,args,h,Calls.mono c (fun e w' ⟨v,d,b⟩=>by subst d;exact a v w' b)⟩)⟩
variable {dd:Option Nat} {ty:TypeId} {pos:String} {af:Array Edge} {g:Option (Nat×Bool)}
theorem sR{f:FuncId}{a:List Operand}{T:Array TypeId}{vl:List Value}(hvs:a.map (ev n s)=vl)(b:gi P f) :
 (execOp (ev n s) ⟨dd,.call ⟨.value (.func f),a.toArray,T⟩,ty,pos,af,g⟩).run P w = .ok (.enter f vl.toArray) w:=by
 simp only[execOp,resolve,invoke,Deferred.ofValue,Ft, hvs]
 simp[ev,b _ _]
end
end Go.Sx
namespace Go.Sx
open Go
abbrev ir(k:IntKind)(v:Value)(e:TypeId)(ys:List Int):fS:=row v e 1 ys.length (ys.map (.int k))
section
variable {r:Option Nat} {P:Program} {ops:Array Oper} {Q:Exit->Act->World->Prop} {rest:List Oper} {n:Nat} {s:List (Nat×Value)} {ds:List Deferred} {w w' w0:World}
variable {d:Nat} {dd:Option Nat} {ty:TypeId} {pos:String} {af:Array Edge} {g:Option (Nat×Bool)} {v u:Value} {x y:Operand} {bs:List (World×List Nat)} {L L' : List fS} {t e:TypeId} {sz by_ m cnt:Nat} {z:Value} {k:IntKind} {ys zs:List Int}
theorem aaa(k:IntKind)(zs:List Int):∀ x∈zs.map (Value.int k),x.oneCell' = true:=by
 intro x a
 obtain⟨y,_,rfl⟩:=zz.1 a
 rfl
theorem vU{LL:Value->List fS}(i:Nat)(h:gE ops n s g=true)(m:ev n s x=v)(o:ev n s y=u)(l:P.underlying t=some (.slice e))(hi:TI P e 1 by_ z)(p:z.cells.size=1)
 (j:St bs L w) (c:L[i]? = some (ir k v e ys)) (hs:Src w u 1 zs.length (zs.map (.int k))) (hb:(ys.length+zs.length)*by_<=140737488355328) (q:ys.length+zs.length<=9223372036854775807)
 (f:∀ v', L.set i (ir k v' e (ys++zs))=LL v')
 (K:∀ v' w', St bs (LL v') w' -> gA v.ownBlock.toList w w' -> WL r P ops Q rest (Fr n ((d,v') :: s) ds) w') :
 WL r P ops Q (⟨some d,.call ⟨.builtin .append,#[x,y],#[t,t]⟩,ty,pos,af,g⟩ :: rest) (Fr n s ds) w:=by
 refine Nt i h m o l hi p d_ j c hs (aaa k zs) hb (by simp only[maxLen];omega) fun v' w' a b=>K v' w' ?_ b
 rw[<-f]
 simpa[ir]using a
theorem St.En(h:St bs L w)(e:TypeId)(sz:Nat):St bs (row (.slice none 0 0) e sz 0 [] :: L) w :=
 h.add (lo:=w.heap.size) (fun p hp=>(h.base p hp).gD.size) h.lt (fun b hb=>by simp[row,Value.ownBlock]at hb) (by simp[row,Value.ownBlock]) (fun b hb=>by simp[row,Value.ownBlock]at hb) (World.ownsRow_nil w 0 e sz)
end
end Go.Sx
namespace Go.Sx
open Go
section
variable {Γ:Type} {r:Option Nat} {P:Program} {ops:Array Oper} {Q:Exit->Act->World->Prop} {n:Nat} {ds:List Deferred} {s0:List (Nat×Value)} {l0 l:List Oper} {pre:List (List Nat)} {mem:List Nat} {V vs:List (Γ->Value)} {v:Γ->Value}
variable {bs:List (World×List Nat)} {Ls:List ((Γ->List fS)×(Γ->World->Prop))} {i lo:Nat} {s:Γ->List (Nat×Value)} {o:Oper} {L L' L1 L2:Γ->List fS} {F F' F1 F2:Γ->World->Prop}
def jD(bs:List (World×List Nat))(Ls:List ((Γ->List fS)×(Γ->World->Prop)))(p:Nat)(g:Γ)(w:World):Prop :=
 match Ls[p]? with
 | some (L,F)=>St bs (L g) w/\F g w
 | none=>False
theorem jD.at{p:Nat}(h:Ls[p]? = some (L,F)){g:Γ}{w:World}:jD bs Ls p g w↔(St bs (L g) w/\F g w):=by simp only[jD,h]
theorem l9.refl(g:Γ):∀ (V:List (Γ->Value)) (k:Nat),l9 pre i g g k V:=by
 intro V
 induction V with
 | nil=>intro k;trivial
 | cons v V a=>intro k;exact⟨by cases ((pre.getD k []).contains i||k==i)<;>simp,a (k+1)⟩
theorem Rp:lT P ops Q n ds s0 l0 pre mem V (jD bs Ls) i s [] []:=trivial
theorem acj(hm:mem.contains i=false)(h:∀ g w C,mE P ops n o (s g) (v g) C w)(K:lT P ops Q n ds s0 l0 pre mem V (jD bs Ls) (i+1) (fun g=>kI o.dst (v g) (s g)) l vs) :
 lT P ops Q n ds s0 l0 pre mem V (jD bs Ls) i s (o :: l) (v :: vs):=by
 refine⟨?_,K⟩
 rw[hm]
 exact fun p g w _ _ _=>h g w _
theorem mE.congr{C b : World->Prop}{s:List (Nat×Value)}{v:Value}{w:World}(g:∀ w,C w->b w)(h:mE P ops n o s v C w):mE P ops n o s v b w:=by
 rcases h with ⟨c,d,a|⟨f,args,a,e⟩⟩|h
 . exact .inl ⟨c,d,.inl a⟩
 . exact .inl ⟨c,d,.inr ⟨f,args,a,e.mono fun v' w' h=>⟨h.1,g w' h.2⟩⟩⟩
 . exact .inr h
theorem wN(hm:mem.contains i=false)(j:uS pre mem i=lo)(f:uP pre mem i=lo)(a:Ls[lo]? = some (L,F))
 (h:∀ g w,St bs (L g) w->F g w->mE P ops n o (s g) (v g) (fun w' => St bs (L g) w' /\ F g w') w) (K:lT P ops Q n ds s0 l0 pre mem V (jD bs Ls) (i+1) (fun g=>kI o.dst (v g) (s g)) l vs) :
 lT P ops Q n ds s0 l0 pre mem V (jD bs Ls) i s (o :: l) (v :: vs):=by
 refine⟨?_,K⟩
 rw[hm]
 intro p g w d e c
 obtain rfl:p=lo:=by omega
 have b := (jD.at a).1 c
 exact(h g w b.1 b.2).congr fun w' h=>(jD.at a).2 h
theorem Kj(hm:mem.contains i=false)(m:uS pre mem i=lo)(k:uP pre mem i=lo+1)(b:Ls[lo]? = some (L,F))(c:Ls[lo+1]? = some (L1,F1))
 (h:∀ g w,St bs (L g) w->F g w->mE P ops n o (s g) (v g) (fun w' => St bs (L g) w' /\ F g w') w) (e : ∀ g w,St bs (L1 g) w->F1 g w->mE P ops n o (s g) (v g) (fun w' => St bs (L1 g) w' /\ F1 g w') w)
 (K:lT P ops Q n ds s0 l0 pre mem V (jD bs Ls) (i+1) (fun g=>kI o.dst (v g) (s g)) l vs) :
 lT P ops Q n ds s0 l0 pre mem V (jD bs Ls) i s (o :: l) (v :: vs):=by
 refine⟨?_,K⟩
 rw[hm]
 intro p g w f j d
 rcases(show p=lo\/p=lo+1 by omega)with rfl|rfl
 . have a := (jD.at b).1 d
   exact(h g w a.1 a.2).congr fun w' h=>(jD.at b).2 h
 . have a := (jD.at c).1 d
   exact(e g w a.1 a.2).congr fun w' h=>(jD.at c).2 h
theorem ack(hm:mem.contains i=false)(r:uS pre mem i=lo)(q:uP pre mem i=lo+2)(c:Ls[lo]? = some (L,F))(d:Ls[lo+1]? = some (L1,F1))(e:Ls[lo+2]? = some (L2,F2))
 (h:∀ g w,St bs (L g) w->F g w->mE P ops n o (s g) (v g) (fun w' => St bs (L g) w' /\ F g w') w) (f : ∀ g w,St bs (L1 g) w->F1 g w->mE P ops n o (s g) (v g) (fun w' => St bs (L1 g) w' /\ F1 g w') w)
 (j : ∀ g w,St bs (L2 g) w->F2 g w->mE P ops n o (s g) (v g) (fun w' => St bs (L2 g) w' /\ F2 g w') w)
 (K:lT P ops Q n ds s0 l0 pre mem V (jD bs Ls) (i+1) (fun g=>kI o.dst (v g) (s g)) l vs) :
 lT P ops Q n ds s0 l0 pre mem V (jD bs Ls) i s (o :: l) (v :: vs):=by
 refine⟨?_,K⟩
 rw[hm]
 intro p g w k m b
 rcases(show p=lo\/p=lo+1\/p=lo+2 by omega)with rfl|rfl|rfl
 . have a := (jD.at c).1 b
   exact(h g w a.1 a.2).congr fun w' h=>(jD.at c).2 h
 . have a := (jD.at d).1 b
   exact(f g w a.1 a.2).congr fun w' h=>(jD.at d).2 h
 . have a := (jD.at e).1 b
   exact(j g w a.1 a.2).congr fun w' h=>(jD.at e).2 h
theorem nC.mono{s:List (Nat×Value)}{w:World}{N j : Value->World->Prop}(g:∀ v w,N v w->j v w)(h:nC P ops Q n ds s0 l0 o s N w):nC P ops Q n ds s0 l0 o s j w:=by
 rcases h with ⟨a,b,⟨v,w', c,d⟩|⟨w', c,d⟩|⟨f,args,c,d⟩⟩|⟨a,b⟩
 . exact .inl ⟨a,b,.inl ⟨v,w', c,g _ _ d⟩⟩
 . exact .inl ⟨a,b,.inr (.inl ⟨w', c,g _ _ d⟩)⟩
 . refine .inl ⟨a,b,.inr (.inr ⟨f,args,c,Calls.mono d fun e w' i=>?_⟩)⟩
   cases e with
   | returned v=>exact g _ _ i
   | panicked ch=>exact i
   | outgrown=>exact i
 . exact .inr ⟨a,g _ _ b⟩
theorem Ki{k:Nat}(hm:mem.contains i=true)(hk:mem.idxOf i=k)(f:Ls[k]? = some (L,F))(j : Ls[k+1]? = some (L', F'))
 (h:∀ g w,St bs (L g) w->F g w->nC P ops Q n ds s0 l0 o (s g) (fun v' w' => ∃ a, (St bs (L' a) w' /\ F' a w')/\v' = v a /\ l9 pre i g a 0 V) w)
 (K:lT P ops Q n ds s0 l0 pre mem V (jD bs Ls) (i+1) (fun g=>kI o.dst (v g) (s g)) l vs) :
 lT P ops Q n ds s0 l0 pre mem V (jD bs Ls) i s (o :: l) (v :: vs):=by
 refine⟨?_,K⟩
 rw[hm,hk]
 intro g w m
 have b := (jD.at f).1 m
 exact(h g w b.1 b.2).mono fun v' w' ⟨a, c,d,e⟩=>⟨a, (jD.at j).2 c,d,e⟩
theorem rgs{id:Nat}{w:World}(hm:P.follows .mixedOrders=true)(pre:List (List Nat))(mem:List Nat)(j:FY l pre mem=true)(V:List (Γ->Value))(Ls:List ((Γ->List fS)×(Γ->World->Prop)))(a:Γ)
 (sE:Γ->List (Nat×Value)) (e:Ls[0]? = some (L,F)) (k:St bs (L a) w) (d:∀ w', gA [] w w' -> F a w') (f:lT P l.toArray Q n ds s0 l pre mem V (jD bs Ls) 0 (fun _=>s0) l V)
 (c:∀ g,iX (fun _=>true) 0 l (V.map (· g)) s0=sE g) (b:Ls[mem.length]? = some (L', F'))
 (i:∀ g w', St bs (L' g) w' -> F' g w' -> Q .normal (Fr n (sE g) ds) w'):WP r P (.region id l.toArray true) Q (Fr n s0 ds) w :=
 Sp hm pre mem j V (jD bs Ls) a sE ((jD.at e).2 ⟨k.grow (gA.drew [] w),d _ (gA.drew [] w)⟩) f c fun g w' h=>i g w' ((jD.at b).1 h).1 ((jD.at b).1 h).2
end
def Np(sz:Nat)(v:Value)(i:Nat):Value:=match v with
 | .slice (some ⟨b,o,_⟩) _ _=>.pointer (some ⟨b,o+i*sz,none⟩)
 | _=>.pointer none
def oI(sz:Nat)(v:Value)(l h:Nat):Value:=match v with
 | .slice a _ c=>.slice (if c=l then a else a.map (·.add (l*sz))) (h-l) (c-l)
 | _=>v
section
variable {P:Program} {n:Nat} {s:List (Nat×Value)} {w:World} {dd:Option Nat} {ty:TypeId} {pos:String} {af:Array Edge} {g:Option (Nat×Bool)} {v:Value} {x y:Operand} {t e:TypeId} {sz by_:Nat} {z:Value} {u:TypeDesc}
theorem JL{α:Type}{enc:World->α->List Value->Prop}{ok:Nat->Prop}{w0:World}{ys:List α}(f:ev n s x=v)(d:P.underlying t=some (.slice e))(b:Sl sz enc ok w0 v ys) :
 (execOp (ev n s) ⟨dd,.call ⟨.builtin .len,#[x],#[t]⟩,ty,pos,af,g⟩).run P w = .ok (.value (.int .i64 ys.length)) w:=by
 obtain⟨a,c,rfl,_⟩:=b
 exact Qz f d
theorem aah{α:Type}{k' : IntKind}{enc:World->α->List Value->Prop}{ok:Nat->Prop}{w0:World}{ys:List α}{i:Int}{el:α}(l:ev n s x=v)(m:ev n s y = .int k' i)(k:P.underlying t=some (.slice e))(hi:TI P e sz by_ z)
 (j:Sl sz enc ok w0 v ys) (f:0<=i) (d:ys[i.toNat]? = some el) :
 (execOp (ev n s) ⟨dd,.indexAddr t x y,ty,pos,af,g⟩).run P w = .ok (.value (Np sz v i.toNat)) w:=by
 have r:=(zk.1 d).1
 obtain⟨a,c,rfl,_,_,h⟩:=j
 obtain⟨b,o,vs,rfl,_,q,_,p⟩:=h i.toNat el d
 exact Jp l m k hi ⟨f,o_⟩ rfl
theorem aeC{α:Type}{enc:World->α->List Value->Prop}{ok:Nat->Prop}{w0:World}{ys:List α}{low high:Option Operand}{l h:Nat}(f:ev n s x=v)(d:P.underlying t=some (.slice e))(hi:TI P e sz by_ z)
 (u:Sl sz enc ok w0 v ys) (i:match low with|none=>l=0|some p=>∃ k,ev n s p = .int k (l:Int)) (b:match high with|none=>h=ys.length|some p=>∃ k,ev n s p = .int k (h:Int)) (A:l<=h) (E:h<=ys.length) :
 (execOp (ev n s) ⟨dd,.slice t x low high none,ty,pos,af,g⟩).run P w = .ok (.value (Go.Sx.oI sz v l h)) w:=by
 obtain⟨a,c,rfl,B,C,D⟩:=u
 have b1:∀ (m:Nat) (o:BoundsCode) (k:IntKind) (q:Nat),q<=m->(Instr.sliceBound (.int k (q:Int)) m o).run P w = .ok q w:=by
  intro m o k q j
  have:(0:Int)<=(q:Int)/\(q:Int)<=(m:Int):=by omega
  simp[Instr.sliceBound,asIntOf,this]
 have r:h<=c:=by omega
 have y:l<=ys.length:=by omega
 cases low with
 | none =>
  simp only at i
  subst i
  cases high with
  | none =>
   simp only at b
   subst b
   simp[execOp,f,Instr.sliceAt,Instr.slice,run_underlying d,Instr.sliceBounds,hi.size,Go.Sx.oI]
  | some p =>
   obtain⟨k,hp⟩:=b
   simp[execOp,f,hp,Instr.sliceAt,Instr.slice,run_underlying d,Instr.sliceBounds,hi.size,b1 _ _ _ _ r,Go.Sx.oI]
 | some q =>
  obtain⟨k,j⟩:=i
  cases high with
  | none =>
   simp only at b
   subst b
   simp[execOp,f,j,Instr.sliceAt,Instr.slice,run_underlying d,Instr.sliceBounds,hi.size,b1 _ _ _ _ y,Go.Sx.oI]
  | some p =>
   obtain⟨k', hp⟩:=b
   simp[execOp,f,j,hp,Instr.sliceAt,Instr.slice,run_underlying d,Instr.sliceBounds,hi.size,b1 _ _ _ _ r,b1 _ _ _ _ A,Go.Sx.oI]
end
section
variable {Γ:Type} {P:Program} {ops:Array Oper} {Q:Exit->Act->World->Prop} {n:Nat} {s s0:List (Nat×Value)} {ds:List Deferred} {w:World} {o:Oper} {v u:Value} {l:List Oper} {Nx:Value->World->Prop}
variable {dd:Option Nat} {d:Nat} {ty:TypeId} {pos:String} {af:Array Edge} {g:Option (Nat×Bool)} {x y:Operand} {t e:TypeId} {sz by_ cnt:Nat} {z:Value} {bs:List (World×List Nat)} {L L' : List fS} {news:List Value}
variable {pre:List (List Nat)} {i:Nat} {V:List (Γ->Value)} {a b:Γ} {k:Nat} {f:Γ->Value}
theorem kS(h:bif (pre.getD k []).contains i||k==i then True else f b=f a)(K:l9 pre i a b (k+1) V):l9 pre i a b k (f :: V):=⟨h,K⟩
theorem aeV:l9 pre i a b k []:=trivial
theorem JS{b o:Nat}{T:TypeId}{cs cs' vs:List Value}(i:Nat)(f:gE ops n s g=true)(m:ev n s x = .pointer (some ⟨b,o,none⟩))(p:ev n s y=v)(hvs:v.cells.toList=vs)
 (k:TI P t sz by_ z) (j:vs.length=sz) (h1:vs.all (·.oneCell')=true) (h:St bs L w) (hi:L[i]? = some (blk b T cs)) (e:Nat.ble (o+vs.length) cs.length=true)
 (hcs:setAt cs o vs=cs') (d:L.set i (blk b T cs')=L') (K:∀ w', St bs L' w' -> Nx undef w') :
 nC P ops Q n ds s0 l ⟨none,.store t x y,ty,pos,af,g⟩ s Nx w:=by
 obtain⟨w', a,c,q⟩:=K5 (dd:=none) (ty:=ty) (pos:=pos) (af:=af) (g:=g) i m p hvs k j h1 h hi (pq e) hcs d
 exact mun f rfl a (K w' c)
theorem Fq{cs:List Value}(a:gE ops n s g=true)(d:TI P t sz by_ z)(hcs:z.cells.toList=cs)(c:St bs L w)
 (K:∀ b w', St bs (blk b t cs :: L) w' -> Nx (.pointer (some ⟨b,0,none⟩)) w'):nC P ops Q n ds s0 l ⟨dd,.alloc t,ty,pos,af,g⟩ s Nx w:=by
 subst hcs
 refine FF (v:=.pointer (some ⟨w.heap.size,0,none⟩)) (w' := w.alloc (.cells z.cells t)) a rfl ?_ (K _ _ ?_)
 . simp only[execOp,Instr.alloc,zy,d.zU,zp]
   rfl
 . have:=yK c t z.cells.toList
   simpa using this
theorem JR{cs:List Value}(a:gE ops n s g=true)(d:ev n s x=v)(hcs:v.cells.toList=cs)(c:St bs L w)
 (K:∀ b w', St bs (blk b t cs :: L) w' -> Nx (.pointer (some ⟨b,0,none⟩)) w'):nC P ops Q n ds s0 l ⟨dd,.box t x,ty,pos,af,g⟩ s Nx w:=by
 subst hcs
 refine FF (v:=.pointer (some ⟨w.heap.size,0,none⟩)) (w' := w.alloc (.cells v.cells t)) a rfl ?_ (K _ _ ?_)
 . simp only[execOp,d,Instr.box]
   rfl
 . have:=yK c t v.cells.toList
   simpa using this
end
end Go.Sx
namespace Go.Sx
open Go
section
variable {w w' w0:World} {bs:List (World×List Nat)} {L:List fS} {b:Nat} {T:TypeId} {cs cs' : List Value}
theorem St.ZX(w:World)(h:(blk b T cs).holds w):St [(w,[b])] [blk b T cs] w:=by
 have:=St.PX w [blk b T cs] (fun R a=>by simp only[lR]at a;subst a;exact h) (by simp[iT,blk])
  (fun c d=>by
   simp only[iT,z6,List.flatMap_nil,vH,blk,lR]at d
   subst d
   exact(p5.1 (show w.heap[c]? = _ from h)).1)
 simpa[iT,blk]using this
theorem Sl.old{α:Type}{sz:Nat}{enc:World->α->List Value->Prop}{ok:Nat->Prop}{v:Value}{xs:List α}(h:Sl sz enc ok w v xs)(hp:0<sz):Sl sz enc (fun b=>ok b/\b<w.heap.size) w v xs:=by
 obtain⟨a,c,e,g,j,k⟩:=h
 refine⟨a,c,e,g,j,fun i x hi=>?_⟩
 obtain⟨b,o,vs,l,hb,f,m,d⟩:=k i x hi
 refine⟨b,o,vs,l,⟨hb,?_⟩,f,m,d⟩
 cases vs with
 | nil=>simp at f;omega
 | cons u vs=>exact World.block_lt_of_cell? w _ (d 0 u rfl)
theorem St.size{X:List Nat}(h:St bs L w)(hb:(w0,X)∈bs):w0.heap.size<=w.heap.size:=(h.gD hb).size
end
end Go.Sx
namespace Go.Sx
open Go
section
variable {P:Program} {n:Nat} {s:List (Nat×Value)} {w:World} {fn:Func} {bs:List (World×List Nat)} {L:List fS} {x y z:ResultVar} {v v' v'' : Value} {t:TypeId} {u:TypeDesc}
def RV(P:Program)(n:Nat)(s:List (Nat×Value))(w:World)(v:Value):ResultVar->Prop
 | .tmp t=>ev n s (.tmp t)=v
 | .cell a T=>∃ ad,ev n s (.tmp a) = .pointer (some ad)/\(loadVar T ad).run P w = .ok v w
def F7(tmps:Array Value):ResultVar->Sem Value
 | .tmp t=>pure (tmps.getD t undef)
 | .cell a t=>do loadVar t (<- asAddr (tmps.getD a undef))
theorem KP(h:RV P n s w v x):(F7 (Fr n s []).tmps x).run P w = .ok v w:=by
 cases x with
 | tmp t=>simp only[F7,jS];rw[sS];rw[show ev n s (.tmp t)=v from h]
 | cell a T =>
  obtain⟨ad,b,c⟩:=h
  simp only[F7,zy]
  rw[sS,b]
  simp[asAddr,c]
theorem Sm(tmps:Array Value):results fn tmps=(do let vs <- fn.results.mapM (F7 tmps);pure (if h:vs.size=1 then vs[0]else .tuple vs)):=by
 unfold results
 congr 2
theorem KC(b:fn.results = #[x,y])(h1:RV P n s w v x)(a:RV P n s w v' y):(results fn (Fr n s []).tmps).run P w = .ok (.tuple #[v,v']) w:=by
 rw[Sm,b]
 simp[zy,Result.andThen,KP h1,KP a]
theorem og{R:Value->World->Prop}(b:fn.results = #[x,y])(h1:RV P n s w v x)(a:RV P n s w v' y)(h:R (.tuple #[v,v']) w) :
 bodyPost P fn (fun e w' => ∃ v,e = .returned v/\R v w') .ret (Fr n s []) w:=⟨rfl,_,KC b h1 a,_,rfl,h⟩
theorem pg{t:Nat}(h:ev n s (.tmp t)=v):RV P n s w v (.tmp t):=h
theorem wW{a b o:Nat}{T:TypeId}(e:ev n s (.tmp a) = .pointer (some ⟨b,o,none⟩))(d:P.underlying T=some u)(c:j9 u=false)(hv:w.cell? ⟨b,o,none⟩=some v):RV P n s w v (.cell a T) :=
 ⟨_,e,by simp only[loadVar,zy,wU d,c,zp];simp[load,Sem.run,hv]⟩
theorem oq{a b o sz by_:Nat}{T:TypeId}{cs:List Value}{z:Value}(h:ev n s (.tmp a) = .pointer (some ⟨b,o,none⟩))(g:P.underlying T=some u)(e:j9 u=true)(f:TI P T sz by_ z)
 (d:cs.length=sz) (hv:∀ j u,cs[j]? = some u->w.cell? ⟨b,o+j,none⟩=some u):RV P n s w (.agg cs.toArray) (.cell a T):=by
 subst d
 have:=run_loadCells_list (P:=P) w ⟨b,o,none⟩ cs (fun j u c=>by rw[Addr.add_lit];exact hv j u c)
 exact⟨_,h,by simp only[loadVar,zy,wU g,e,zp,f.size,this,if_true,jS]⟩
end
end Go.Sx
namespace Go.Sx
open Go
section
variable {P:Program} {n:Nat} {s:List (Nat×Value)} {w:World} {v:Value} {T:TypeId} {sz by_:Nat} {z:Value} {bs:List (World×List Nat)} {L:List fS}
theorem cells_one(h:v.oneCell' = true):v.cells.toList=[v]:=by cases v<;>first|rfl|(simp[Value.oneCell']at h)
theorem Sl.Rt{α:Type}{sz:Nat}{enc:World->α->List Value->Prop}{ok:Nat->Prop}{xs:List α}(h:Sl sz enc ok w v xs):v.oneCell' = true:=by
 obtain⟨a,c,rfl,_⟩:=h
 rfl
theorem acA{e:TypeId}{m:Nat}{xs:List Value}(h:w.ownsRow 0 e sz v m xs):v.oneCell' = true:=by
 rcases h.2 with ⟨rfl,_⟩|⟨g,a,cur,rfl,_⟩<;>rfl
theorem St.adZ{i:Nat}{e:TypeId}{m:Nat}{xs:List Value}(h:St bs L w)(hi:L[i]? = some (row v e sz m xs)):v.oneCell' = true:=acA (h.own _ (zd hi))
theorem lB:([]:List Value).all (·.oneCell')=true:=rfl
theorem ic{l:List Value}(h:v.oneCell' = true)(k:l.all (·.oneCell')=true):(v :: l).all (·.oneCell')=true:=by simp only[List.all_cons,h,k,Bool.and_self]
theorem St.at{R:fS}{i:Nat}(h:St bs L w)(hi:L[i]? = some R):R.holds w:=h.own _ (zd hi)
def AI(pl:List (Nat×Nat)):List Value->List (Nat×List Value)->Option (List Value)
 | cs,[]=>some cs
 | cs,(i,vs) :: rest=>match pl[i]? with
  | none=>none
  | some (off,sz)=>bif Nat.beq vs.length sz&&Nat.ble (off+vs.length) cs.length then AI pl (setAt cs off vs) rest else none
def DP:List (Nat×Value)->List (Nat×List Value)->Prop
 | [],[]=>True
 | (i,v) :: l,(j,vs) :: m=>i=j/\v.cells.toList=vs/\DP l m
 | _,_=>False
theorem Py(pl:List (Nat×Nat)):∀ (ps:List (Nat×Value)) (b:List (Nat×List Value)) (cs out:List Value),DP ps b->AI pl cs b=some out->Instr.fill (pl.toArray[·]?) cs.toArray ps=some out.toArray:=by
 intro ps
 induction ps with
 | nil =>
  intro b cs out h a
  cases b with
  | nil=>simp only[AI,Option.some.injEq]at a;subst a;rfl
  | cons q b=>cases h
 | cons p ps f =>
  intro b cs out h a
  cases b with
  | nil=>cases h
  | cons q b =>
   obtain⟨i,v⟩:=p
   obtain⟨j,vs⟩:=q
   obtain⟨rfl,hv,h⟩:=h
   simp only[AI]at a
   simp only[Instr.fill,Bu]
   cases hp:pl[i]? with
   | none=>rw[hp]at a;cases a
   | some p =>
    obtain⟨off,sz⟩:=p
    rw[hp]at a
    simp only at a
    cases hb:(Nat.beq vs.length sz&&Nat.ble (off+vs.length) cs.length)with
    | false=>rw[hb]at a;cases a
    | true =>
     rw[hb]at a
     simp only[cond_true]at a
     rw[mU]at hb
     have g:vs.length=sz:=Bv hb.1
     have k:=pq hb.2
     have hs:v.cells.size=vs.length:=by rw[<-hv];simp
     simp only[hs]
     rw[if_neg (by simp;omega)]
     have d:=PF off v.cells.toList 0 cs.toArray (by simp[hs];omega)
     have e:Array.foldl (fun cs (q:Value×Nat)=>cs.setIfInBounds (off+q.2) q.1) cs.toArray v.cells.zipIdx=(setAt cs off vs).toArray:=by
      rw[<-Array.foldl_toList,Array.toList_zipIdx]
      simp only[qD,sH,hs,hv]at d ⊢
      rw[d]
      simp[setAt]
     rw[show (Array.foldl (fun cs (x:Value×Nat)=>match x with|(c,j)=>cs.setIfInBounds (off+j) c) cs.toArray v.cells.zipIdx)=_ from e]
     simpa only[Bu]using f b _ out h a
def ko(P:Program)(T:TypeId)(pl:List (Nat×Nat)):Prop :=
 ∃ fields,P.underlying T=some (.struct fields)/\∀ w,(fields.mapM (fun f=>do pure (f.offset,<-sizeOf f.type):Field->Sem (Nat×Nat))).run P w = .ok pl.toArray w
theorem jA{pl:List (Nat×Nat)}{ps:List (Nat×Value)}(a:List (Nat×List Value)){cs out:List Value}(d:TI P T sz by_ z)(hp:ko P T pl)(f:z.cells.toList=cs)(b:DP ps a)(c:AI pl cs a=some out)(w:World) :
 (Instr.build T ps.toArray).run P w = .ok (.agg out.toArray) w:=by
 obtain⟨fields,e,hm⟩:=hp
 have:=Py pl ps a cs out b c
 subst f
 simp only[Array.toArray_toList]at this
 simp only[Instr.build,zy,d.zU,zp,run_underlying e,hm,this,jS]
theorem uG{e:TypeId}{len a f:Nat}{t:Value}{ps:List (Nat×Value)}(c:List (Nat×List Value)){cs out:List Value}(o:TI P T sz by_ z)(q:P.underlying T=some (.array len e))(j:TI P e a f t)(r:z.cells.toList=cs)
 (k:DP ps c) (m:AI ((List.range len).map fun i=>(i*a,a)) cs c=some out) (n:∀ p∈ps,p.1<len) (w:World) :
 (Instr.build T ps.toArray).run P w = .ok (.agg out.toArray) w:=by
 have d:=Py _ ps c cs out k m
 have g:∀ (l:List (Nat×Value)) (b:Array Value),(∀ p∈l,p.1<len)->Instr.fill (fun i=>some (i*a,a)) b l=Instr.fill ((((List.range len).map fun i=>(i*a,a)).toArray)[·]?) b l:=by
  intro l
  induction l with
  | nil=>intro b _;rfl
  | cons p l s =>
   intro b h
   obtain⟨i,v⟩:=p
   have hi:=h (i,v) s_
   simp only at hi
   simp only[Instr.fill,Bu,z7,p6 hi,xA]
   split
   . rfl
   . simpa only[Bu,z7]using s _ (fun p hp=>h p (by simp[hp]))
 subst r
 simp only[Array.toArray_toList]at d
 simp only[Instr.build,zy,o.zU,zp,run_underlying q,j.size,g _ _ n,d,jS]
end
end Go.Sx
namespace Go.Sx
open Go
section
variable {w w' w0:World} {bs:List (World×List Nat)} {L:List fS} {R R' : fS}
structure Own (R:fS) (w:World):Prop where
 holds:R.holds w
 nodup:R.gJ.Nodup
 lt:∀ b∈R.gJ,b<w.heap.size
structure fZ (R:fS) (w w' : World) (R' : fS):Prop where
 holds:R'.holds w'
 gD:gA R.gJ w w'
 place:∀ b∈R'.gJ,b∈R.gJ\/w.heap.size<=b
 nodup:R'.gJ.Nodup
 lt:∀ b∈R'.gJ,b<w'.heap.size
theorem K6{α β:Type}{f:α->List β}:∀ {l:List α} {x:α},(l.flatMap f).Nodup->x∈l->(f x).Nodup:=by
 intro l
 induction l with
 | nil=>intro x _ h;simp at h
 | cons y l b =>
  intro x h a
  rw[z6]at h
  rcases zg.1 a with rfl|a
  . exact(zu.1 h).1
  . exact b (zu.1 h).2.1 a
theorem St.RA{i:Nat}(h:St bs L w)(hi:L[i]? = some R):Own R w :=
 ⟨h.own R (zd hi),K6 h.sep (zd hi),fun b hb=>h.lt b (rY hi hb)⟩
theorem St.Lz{LL:List fS}(i:Nat)(h:St bs L w)(hi:L[i]? = some R)(a:fZ R w w' R')(b:L.set i R' = LL):St bs LL w' := by
 subst b
 exact h.iN hi a.gD a.place a.nodup a.lt a.holds
theorem St.Jl(h:Own R w):St [(w,R.gJ)] [R] w:=by
 have:=St.PX w [R] (fun Q a=>by simp only[lR]at a;subst a;exact h.holds) (by simpa[iT]using h.nodup) (fun b hb=>h.lt b (by simpa[iT]using hb))
 simpa[iT]using this
theorem St.EI(h:St bs (R' :: L) w')(hb:(w,R.gJ)∈bs):fZ R w w' R' := by
 have c:=h.base _ hb
 refine⟨h.own R' s_,c.gD,fun b a => c.mine b (by rw[mY];simp[a]),K6 (x:=R') h.sep s_,fun b a => h.lt b (by rw[mY];simp[a])⟩
theorem fZ.refl(h:Own R w):fZ R w w R:=⟨h.holds,gA.refl _ _,fun b hb=>.inl hb,h.nodup,h.lt⟩
theorem fZ.own(h:fZ R w w' R'):Own R' w' := ⟨h.holds,h.nodup,h.lt⟩
theorem Cc{b o:Nat}{T:TypeId}{cs:List Value}{v:Value}(h:(blk b T cs).holds w)(hv:cs[o]? = some v):w.cell? ⟨b,o,none⟩=some v:=by
 have a:(blk b T cs).holds w:=h
 have:=(St.ZX w a).rQ (i:=0) (o:=o) rfl hv
 exact this
end
end Go.Sx
namespace Go.Sx
open Go
section
variable {P:Program} {n:Nat} {s:List (Nat×Value)} {w:World} {fn:Func} {RR:Ending->World->Prop} {v v' v'' : Value} {x y z:ResultVar}
theorem adF(a:fn.results = #[x])(h1:RV P n s w v x):(results fn (Fr n s []).tmps).run P w = .ok v w:=by
 rw[Sm,a]
 simp[zy,Result.andThen,KP h1]
theorem Sn{R:Value->World->Prop}(a:fn.results = #[x])(h1:RV P n s w v x)(h:R v w) :
 bodyPost P fn (fun e w' => ∃ v,e = .returned v/\R v w') .ret (Fr n s []) w:=⟨rfl,_,adF a h1,_,rfl,h⟩
end
theorem St.perm{bs:List (World×List Nat)}{L L' : List fS}{w:World}(h:St bs L w)(hp:L.Perm L'):St bs L' w:=by
 have a:(iT L).Perm (iT L'):=hp.flatMap_right _
 exact⟨fun p c => ⟨(h.base p c).gD,fun b hb=>(h.base p c).mine b (a.mem_iff.2 hb)⟩,fun X d=>h.own X (hp.mem_iff.2 d),a.nodup_iff.1 h.sep,fun b hb=>h.lt b (a.mem_iff.2 hb)⟩
theorem St.swap{bs:List (World×List Nat)}{L:List fS}{R R' : fS}{w:World}(h:St bs (R :: R' :: L) w):St bs (R' :: R :: L) w:=h.perm (List.Perm.swap _ _ _)
end Go.Sx
namespace Go.Sx
open Go
def jr(l:Nat)(r:Loop):fS where
 gJ:=[l]
 holds w:=w.heap[l]? = some (.loop r)
 loc w w' h hh:=(h l s_).trans hh
def ku(d:Nat)(o:Option (List Deferred)):fS where
 gJ:=[d]
 holds w:=w.heap[d]? = some (.deferred o)
 loc w w' h hh:=(h d s_).trans hh
theorem gA.putObj(w:World)(r:Nat)(o:Obj):gA [r] w (w.putObj r o) :=
 ⟨rfl,rfl,rfl,s_,fun b _ hb=>World.putObj_heap_other (by simpa using hb)⟩
section
variable {w w' : World} {bs:List (World×List Nat)} {L LL:List fS} {i l d:Nat} {rc:Loop}
theorem St.yG(h:St bs L w)(hi:L[i]? = some (jr l rc)):w.heap[l]? = some (.loop rc):=h.own _ (zd hi)
theorem St.C7(h:St bs L w)(hi:L[i]? = some (jr l rc))(c : Loop):St bs (L.set i (jr l c)) (w.putObj l (.loop c)):=by
 have a:l<w.heap.size:=h.lt l (rY hi (by simp[jr]))
 exact h.iN hi (gA.putObj w l _) (fun b hb=>.inl hb) (by simp[jr]) (fun b hb=>by simp[jr]at hb;subst hb;simpa using a) (World.putObj_heap_same a)
theorem St.adi{o:Option (List Deferred)}(h:St bs L w)(hi:L[i]? = some (ku d o))(o' : Option (List Deferred)):St bs (L.set i (ku d o')) (w.putObj d (.deferred o')):=by
 have a:d<w.heap.size:=h.lt d (rY hi (by simp[ku]))
 exact h.iN hi (gA.putObj w d _) (fun b hb=>.inl hb) (by simp[ku]) (fun b hb=>by simp[ku]at hb;subst hb;simpa using a) (World.putObj_heap_same a)
end
def gq(L:List fS):fS where
 gJ:=iT L
 holds w:=∀ R∈L,R.holds w
 loc w w' h hh R hR:=R.loc w w' (fun b hb=>h b (qA.2 ⟨R,hR,hb⟩)) (hh R hR)
section
variable {w w0:World} {bs:List (World×List Nat)} {A B:List fS} {R:fS}
theorem YI(A B:List fS):iT (A++B)=iT A++iT B:=by simp[iT]
theorem AH(A B:List fS):iT (gq A :: B)=iT (A++B):=by rw[mY,YI];rfl
theorem St.pack(A B:List fS)(h:St bs (A++B) w):St bs (gq A :: B) w :=
 ⟨fun p hp=>⟨(h.base p hp).gD,fun b hb=>(h.base p hp).mine b (by rw[<-AH];exact hb)⟩,fun Q a=>by
  rcases zg.1 a with rfl|a
  . exact fun R c=>h.own R (xw _ c)
  . exact h.own Q (xu _ a),by rw[AH];exact h.sep,fun b hb=>h.lt b (by rw[<-AH];exact hb)⟩
theorem St.unpack(h:St bs (gq A :: B) w):St bs (A++B) w :=
 ⟨fun p hp=>⟨(h.base p hp).gD,fun b hb=>(h.base p hp).mine b (by rw[AH];exact hb)⟩,fun Q a=>by
  rcases zr.1 a with a|a
  . exact h.own (gq A) s_ Q a
  . exact h.own Q (by simp[a]),by rw[<-AH];exact h.sep,fun b hb=>h.lt b (by rw[AH];exact hb)⟩
theorem St.Ri{b:Nat}(h:St bs (R :: B) w)(hb:b∈iT B):b∉R.gJ:=fun a=>by
 have:=h.sep
 rw[mY]at this
 exact(zu.1 this).2.2 b a b hb rfl
end
def YR(P:Program)(l:Nat)(vl:List Value)(w:World)(R:Value->World->Prop):Prop :=
 ∃ f tmps a b,(Instr.yield l vl.toArray).run P w = .ok (.round l f tmps a b) w/\RoundIn (FW none) 0 P l f tmps a b w (fun e w' => ∃ v,e = .returned v/\R v w')
section
variable {P:Program} {ops:Array Oper} {Q:Exit->Act->World->Prop} {rest:List Oper} {n:Nat} {s:List (Nat×Value)} {ds:List Deferred} {w:World}
variable {d:Option Nat} {ty:TypeId} {pos:String} {af:Array Edge} {g:Option (Nat×Bool)} {x:Operand} {l:Nat}
theorem yl{a:List Operand}{T:Array TypeId}{vl:List Value}{R:Value->World->Prop}(m:gE ops n s g=true)(p:ev n s x = .func (.yield l) #[] #[])(hvs:a.map (ev n s)=vl)(q:YR P l vl w R)
 (K:∀ v w', R v w' -> WL none P ops Q rest (Fr n (kI d v s) ds) w'):WL none P ops Q (⟨d,.call ⟨.value x,a.toArray,T⟩,ty,pos,af,g⟩ :: rest) (Fr n s ds) w:=by
 obtain⟨f,tmps,b,c,i,j⟩:=q
 refine Uc m ?_
 have o:(Oper.semAt none (Fr n s ds).eval (⟨d,.call ⟨.value x,a.toArray,T⟩,ty,pos,af,g⟩:Oper)).run P w = .ok (.round l f tmps b c) w:=by
  rw[Oper.semAt_none,pJ]
  simp only[execOp,resolve,Deferred.ofValue,p,Ft, hvs,zy,jS,zp,invoke]
  simpa using i
 rw[o]
 refine⟨fun h=>by simp[FW]at h,RoundIn.mono j ?_⟩
 rintro e w' ⟨v,rfl,k⟩
 have:=(K v w' k).out
 rw[<-zX]at this
 exact this
def yQ:List Nat->List Value->List (Nat×Value)->List (Nat×Value)
 | p :: ps,v :: vs,s=>yQ ps vs ((p,v) :: s)
 | _,_,s=>s
theorem Ur(p:Nat)(v:Value):(Fr n s ds).tmps.setIfInBounds p v=(Fr n ((p,v) :: s) ds).tmps:=congrArg Act.tmps (zW n s ds p v)
theorem adq:∀ (ps:List Nat) (vs:List Value) (s:List (Nat×Value)),((ps.zip vs).foldl (fun(t:Array Value) (q:Nat×Value)=>t.setIfInBounds q.1 q.2) (Fr n s ds).tmps)=(Fr n (yQ ps vs s) ds).tmps:=by
 intro ps
 induction ps with
 | nil=>intro vs s;simp[yQ]
 | cons p ps a =>
  intro vs s
  cases vs with
  | nil=>simp[yQ]
  | cons v vs =>
   simp only[List.zip_cons_cons,List.foldl_cons,yQ]
   rw[Ur]
   exact a vs _
theorem adp(ps:List Nat)(vs:List Value)(s:List (Nat×Value)):((ps.toArray.zip vs.toArray).foldl (fun(t:Array Value) (q:Nat×Value)=>t.setIfInBounds q.1 q.2) (Fr n s ds).tmps)=(Fr n (yQ ps vs s) ds).tmps:=by
 rw[<-adq,List.zip_toArray,List.foldl_toArray]
variable {bs:List (World×List Nat)} {L LL:List fS} {i:Nat} {rc:Loop}
theorem Db{ps:List Nat}{vl:List Value}{s' : List (Nat×Value)}{fn dd:Nat}{b c:Code}{R:Value->World->Prop}(i:Nat)(g:rc=⟨.ready,none,fn,(Fr n s ds).tmps,ps.toArray,b,c,dd⟩)(j:St bs L w)(hi:L[i]? = some (jr l rc))
 (f:vl.length=ps.length) (hs:yQ ps vl s=s')
 (h:WP (some l) P b (Exit.then (fun a k=>∃ d,(Instr.beginRound l).run P k = .ok () d/\WP (some l) P c (roundPost P l (fun e w' => ∃ v,e = .returned v/\R v w')) a d) (fun _ _ _=>False)) (Fr n s' []) w):YR P l vl w R:=by
 subst hs g
 refine⟨_,_,_,_,run_yield (j.yG hi) (by simpa using f),roundIn_of_wpIn trivial ?_⟩
 have e:=adp (n:=n) (ds:=ds) ps vl s
 show b.wpIn (FW (some l)) 0 P _ { tmps:=((ps.toArray.zip vl.toArray).foldl (fun(t:Array Value) (q:Nat×Value)=>t.setIfInBounds q.1 q.2) (Fr n s ds).tmps),defers:=[] } w
 rw[e]
 exact h
theorem Ew{B:World->Prop}(i:Nat)(b:St bs L w)(hi:L[i]? = some (jr l rc))(d:rc.state = .ready)(c:L.set i (jr l { rc with state:=.busy })=LL)(K:∀ a,St bs LL a->B a):∃ a,(Instr.beginRound l).run P w = .ok () a/\B a :=
 ⟨_,run_beginRound (b.yG hi) d,K _ (by subst c;exact b.C7 hi _)⟩
theorem EH{R:Ending->World->Prop}{a:Act}(i:Nat)(k:St bs L w)(hi:L[i]? = some (jr l { rc with state:=.busy }))(j:rc.state = .ready)(hp:rc.pending=none)(m:L.set i (jr l rc)=LL)(K:∀ w', St bs LL w' -> R (.returned (.bool true)) w'):roundPost P l R .normal a w:=by
 refine⟨_,_,run_endRound none (k.yG hi),K _ ?_⟩
 subst m
 have:=k.C7 hi rc
 obtain⟨a,b,c,d,e,f,g,h⟩:=rc
 simp only at j hp
 subst j hp
 exact this
theorem rf{f:FuncId}{fi ca:List Value}{ps:List Nat}{a c:Code}{α:Type}(d:α->List fS)(C:α->Prop)(u:St bs L w)(y:ev n s x = .func (.func f) fi.toArray ca.toArray)(q:gi P f)
 (h1:∀ fn dd l j rc,rc=(⟨.ready,none,fn,(Fr n s ds).tmps,ps.toArray,a,c,dd⟩:Loop)->St bs (jr l rc :: ku dd (some []) :: L) j ->
  CR P f (fi++[Value.func (.yield l) #[] #[]]++ca).toArray j (fun _ k=>∃ z,C z/\St bs (jr l rc :: ku dd (some []) :: d z) k))
 (o:∀ z dd m,C z->St bs (ku dd (some []) :: d z) m->Q .normal (Fr n s (⟨.collected dd,#[]⟩ :: ds)) m):WP none P (.rangeFunc x ps.toArray a c) Q (Fr n s ds) w:=by
 refine wpIn_rangeFunc fun fn _=>?_
 have r:St bs (ku w.heap.size (some []) :: L) (w.alloc (.deferred (some []))) :=
  u.sQ (gA.alloc [] w _) (fun b hb=>by simp[ku]at hb;omega) (by simp[ku]) (fun b hb=>by simp[ku]at hb;simp;omega) (World.alloc_heap_new w _)
 have t:St bs (jr (w.heap.size+1) ⟨.ready,none,fn,(Fr n s ds).tmps,ps.toArray,a,c,w.heap.size⟩ :: ku w.heap.size (some []) :: L) ((w.alloc (.deferred (some []))).alloc (.loop ⟨.ready,none,fn,(Fr n s ds).tmps,ps.toArray,a,c,w.heap.size⟩)) :=
  r.sQ (gA.alloc [] _ _) (fun b hb=>by simp[jr]at hb;simp;omega) (by simp[jr]) (fun b hb=>by simp[jr]at hb;simp;omega) (by have:=World.alloc_heap_new (w.alloc (.deferred (some []))) (.loop ⟨.ready,none,fn,(Fr n s ds).tmps,ps.toArray,a,c,w.heap.size⟩);simpa[jr]using this)
 refine⟨w.heap.size+1,_,_,⟨.fn (.func f) ca.toArray,(fi++[Value.func (.yield (w.heap.size+1)) #[] #[]]).toArray⟩,((w.alloc (.deferred (some []))).alloc (.loop ⟨.ready,none,fn,(Fr n s ds).tmps,ps.toArray,a,c,w.heap.size⟩)),f,(fi++[Value.func (.yield (w.heap.size+1)) #[] #[]]++ca).toArray,((w.alloc (.deferred (some []))).alloc (.loop ⟨.ready,none,fn,(Fr n s ds).tmps,ps.toArray,a,c,w.heap.size⟩)),run_enterLoop_outer fn _ _ _ _,?_,fun _ _=>trivial,?_,fun h=>by simp[FW]at h,?_⟩
 . rw[pJ]
   simp only[resolve,rangeCall,Deferred.ofValue,y]
   simp[ev]
 . have:=q ((fi++[Value.func (.yield (w.heap.size+1)) #[] #[]]++ca).toArray) ((w.alloc (.deferred (some []))).alloc (.loop ⟨.ready,none,fn,(Fr n s ds).tmps,ps.toArray,a,c,w.heap.size⟩))
   simp only[invoke]
   simpa using this
 . refine uI.2 (Calls.mono (h1 fn w.heap.size (w.heap.size+1) _ _ rfl t) ?_)
   rintro e k ⟨v,rfl,z,p,g⟩
   refine⟨none,_,run_endLoop (g.yG (i:=0) rfl) s_,?_⟩
   refine o z w.heap.size _ p ?_
   exact(g.C7 (i:=0) rfl _).sub (LW _ _)
end
section
variable {P:Program} {n:Nat} {s:List (Nat×Value)} {w:World} {fn:Func} {f:FuncId} {c:Code} {vs:List Value} {RR:Ending->World->Prop} {bs:List (World×List Nat)} {L LL:List fS} {d:Nat} {tmps:Array Value}
theorem EX(a:P.funcs[f]? = some fn)(hb:fn.body=some c)(b:fn.ntmps=n)(hs:Nat.ble vs.length n=true)
 (h:WP none P c (bodyPostM (FW none) 0 P fn RR) (Fr n (vV vs 0) []) w):Calls P f vs.toArray w RR:=by
 refine uI.1 (callsIn_of_wp_marks (F:=FW none) (n:=0) a hb trivial ?_)
 rw[b,L9 vs n (pq hs)]
 exact h
theorem CI(i:Nat)(a:St bs L w)(hi:L[i]? = some (ku d (some [])))(b:L.set i (ku d none)=LL)(K:∀ w', St bs LL w' -> ∃ v,(results fn tmps).run P w' = .ok v w' /\ RR (.returned v) w') :
 LeavesInM (FW none) 0 P fn tmps RR [⟨.collected d,#[]⟩] .returning w :=
 ⟨s_,.inl ⟨d,_,rfl,run_takeDeferred (a.own _ (zd hi)),K _ (by subst b;exact a.adi hi none)⟩⟩
end
end Go.Sx
namespace Go.Sx
open Go
section
variable {P:Program} {w:World} {t e:TypeId} {k:IntKind} {by_:Nat} {z:Value}
theorem KO(d:Nat)(c:P.underlying e=some (.int k))(a b:Int):(Op.equalIn (d+1) e (.int k a) (.int k b)).run P w = .ok (a==b) w:=by
 simp[Op.equalIn,run_underlying c]
theorem KN(d:Nat)(c:P.underlying t=some .bool)(a b:Bool):(Op.equalIn (d+1) t (.bool a) (.bool b)).run P w = .ok (a==b) w:=by
 simp[Op.equalIn,run_underlying c]
theorem wV(a:P.underlying e=some (.int k))(xs:Array Value)(i:Nat)(v:Value)(h:xs[i]? = some v):(part e xs i).run P w = .ok v w:=by
 simp[part,wU a,j9,h]
theorem aee(i:P.underlying t=some (.array 4 e))(h:P.underlying e=some (.int k))(hi:TI P e 1 by_ z)(a0 a1 a2 a3 b0 b1 b2 b3:Int) :
 (Op.equal t (.agg #[.int k a0,.int k a1,.int k a2,.int k a3]) (.agg #[.int k b0,.int k b1,.int k b2,.int k b3])).run P w = .ok (decide ([a0,a1,a2,a3]=[b0,b1,b2,b3])) w:=by
 have p:∀ (c d f g:Value),(part e #[c,d,f,g] 0).run P w = .ok c w/\(part e #[c,d,f,g] 1).run P w = .ok d w/\(part e #[c,d,f,g] 2).run P w = .ok f w/\(part e #[c,d,f,g] 3).run P w = .ok g w:=fun c d f g =>
  ⟨wV h _ _ _ rfl,wV h _ _ _ rfl,wV h _ _ _ rfl,wV h _ _ _ rfl⟩
 have q:=fun a b=>KO (P:=P) (w:=w) 9998 h a b
 simp only[Nat.reduceAdd]at q
 show (Op.equalIn 10000 t _ _).run P w=_
 unfold Op.equalIn
 simp only[zy,run_underlying i,zp,hi.size,Std.Legacy.Range.forIn_eq_forIn_range', Std.Legacy.Range.size]
 simp only[show List.range' 0 ((4-0+1-1) / 1) 1=[0,1,2,3] from rfl,List.forIn_cons,List.forIn_nil,zy,sJ,(p _ _ _ _).1,(p _ _ _ _).2.1,(p _ _ _ _).2.2.1,(p _ _ _ _).2.2.2,zp,q]
 by_cases h0:a0=b0
 . by_cases h1:a1=b1
   . by_cases h2:a2=b2
     . by_cases h3:a3=b3
       . simp[h0,h1,h2,h3,p,q,Result.andThen]
       . simp[h0,h1,h2,h3,p,q,Result.andThen]
     . simp[h0,h1,h2,p,q,Result.andThen]
   . simp[h0,h1,p,q,Result.andThen]
 . simp[h0,p,q,Result.andThen]
end
section
variable {r:Option Nat} {P:Program} {ops:Array Oper} {Q:Exit->Act->World->Prop} {rest:List Oper} {n:Nat} {s:List (Nat×Value)} {ds:List Deferred} {w:World}
variable {d:Nat} {dd:Option Nat} {ty t t' e:TypeId} {pos:String} {af:Array Edge} {g:Option (Nat×Bool)} {x y:Operand} {k:IntKind} {by_:Nat} {z:Value} {a0 a1 a2 a3 b0 b1 b2 b3:Int} {c:Bool}
theorem run_eqGuard_agg(op:BinOp)(a:P.eqGuardType P.depth t=false)(xs ys:Array Value):(eqGuard op t x y (.agg xs) (.agg ys)).run P w = .ok () w:=by
 unfold eqGuard
 cases op<;>simp[a,program,Sem.run]
theorem ab1(i:ev n s x = .agg #[.int k a0,.int k a1,.int k a2,.int k a3])(j:ev n s y = .agg #[.int k b0,.int k b1,.int k b2,.int k b3])(f:P.underlying t=some (.array 4 e))(b:P.underlying e=some (.int k))(hi:TI P e 1 by_ z)
 (d:P.eqGuardType P.depth t=false) (a:(!decide ([a0,a1,a2,a3]=[b0,b1,b2,b3]))=c) :
 (execOp (ev n s) ⟨dd,.binOp .neq t x y t', ty,pos,af,g⟩).run P w = .ok (.value (.bool c)) w:=by
 subst a
 have h:=aee (P:=P) (w:=w) f b hi a0 a1 a2 a3 b0 b1 b2 b3
 simp only[execOp,i,j,zy,run_eqGuard_agg .neq d,zp]
 simp only[binOp,zy,h,zp,jS]
theorem ab3{a b:Bool}(i:ev n s x = .bool a)(j:ev n s y = .bool b)(h:P.underlying t=some .bool)(f:(!(a==b))=c) :
 (execOp (ev n s) ⟨dd,.binOp .neq t x y t', ty,pos,af,g⟩).run P w = .ok (.value (.bool c)) w:=by
 subst f
 have d:(Op.equal t (.bool a) (.bool b)).run P w = .ok (a==b) w:=KN 9999 h a b
 have e:(eqGuard .neq t x y (.bool a) (.bool b)).run P w = .ok () w:=rfl
 simp only[execOp,i,j,zy,e,zp]
 simp only[binOp,zy,d,zp,jS]
theorem FH{a b:Bool}(f:gE ops n s g=true)(i:ev n s x = .bool a)(j:ev n s y = .bool b)(h:P.underlying t=some .bool)(e:(!(a==b))=c)(K:WL r P ops Q rest (Fr n ((d,.bool c) :: s) ds) w) :
 WL r P ops Q (⟨some d,.binOp .neq t x y t', ty,pos,af,g⟩ :: rest) (Fr n s ds) w:=pw f (fun _=>ab3 i j h e) K
theorem Yr{a b:Bool}(i:ev n s x = .bool a)(j:ev n s y = .bool b)(h:P.underlying t=some .bool)(f:(a==b)=c) :
 (execOp (ev n s) ⟨dd,.binOp .eql t x y t', ty,pos,af,g⟩).run P w = .ok (.value (.bool c)) w:=by
 subst f
 have d:(Op.equal t (.bool a) (.bool b)).run P w = .ok (a==b) w:=KN 9999 h a b
 have e:(eqGuard .eql t x y (.bool a) (.bool b)).run P w = .ok () w:=rfl
 simp only[execOp,i,j,zy,e,zp]
 simp only[binOp,zy,d,zp,jS]
theorem EZ{a b:Bool}(f:gE ops n s g=true)(i:ev n s x = .bool a)(j:ev n s y = .bool b)(h:P.underlying t=some .bool)(e:(a==b)=c)(K:WL r P ops Q rest (Fr n ((d,.bool c) :: s) ds) w) :
 WL r P ops Q (⟨some d,.binOp .eql t x y t', ty,pos,af,g⟩ :: rest) (Fr n s ds) w:=pw f (fun _=>Yr i j h e) K
theorem ab0(f:gE ops n s g=true)(j:ev n s x = .agg #[.int k a0,.int k a1,.int k a2,.int k a3])(l:ev n s y = .agg #[.int k b0,.int k b1,.int k b2,.int k b3])(i:P.underlying t=some (.array 4 e))(b:P.underlying e=some (.int k))(hi:TI P e 1 by_ z)
 (h:P.eqGuardType P.depth t=false) (a:(!decide ([a0,a1,a2,a3]=[b0,b1,b2,b3]))=c) (K:WL r P ops Q rest (Fr n ((d,.bool c) :: s) ds) w) :
 WL r P ops Q (⟨some d,.binOp .neq t x y t', ty,pos,af,g⟩ :: rest) (Fr n s ds) w:=pw f (fun _=>ab1 j l i b hi h a) K
end
section
variable {w w' : World} {bs:List (World×List Nat)} {L:List fS} {b:Nat} {T:TypeId} {cs:List Value}
theorem St.adS{w0:World}(h:St bs L w)(hb:(w0,[])∈bs)(c:(blk b T cs).holds w0){o:Nat}{vs:List Value}(hv:(cs.drop o).take vs.length=vs):∀ j u,vs[j]? = some u->w.cell? ⟨b,o+j,none⟩=some u:=by
 intro j u a
 refine h.Ij hb (Cc c (o:=o+j) ?_) mz
 rw[<-hv,vD]at a
 split at a
 . simpa using a
 . cases a
theorem St.KH{w0:World}(h:St bs L w)(hb:(w0,[])∈bs)(a:(blk b T cs).holds w0){o:Nat}{u:Value}(hv:cs[o]? = some u):w.cell? ⟨b,o,none⟩=some u:=h.Ij hb (Cc a hv) mz
theorem St.Nk(h:St bs L w)(c:gA [] w w')(d:w.heap.size<=b)(hb:(blk b T cs).holds w'):St bs (blk b T cs :: L) w' :=
 h.sQ c (fun x a=>by simp[blk]at a;omega) (by simp[blk]) (fun x a=>by
  simp only[blk,lR]at a
  subst a
  exact(p5.1 (show w'.heap[x]? = _ from hb)).1) hb
end
end Go.Sx
namespace Go.Sx
open Go
abbrev iz{α:Type}(sz:Nat)(cf:α->List Value)(ok:Nat->Prop)(w:World)(v:Value)(xs:List α):Prop:=Sl sz (fun _ x vs=>vs=cf x) ok w v xs
def jW(sz:Nat)(v:Value)(i off:Nat):Value:=match v with
 | .slice (some ⟨b,o,_⟩) _ _=>.pointer (some ⟨b,o+i*sz+off,none⟩)
 | _=>.pointer none
theorem UR(sz:Nat)(v:Value)(i:Nat):jW sz v i 0=Np sz v i:=by
 cases v with
 | slice a m c=>cases a<;>rfl
 | _=>rfl
abbrev fM{α:Type}(cf:α->List Value)(v:Value)(e:TypeId)(sz:Nat)(ys:List α):fS:=row v e sz ys.length (ys.flatMap cf)
theorem pS {α:Type}{l:List α}{k:Nat}(h:k<l.length):∃ y,l[k]? = some y:=⟨l[k],zm h⟩
section
variable {α:Type} {sz:Nat} {cf:α->List Value} {ok ok' : Nat->Prop} {w w' w0:World} {v:Value} {xs:List α} {bs:List (World×List Nat)} {L:List fS}
theorem iz.to(h:iz sz cf ok w v xs)(hp:0<sz)(hk:∀ b,ok b->b<w.heap.size->w'.heap[b]? = w.heap[b]?):iz sz cf ok w' v xs:=Sl.to h hk (fun _ _ _ h=>h) hp
theorem St.adz{X:List Nat}(h:St bs L w)(hb:(w0,X)∈bs)(hp:0<sz)(a:iz sz cf ok w0 v xs)(e:∀ b,ok b->b∉X):iz sz cf ok w v xs:=iz.to a hp fun b c d=>h.keep hb d (e b c)
theorem St.C9(h:St bs L w)(hb:(w0,[])∈bs)(hp:0<sz)(a:iz sz cf ok w0 v xs):iz sz cf ok w v xs:=h.adz hb hp a fun _ _=>mz
theorem iz.place{k:Nat}{c:α}(h:iz sz cf ok w v xs)(hk:xs[k]? = some c):∃ b o m d,v = .slice (some ⟨b,o,none⟩) m d/\k<m/\ok b/\(cf c).length=sz/\∀ j u,(cf c)[j]? = some u->w.cell? ⟨b,o+k*sz+j,none⟩=some u:=by
 have i:=(zk.1 hk).1
 obtain⟨a,d,rfl,l,n,e⟩:=h
 obtain⟨b,o,vs,rfl,hb,g,rfl,f⟩:=e k c hk
 exact⟨b,o,_,d,rfl,i,hb,g,f⟩
theorem wm(c:∀ x:α,(cf x).length=sz):∀ (xs:List α) (k j:Nat) (x:α) (u:Value),xs[k]? = some x->(cf x)[j]? = some u->(xs.flatMap cf)[k*sz+j]? = some u:=by
 intro xs
 induction xs with
 | nil=>intro k j x u h;simp at h
 | cons e xs d =>
  intro k j x u b a
  rw[z6]
  cases k with
  | zero =>
   simp at b
   subst b
   have f:j<(cf e).length:=(zk.1 a).1
   rw[zO o_]
   simpa using a
  | succ k =>
   have:=d k j x u (by simpa using b) a
   rw[G5 (by rw[c,sI];omega),c,show (k+1)*sz+j-sz=k*sz+j by rw[sI];omega]
   exact this
theorem St.yU{i:Nat}{e:TypeId}(h:St bs L w)(hi:L[i]? = some (fM cf v e sz xs))(c:∀ x:α,(cf x).length=sz):iz sz cf (fun b=>v.ownBlock=some b) w v xs:=by
 have d:w.ownsRow 0 e sz v xs.length (xs.flatMap cf):=h.own _ (zd hi)
 rcases d.2 with ⟨rfl,k⟩|⟨a, f,cur,rfl,_,p,l,m,_⟩
 . have:xs=[]:=um k
   subst this
   exact Sl.nil _ _ _ _
 . refine⟨_,f,rfl,l,m,fun j y n=>⟨a, 0,cf y,rfl,rfl,c y,rfl,fun q u o=>?_⟩⟩
   have:=d.cells (g:=a) rfl (j*sz+q) u (wm c xs j q y u n o)
   rw[Addr.add_lit]at this
   simpa[lg]using this
theorem iz.src(h:iz sz cf ok w v xs)(e:∀ x:α,(cf x).length=sz):Src w v sz xs.length (xs.flatMap cf):=by
 obtain⟨a,p,rfl,q,r,f⟩:=h
 have k:(xs.flatMap cf).length=xs.length*sz:=by
  clear q r f
  induction xs with
  | nil=>simp
  | cons x xs z=>rw[z6,zw,e,z,zh,sI];omega
 refine⟨a,p,rfl,k,fun j u g=>?_⟩
 have i := (zk.1 g).1
 rw[k]at i
 have l:0<sz:=by
  rcases xx sz with c|c
  . subst c;omega
  . exact c
 have y:j / sz<xs.length:=(L5 l).2 i
 obtain⟨x,n⟩:=pS y
 obtain⟨b,o,vs,rfl,_,_,rfl,t⟩:=f _ x n
 refine⟨_,rfl,?_⟩
 have hm:j%sz<(cf x).length:=by rw[e];exact BK _ l
 obtain⟨A, m⟩:=pS hm
 have d:=wm e xs _ _ x A n m
 rw[BG]at d
 rw[g]at d
 cases d
 have s:=t _ u m
 rw[Addr.add_lit,<-BG j sz]
 rw[BG,show o+j=o+j / sz*sz+j%sz by have:=BG j sz;omega]
 exact s
end
section
variable {α:Type} {cf:α->List Value} {ok:Nat->Prop} {ys zs:List α} {k:Nat} {c:α} {off off' : Nat}
variable {r:Option Nat} {P:Program} {ops:Array Oper} {Q:Exit->Act->World->Prop} {rest:List Oper} {n:Nat} {s:List (Nat×Value)} {ds:List Deferred} {w w0:World}
variable {d:Nat} {dd:Option Nat} {ty:TypeId} {pos:String} {af:Array Edge} {g:Option (Nat×Bool)} {v u:Value} {x y:Operand} {bs:List (World×List Nat)} {L L' : List fS} {t e T:TypeId} {sz by_ m cnt szf byf:Nat} {z zf:Value} {i:Int} {k' : IntKind} {ud:TypeDesc} {fields:Array Field} {f:Field} {j:Nat}
theorem CC(h:ev n s x=v)(j:ev n s y = .int k' i)(f:P.underlying t=some (.slice e))(hi:TI P e sz by_ z)(b:iz sz cf ok w0 v ys)(a:0<=i)(hk:i.toNat=k)(d:ys[k]? = some c) :
 (execOp (ev n s) ⟨dd,.indexAddr t x y,ty,pos,af,g⟩).run P w = .ok (.value (jW sz v k 0)) w:=by
 subst hk
 rw[UR]
 exact aah h j f hi b a d
theorem iP(h:gE ops n s g=true)(l:ev n s x=v)(m:ev n s y = .int k' i)(j:P.underlying t=some (.slice e))(hi:TI P e sz by_ z)(b:iz sz cf ok w0 v ys)(a:0<=i)(hk:i.toNat=k)(f:ys[k]? = some c)
 (K:WL r P ops Q rest (Fr n ((d,jW sz v k 0) :: s) ds) w):WL r P ops Q (⟨some d,.indexAddr t x y,ty,pos,af,g⟩ :: rest) (Fr n s ds) w:=pw h (fun _=>CC l m j hi b a hk f) K
theorem E3(p:ev n s x=jW sz v k off)(d:P.underlying T=some (.struct fields))(h:fields[j]? = some f)(l:TI P f.type (szf+1) byf zf)(i:off+f.offset=off')(a:iz sz cf ok w0 v ys)(e:ys[k]? = some c) :
 (execOp (ev n s) ⟨dd,.fieldAddr T x j,ty,pos,af,g⟩).run P w = .ok (.value (jW sz v k off')) w:=by
 obtain⟨b,o,m,q,rfl,_⟩:=a.place e
 subst i
 exact uM p d h l (by simp only[lg])
theorem yD(j:ev n s x=jW sz v k off)(i:P.underlying t=some ud)(h:j9 ud=false)(d:iz sz cf ok w v ys)(f:ys[k]? = some c)(e:(cf c)[off]? = some u) :
 (execOp (ev n s) ⟨dd,.load t x,ty,pos,af,g⟩).run P w = .ok (.value u) w:=by
 obtain⟨b,o,m,l,rfl,_,_,_,a⟩:=d.place f
 exact mK j i h (a off u e)
theorem jq(f:gE ops n s g=true)(j:ev n s x=jW sz v k off)(i:P.underlying t=some ud)(h:j9 ud=false)(a:iz sz cf ok w v ys)(e:ys[k]? = some c)(b:(cf c)[off]? = some u)
 (K:WL r P ops Q rest (Fr n ((d,u) :: s) ds) w):WL r P ops Q (⟨some d,.load t x,ty,pos,af,g⟩ :: rest) (Fr n s ds) w:=pv f rfl (yD j i h a e b) K
theorem Qq{cs:List Value}{d : Nat}(y:ev n s x=jW sz v k off)(r:P.underlying t=some ud)(p:j9 ud=true)(q:TI P t d by_ z)(f:iz sz cf ok w v ys)(i:ys[k]? = some c)(l:cs.length=d)(h:((cf c).drop off).take cs.length=cs) :
 (execOp (ev n s) ⟨dd,.load t x,ty,pos,af,g⟩).run P w = .ok (.value (.agg cs.toArray)) w:=by
 obtain⟨b,o,m,A,rfl,_,_,_,e⟩:=f.place i
 refine tM (b:=b) (o:=o+k*sz+off) y r p q l fun j u a=>?_
 rw[<-h,vD]at a
 split at a
 . rw[He]at a
   have:=e (off+j) u a
   rw[lg]
   simpa[lg]using this
 . cases a
theorem slV{enc:World->α->List Value->Prop}{low high:Option Operand}{l h:Nat}(b:gE ops n s g=true)(o:ev n s x=v)(m:P.underlying t=some (.slice e))(hi:TI P e sz by_ z)
 (a:Sl sz enc ok w0 v ys) (j:match low with|none=>l=0|some p=>∃ k,ev n s p = .int k (l:Int)) (f:match high with|none=>h=ys.length|some p=>∃ k,ev n s p = .int k (h:Int)) (i:l<=h) (c:h<=ys.length)
 (K:WL r P ops Q rest (Fr n ((d,Go.Sx.oI sz v l h) :: s) ds) w):WL r P ops Q (⟨some d,.slice t x low high none,ty,pos,af,g⟩ :: rest) (Fr n s ds) w:=pv b rfl (aeC o m hi a j f i c) K
theorem mW{LL:Value->List fS}(i:Nat)(f:gE ops n s g=true)(l:ev n s x=v)(m:ev n s y=u)(k:P.underlying t=some (.slice e))(hi:TI P e sz by_ z)(o:z.cells.size=sz)(j:0<sz)
 (h:St bs L w) (b:L[i]? = some (fM cf v e sz ys)) (hs:Src w u sz zs.length (zs.flatMap cf)) (h1:∀ x∈zs.flatMap cf,x.oneCell' = true) (hb:(ys.length+zs.length)*by_<=140737488355328) (p:ys.length+zs.length<=9223372036854775807)
 (c:∀ v', L.set i (fM cf v' e sz (ys++zs))=LL v')
 (K:∀ v' w', St bs (LL v') w' -> gA v.ownBlock.toList w w' -> WL r P ops Q rest (Fr n ((d,v') :: s) ds) w') :
 WL r P ops Q (⟨some d,.call ⟨.builtin .append,#[x,y],#[t,t]⟩,ty,pos,af,g⟩ :: rest) (Fr n s ds) w:=by
 refine Nt i f l m k hi o j h b hs h1 hb (by simp only[maxLen];omega) fun v' w' h1 a=>K v' w' ?_ a
 rw[<-c]
 simpa[fM]using h1
end
structure qb {α:Type} (sz:Nat) (cf:α->List Value) (w:World) (w' : World) (r:Value) (e:TypeId) (zs:List α):Prop where
 own:w'.ownsRow 0 e sz r zs.length (zs.flatMap cf)
 place:∀ b,r.ownBlock=some b->w.heap.size<=b
section
variable {α:Type} {sz:Nat} {cf:α->List Value} {w w' w0:World} {r:Value} {zs:List α} {bs:List (World×List Nat)} {L:List fS} {e:TypeId}
theorem St.WD(h:St bs (fM cf r e sz zs :: L) w)(hb:(w0,[])∈bs):qb sz cf w0 w r e zs:=by
 have c:=h.base _ hb
 refine⟨h.own (fM cf r e sz zs) s_,fun b d => ?_⟩
 rcases c.mine b (by rw[mY];simp[row,d])with a|a
 . simp at a
 . exact a
theorem St.UN(h:St bs L w)(c:gA [] w w')(a:qb sz cf w w' r e zs):St bs (fM cf r e sz zs :: L) w' :=
 h.sQ c (fun b hb=>a.place b (by simpa[row]using hb)) (by show r.ownBlock.toList.Nodup;cases r.ownBlock<;>simp) (fun b hb=>Kn a.own (by simpa[row]using hb)) a.own
end
end Go.Sx
namespace Go.Sx
open Go
section
variable {α:Type} [Inhabited α] {xs:List α} {k j:Nat} {f:α->α} {x:α}
def fJ(xs:List α)(k:Nat):α:=(xs[k]?).getD default
def fO(xs:List α)(k:Nat)(f:α->α):List α:=xs.set k (f (fJ xs k))
theorem gz(h:k<xs.length):xs[k]? = some (fJ xs k):=by
 obtain⟨y,a⟩:=pS h
 simp[fJ,a]
theorem ij(h:xs[k]? = some x):fJ xs k=x:=by simp[fJ,h]
theorem gC:(fO xs k f).length=xs.length:=by simp[fO]
theorem jU(h:k<xs.length):fJ (fO xs k f) k=f (fJ xs k):=by simp[fJ,fO,vE,h]
theorem jQ(h:k≠j):fJ (fO xs k f) j=fJ xs j:=by simp[fJ,fO,vE,h]
theorem jh(h:k<xs.length):fJ (fO xs k f) j=if k=j then f (fJ xs k)else fJ xs j:=by
 split
 . rename_i e;subst e;exact jU h
 . rename_i e;exact jQ e
end
section
variable {α:Type} {cf:α->List Value} {sz:Nat}
theorem rU(a:∀ x:α,(cf x).length=sz)(xs:List α):(xs.flatMap cf).length=xs.length*sz:=by
 induction xs with
 | nil=>simp
 | cons x xs b=>rw[z6,zw,a,b,zh,sI];omega
theorem SK{a b vs:List Value}{o:Nat}:setAt (a++b) (a.length+o) vs=a++setAt b o vs:=by
 unfold setAt
 rw[List.take_append,List.drop_append]
 simp only[Nat.add_sub_cancel_left,nu]
 rw[vt o_,show a.length+o+vs.length-a.length=o+vs.length by omega,LS o_,tv]
theorem SJ{a b vs:List Value}{o:Nat}(h:o+vs.length<=a.length):setAt (a++b) o vs=setAt a o vs++b:=by
 unfold setAt
 rw[LP o_,List.drop_append_of_le_length o_]
 simp only[nu]
theorem YU(c:∀ x:α,(cf x).length=sz):∀ (xs:List α) (k off:Nat) (x a : α) (vs:List Value),xs[k]? = some x->cf a = setAt (cf x) off vs->off+vs.length<=sz->setAt (xs.flatMap cf) (k*sz+off) vs=(xs.set k a).flatMap cf:=by
 intro xs
 induction xs with
 | nil=>intro k off x a vs h;simp at h
 | cons f xs e =>
  intro k off x a vs b d hv
  cases k with
  | zero =>
   simp at b
   subst b
   rw[List.set_cons_zero,z6,z6,Nat.zero_mul,lS,SJ (by rw[c];exact hv),d]
  | succ k =>
   rw[List.set_cons_succ,z6,z6,show (k+1)*sz+off=(cf f).length+(k*sz+off) by rw[c,sI];omega,SK]
   rw[e k off x a vs (by simpa using b) d hv]
end
section
variable {α:Type} [Inhabited α] {cf:α->List Value} {sz:Nat} {w:World} {bs:List (World×List Nat)} {L:List fS} {xs:List α} {b i k off:Nat} {T:TypeId} {v:Value} {vs:List Value} {f:α->α}
theorem St.Ky(h:St bs L w)(hi:L[i]? = some (blk b T (xs.flatMap cf)))(c:∀ x:α,(cf x).length=sz)(hk:k<xs.length)(a:(cf (fJ xs k))[off]? = some v):w.cell? ⟨b,k*sz+off,none⟩=some v :=
 h.rQ hi (wm c xs k off _ v (gz hk) a)
theorem St.ady(h:St bs L w)(hi:L[i]? = some (blk b T (xs.flatMap cf)))(d:∀ x:α,(cf x).length=sz)(hk:k<xs.length)(c:((cf (fJ xs k)).drop off).take vs.length=vs):∀ j u,vs[j]? = some u->w.cell? ⟨b,k*sz+off+j,none⟩=some u:=by
 intro j u a
 rw[<-c,vD]at a
 split at a
 . rw[He]at a
   rw[lg]
   exact h.Ky hi d hk a
 . cases a
theorem FV(a:∀ x:α,(cf x).length=sz)(hk:k<xs.length)(b:cf (f (fJ xs k))=setAt (cf (fJ xs k)) off vs)(hv:off+vs.length<=sz):setAt (xs.flatMap cf) (k*sz+off) vs=(fO xs k f).flatMap cf :=
 YU a xs k off _ _ vs (gz hk) b hv
theorem Kz(a:∀ x:α,(cf x).length=sz)(hk:k<xs.length){n:Nat}(hv:off+n<=sz):k*sz+off+n<=(xs.flatMap cf).length:=by
 rw[rU a]
 have:(k+1)*sz<=xs.length*sz:=DI _ hk
 rw[sI]at this
 omega
end
end Go.Sx
namespace Go.Sx
open Go
section
variable {α:Type} [Inhabited α] {cf:α->List Value} {sz:Nat} {w w0:World} {bs:List (World×List Nat)} {L:List fS} {xs:List α} {b k off:Nat} {T:TypeId} {v:Value} {vs:List Value}
theorem St.Sv(h:St bs L w)(hb:(w0,[])∈bs)(a:(blk b T (xs.flatMap cf)).holds w0)(d:∀ x:α,(cf x).length=sz)(hk:k<xs.length)(c:(cf (fJ xs k))[off]? = some v):w.cell? ⟨b,k*sz+off,none⟩=some v :=
 h.KH hb a (wm d xs k off _ v (gz hk) c)
theorem St.adT(h:St bs L w)(hb:(w0,[])∈bs)(c:(blk b T (xs.flatMap cf)).holds w0)(e:∀ x:α,(cf x).length=sz)(hk:k<xs.length)(d:((cf (fJ xs k)).drop off).take vs.length=vs):∀ j u,vs[j]? = some u->w.cell? ⟨b,k*sz+off+j,none⟩=some u:=by
 intro j u a
 rw[<-d,vD]at a
 split at a
 . rw[He]at a
   rw[lg]
   exact h.Sv hb c e hk a
 . cases a
end
end Go.Sx
namespace Go.Sx
open Go
section
variable {r:Option Nat} {P:Program} {ops:Array Oper} {Q:Exit->Act->World->Prop} {rest:List Oper} {n:Nat} {s:List (Nat×Value)} {ds:List Deferred} {w:World}
variable {d:Nat} {dd:Option Nat} {ty t e:TypeId} {pos:String} {af:Array Edge} {g:Option (Nat×Bool)} {x y:Operand} {cs:Array Value} {k:IntKind} {i:Int} {len by_:Nat} {u:TypeDesc} {v z:Value}
theorem ZR(f:ev n s x = .agg cs)(h:ev n s y = .int k i)(d:P.underlying t=some (.array len e))(b:P.underlying e=some u)(c:j9 u=false)(hi:TI P e 1 by_ z)(a:0<=i/\i<(len:Int))(hv:cs[i.toNat]? = some v) :
 (execOp (ev n s) ⟨dd,.index t x y,ty,pos,af,g⟩).run P w = .ok (.value v) w:=by
 simp[execOp,f,h,Instr.index,asIntOf,run_underlying d,a,hi.size,part,wU b,c,hv]
theorem mJ(c:gE ops n s g=true)(j:ev n s x = .agg cs)(l:ev n s y = .int k i)(h:P.underlying t=some (.array len e))(b:P.underlying e=some u)(f:j9 u=false)(hi:TI P e 1 by_ z)(a:0<=i/\i<(len:Int))(hv:cs[i.toNat]? = some v)
 (K:WL r P ops Q rest (Fr n ((d,v) :: s) ds) w):WL r P ops Q (⟨some d,.index t x y,ty,pos,af,g⟩ :: rest) (Fr n s ds) w:=pw c (fun _=>ZR j l h b f hi a hv) K
end
end Go.Sx
namespace Go.Sx
open Go
section
variable {α:Type} {cf:α->List Value} {sz:Nat} {w:World} {bs:List (World×List Nat)} {L:List fS} {ys:List α} {b i:Nat} {v:Value} {e:TypeId}
theorem St.ad6(h:St bs L w)(hi:L[i]? = some (fM cf v e sz ys))(o:0<ys.length) :
 ∃ b a ex,v = .slice (some ⟨b,0,none⟩) ys.length a/\ys.length<=a/\a<=maxLen/\(ys.flatMap cf++ex).length=a*sz/\St bs (L.set i (blk b e (ys.flatMap cf++ex))) w:=by
 have m:w.ownsRow 0 e sz v ys.length (ys.flatMap cf):=h.own _ (zd hi)
 rcases m.2 with ⟨_,n⟩|⟨c, a,cur,rfl,_,l,f,g,j,k⟩
 . omega
 . have e1:cur.toList=ys.flatMap cf++cur.toList.drop (ys.length*sz):=by
    rw[<-k,vu]
   refine⟨c, a,cur.toList.drop (ys.length*sz),rfl,f,g,by rw[<-e1];simpa using j,?_⟩
   refine h.iN hi (gA.refl _ _) (fun x d=>.inl (by simpa[row,Value.ownBlock,blk]using d)) (by simp[blk]) (fun x d=>?_) ?_
   . grind [blk]
   . show w.heap[c]? = some (.cells (ys.flatMap cf++cur.toList.drop (ys.length*sz)).toArray e (0,0))
     rw[<-e1]
     simpa using l
theorem St.NC{ex:List Value}{cap:Nat}(h:St bs L w)(hi:L[i]? = some (blk b e (ys.flatMap cf++ex)))(d:∀ x:α,(cf x).length=sz)(a:ys.length<=cap)(hm:cap<=maxLen)(c:(ys.flatMap cf++ex).length=cap*sz) :
 St bs (L.set i (fM cf (.slice (some ⟨b,0,none⟩) ys.length cap) e sz ys)) w:=by
 have:=h.TN hi c a hm
 grind [rU]
theorem St.ad5{m:Nat}(h:St bs L w)(hi:L[i]? = some (fM cf v e sz ys))(o:∀ x:α,(cf x).length=sz)(hm:m<=ys.length):St bs (L.set i (fM cf (oI sz v 0 m) e sz (ys.take m))) w:=by
 have p:w.ownsRow 0 e sz v ys.length (ys.flatMap cf):=h.own _ (zd hi)
 have d:(ys.take m).length=m:=by rw[z8];omega
 have l:(ys.take m).flatMap cf=(ys.flatMap cf).take (m*sz):=by
  have e1:ys.flatMap cf=(ys.take m).flatMap cf++(ys.drop m).flatMap cf:=by rw[<-List.flatMap_append,vu]
  grind [rU]
 rcases p.2 with ⟨rfl,q⟩|⟨c, b,cur,rfl,_,n,r,f,g,j⟩
 . have k:m=0:=by omega
   subst k
   refine h.iN hi (gA.refl _ _) (fun x a=>.inl (by simp[row,Value.ownBlock,oI]at a)) (by simp[row,Value.ownBlock,oI]) (fun x a=>by simp[row,Value.ownBlock,oI]at a) ?_
   exact⟨s_,.inl ⟨by simp[oI],s_⟩⟩
 . have hv:oI sz (.slice (some ⟨c, 0,none⟩) ys.length b) 0 m = .slice (some ⟨c, 0,none⟩) m b:=by
    simp only[oI,Nat.sub_zero,Nat.zero_mul,xA,Addr.add_lit,qD]
    split<;>rfl
   rw[hv]
   refine h.iN hi (gA.refl _ _) (fun x a=>.inl (by simpa[row,Value.ownBlock]using a)) (by simp[row,Value.ownBlock]) (fun x a=>?_) ?_
   . simp[row,Value.ownBlock]at a
     grind
   . refine⟨by rw[rU o],.inr ⟨c, b,cur,by rw[d],oO _,n,by rw[d];omega,f,g,?_⟩⟩
     rw[d,l,<-j,List.take_take,qC (DI _ hm)]
end
section
variable {α:Type} [Inhabited α] {cf:α->List Value} {sz:Nat} {w:World} {bs:List (World×List Nat)} {L L' : List fS} {ys:List α} {b i k off:Nat} {v u:Value} {e:TypeId} {vs:List Value} {f:α->α}
variable {r:Option Nat} {P:Program} {ops:Array Oper} {Q:Exit->Act->World->Prop} {rest l:List Oper} {n:Nat} {s s0:List (Nat×Value)} {ds:List Deferred} {Nx:Value->World->Prop}
variable {d:Nat} {dd:Option Nat} {ty t:TypeId} {pos:String} {af:Array Edge} {g:Option (Nat×Bool)} {x y:Operand} {szt by_:Nat} {z:Value}
theorem aeY(i:Nat)(D:ev n s x=jW sz v k off)(F:ev n s y=u)(hvs:u.cells.toList=vs)(C:TI P t szt by_ z)(B:vs.length=szt)(h1:vs.all (·.oneCell')=true)(A:St bs L w)(hi:L[i]? = some (fM cf v e sz ys))(a:∀ x:α,(cf x).length=sz)(hk:k<ys.length)(c:Nat.ble (off+vs.length) sz=true)
 (l:cf (f (fJ ys k))=setAt (cf (fJ ys k)) off vs) (h:L.set i (fM cf v e sz (fO ys k f))=L') :
 ∃ w', (execOp (ev n s) ⟨dd,.store t x y,ty,pos,af,g⟩).run P w = .ok .skip w' /\ St bs L' w' := by
 have c:=pq c
 have d:=(zk.1 hi).1
 obtain⟨b,cap,ex,rfl,j,hm,o,hs⟩:=A.ad6 hi o_
 have E : ev n s x = .pointer (some ⟨b,k*sz+off,none⟩):=by rw[D];simp[jW]
 have m:=Kz a hk (n:=vs.length) c
 have hb:(L.set i (blk b e (ys.flatMap cf++ex)))[i]? = some (blk b e (ys.flatMap cf++ex)):=by simp[d]
 obtain⟨w', q,r, _⟩:=K5 (dd:=dd) (ty:=ty) (pos:=pos) (af:=af) (g:=g) (cs' := (fO ys k f).flatMap cf++ex) i E F hvs C B h1 hs hb (by rw[zw];omega) (by rw[SJ m,FV a hk l c]) rfl
 refine⟨w', q,?_⟩
 have p : ((fO ys k f).flatMap cf++ex).length=cap*sz:=by rw[<-o,zw,zw,rU a,rU a,gC]
 have:=r.NC (ys:=fO ys k f) (ex:=ex) (cap:=cap) (i:=i) (b:=b) (e:=e) (by simp[d]) a (by rw[gC];exact j) hm p
 subst h
 simpa[gC]using this
theorem aeX(i:Nat)(h:gE ops n s g=true)(q:ev n s x=jW sz v k off)(A:ev n s y=u)(hvs:u.cells.toList=vs)(p:TI P t szt by_ z)(o:vs.length=szt)(h1:vs.all (·.oneCell')=true)(m:St bs L w)(hi:L[i]? = some (fM cf v e sz ys))(j:∀ x:α,(cf x).length=sz)(hk:k<ys.length)(l:Nat.ble (off+vs.length) sz=true)
 (d:cf (f (fJ ys k))=setAt (cf (fJ ys k)) off vs) (c:L.set i (fM cf v e sz (fO ys k f))=L')
 (K:∀ w', St bs L' w' -> WL r P ops Q rest (Fr n s ds) w'):WL r P ops Q (⟨none,.store t x y,ty,pos,af,g⟩ :: rest) (Fr n s ds) w:=by
 obtain⟨w', a,b⟩:=aeY (dd:=none) (ty:=ty) (pos:=pos) (af:=af) (g:=g) i q A hvs p o h1 m hi j hk l d c
 exact Dw h rfl a (K w' b)
end
section
variable {α:Type}
def gN(cf:α->List Value)(T:TypeId)(B:Nat)(ps:List (Option Nat))(xs:List α):fS where
 gJ:=ps.filterMap id
 holds w:=∀ (j b:Nat),ps[j]? = some (some b)->w.heap[b]? = some (.cells (((xs.drop (B*j)).take B).flatMap cf).toArray T (0,0))
 loc w w' h hh j b hb:=by
  rw[h b (Hf.2 ⟨some b,zd hb,rfl⟩)]
  exact hh j b hb
def iA(p:Option Nat):List Value:=[.pointer (p.map fun b=>⟨b,0,none⟩)]
variable [Inhabited α] {cf:α->List Value} {sz B:Nat} {w:World} {bs:List (World×List Nat)} {L:List fS} {xs C:List α} {b i k off j:Nat} {v:Value} {T:TypeId} {vs:List Value} {f:α->α} {ps:List (Option Nat)}
theorem mem_some{ps:List (Option Nat)}{j b:Nat}(h:ps[j]? = some (some b)):b∈ps.filterMap id:=Hf.2 ⟨some b,zd h,rfl⟩
theorem Iq(a:0<B)(hk:k<xs.length):fJ ((xs.drop (B*(k / B))).take B) (k%B)=fJ xs k/\k%B<((xs.drop (B*(k / B))).take B).length:=by
 have b:=BK k a
 have c:=Nat.div_add_mod k B
 constructor
 . grind [fJ]
 . grind
theorem St.Vx(h:St bs L w)(hi:L[i]? = some (gN cf T B ps xs))(g:∀ x:α,(cf x).length=sz)(d:0<B)(hk:k<xs.length)(hp:ps[k / B]? = some (some b))(e:(cf (fJ xs k))[off]? = some v):w.cell? ⟨b,k%B*sz+off,none⟩=some v:=by
 have f:=h.own _ (zd hi) _ _ hp
 rw[cell_of_row w b _ _ T (0,0) f]
 obtain⟨a,c⟩:=Iq d hk
 have:=wm g _ (k%B) off _ v (gz c) (by rw[a];exact e)
 simpa using this
theorem VC(a:0<B)(hk:k<xs.length):((fO xs k f).drop (B*(k / B))).take B=fO ((xs.drop (B*(k / B))).take B) (k%B) f:=by
 obtain⟨b,c⟩:=Iq a hk
 have d:=BK k a
 have e:=Nat.div_add_mod k B
 unfold fO
 rw[b,List.drop_set,if_neg o_,List.take_set]
 congr 1
 omega
theorem VB(a:0<B){j:Nat}(d:j≠k / B):((fO xs k f).drop (B*j)).take B=(xs.drop (B*j)).take B:=by
 have b:=BK k a
 have c:=Nat.div_add_mod k B
 unfold fO
 rw[List.drop_set]
 split
 . rfl
 . rename_i e
   rw[List.take_set_of_le]
   rcases xB j (k / B)with h|h
   . have:B*(j+1)<=B*(k / B):=BC _ h
     rw[Nat.mul_add]at this
     omega
   . have:B*(k / B+1)<=B*j:=BC _ o_
     rw[Nat.mul_add]at this
     omega
end
section
variable {α:Type} [Inhabited α] {cf:α->List Value} {sz B:Nat} {w:World} {bs:List (World×List Nat)} {L L' : List fS} {xs C:List α} {b i k off j:Nat} {v u:Value} {T:TypeId} {vs:List Value} {f:α->α} {ps:List (Option Nat)}
variable {r:Option Nat} {P:Program} {ops:Array Oper} {Q:Exit->Act->World->Prop} {rest l:List Oper} {n:Nat} {s s0:List (Nat×Value)} {ds:List Deferred} {Nx:Value->World->Prop}
variable {d:Nat} {dd:Option Nat} {ty t:TypeId} {pos:String} {af:Array Edge} {g:Option (Nat×Bool)} {x y:Operand} {szt by_:Nat} {z:Value}
theorem aeW(i:Nat)(a:ev n s x = .pointer (some ⟨b,k%B*sz+off,none⟩))(W:ev n s y=u)(hvs:u.cells.toList=vs)(V:TI P t szt by_ z)(U:vs.length=szt)(h1:vs.all (·.oneCell')=true)(l:St bs L w)(hi:L[i]? = some (gN cf T B ps xs))(D:∀ x:α,(cf x).length=sz)(o:0<B)(hk:k<xs.length)(hp:ps[k / B]? = some (some b))(d:Nat.ble (off+vs.length) sz=true)
 (K:cf (f (fJ xs k))=setAt (cf (fJ xs k)) off vs) (I:L.set i (gN cf T B ps (fO xs k f))=L') :
 ∃ w', (execOp (ev n s) ⟨dd,.store t x y,ty,pos,af,g⟩).run P w = .ok .skip w' /\ St bs L' w' := by
 have d:=pq d
 obtain⟨A,m⟩:=Iq (xs:=xs) o hk
 have F:=l.own _ (zd hi)
 have v:=F _ _ hp
 obtain⟨ch,C⟩:∃ ch,ch=(xs.drop (B*(k / B))).take B:=⟨_,rfl⟩
 rw[<-C]at A m v
 have M:=Kz D m (n:=vs.length) d
 have G:=run_storeCells_at P b (k%B*sz+off) T vs 0 (ch.flatMap cf).toArray w v (by simpa using M) (by simpa using h1)
 have O:u.cells.size=szt:=by rw[<-U,<-hvs];simp
 have S:setAt (ch.flatMap cf) (k%B*sz+off) vs=(fO ch (k%B) f).flatMap cf:=FV D m (by rw[A];exact K) d
 have N:∀ x∈(gN cf T B ps xs).gJ,x<w.heap.size:=fun x a=>l.lt x (rY hi a)
 have E:(ps.filterMap id).Nodup:=sublist_nodup' l.sep (zd hi)
 refine⟨w.setRow b ((setAt (ch.flatMap cf) (k%B*sz+off) vs).toArray),?_,?_⟩
 . simp only[execOp,a,W,Instr.storeAt,Instr.sureAddr,storeVar,zy,jS,zp,V.size,O,ne_eq,not_true,if_false,hvs]
   simp only[qD]at G
   simp[G,setAt]
 . subst I
   refine l.iN hi ((gA.setRow w b _).mono (fun x a=>?_)) (fun c r=>.inl r) E (fun c r=>?_) ?_
   . simp only[lR]at a
     subst a
     exact mem_some hp
   . have:=N c r
     simpa using this
   . intro q c e
     by_cases hqk:q=k / B
     . subst hqk
       rw[hp]at e
       cases e
       rw[VC o hk,<-C,<-S]
       exact setRow_heap w b (ch.flatMap cf).toArray _ T (0,0) v
     . rw[VB o hqk]
       have Q:c≠b:=by
        intro e'
        subst e'
        exact hqk (some_inj E e hp)
       have H:(w.setRow b ((setAt (ch.flatMap cf) (k%B*sz+off) vs).toArray)).heap[c]? = w.heap[c]? := setRow_other w b c _ Q
       rw[H]
       exact F q c e
where
 sublist_nodup' {L:List fS} {R:fS} (h:(iT L).Nodup) (J:R∈L):R.gJ.Nodup:=K6 h J
 some_inj {ps:List (Option Nat)} {b:Nat}:∀ {i j:Nat},(ps.filterMap id).Nodup->ps[i]? = some (some b)->ps[j]? = some (some b)->i=j:=by
  induction ps with
  | nil=>intro i j _ h;simp at h
  | cons p ps X =>
   grind
theorem rm(i:Nat)(j:gE ops n s g=true)(v:ev n s x = .pointer (some ⟨b,k%B*sz+off,none⟩))(A:ev n s y=u)(hvs:u.cells.toList=vs)(q:TI P t szt by_ z)(p:vs.length=szt)(h1:vs.all (·.oneCell')=true)(o:St bs L w)(hi:L[i]? = some (gN cf T B ps xs))(l:∀ x:α,(cf x).length=sz)(d:0<B)(hk:k<xs.length)(hp:ps[k / B]? = some (some b))(m:Nat.ble (off+vs.length) sz=true)
 (h:cf (f (fJ xs k))=setAt (cf (fJ xs k)) off vs) (e:L.set i (gN cf T B ps (fO xs k f))=L')
 (K:∀ w', St bs L' w' -> WL r P ops Q rest (Fr n s ds) w'):WL r P ops Q (⟨none,.store t x y,ty,pos,af,g⟩ :: rest) (Fr n s ds) w:=by
 obtain⟨w', a,c⟩:=aeW (dd:=none) (ty:=ty) (pos:=pos) (af:=af) (g:=g) i v A hvs q p h1 o hi l d hk hp m h e
 exact Dw j rfl a (K w' c)
end
section
variable {α:Type} {cf:α->List Value} {sz B:Nat} {w:World} {bs:List (World×List Nat)} {L:List fS} {xs C:List α} {b j:Nat} {T:TypeId} {ps:List (Option Nat)}
theorem St.Qc{R R' a : fS}(h:St bs (R :: R' :: L) w)(f:a.gJ.Perm (R.gJ++R'.gJ))(e:R.holds w->R'.holds w->a.holds w):St bs (a :: L) w:=by
 have hp:(iT (a :: L)).Perm (iT (R :: R' :: L)):=by
  grind [mY]
 refine⟨fun p d => ⟨(h.base p d).gD,fun b hb=>(h.base p d).mine b (hp.mem_iff.1 hb)⟩,fun Q c=>?_,hp.nodup_iff.2 h.sep,fun b hb=>h.lt b (hp.mem_iff.1 hb)⟩
 rcases zg.1 c with rfl|c
 . exact e (h.own R s_) (h.own R' s_)
 . exact h.own Q (by simp[c])
theorem acK{ps:List (Option Nat)}{b:Nat}:∀ {j:Nat},ps[j]? = some none->((ps.set j (some b)).filterMap id).Perm (b :: ps.filterMap id):=by
 induction ps with
 | nil=>intro j h;simp at h
 | cons p ps a =>
  intro j h
  cases j with
  | zero =>
   simp at h
   subst h
   simp
  | succ j =>
   grind
theorem St.NR{cs:List Value}(h:St bs (blk b T cs :: gN cf T B ps xs :: L) w)(d:ps[j]? = some none)(g:cs=((xs.drop (B*j)).take B).flatMap cf):St bs (gN cf T B (ps.set j (some b)) xs :: L) w:=by
 have i:=(zk.1 d).1
 refine h.Qc (by simpa[gN,blk]using acK d) fun e f q c a=>?_
 rw[vE]at a
 split at a
 . rename_i e'
   subst e'
   cases a
   rw[<-g]
   exact e
 . exact f q c a
theorem St.NS{cs:List Value}(h:St bs (blk b T cs :: gN cf T B ps xs :: L) w)(j:xs.length=B*ps.length)(l:C.length=B)(f:cs=C.flatMap cf):St bs (gN cf T B (ps++[some b]) (xs++C) :: L) w:=by
 refine h.Qc (by simp only[gN,blk,L4];exact rD) fun d e q c a=>?_
 rw[L6]at a
 split at a
 . rename_i g
   have:B*(q+1)<=B*ps.length:=BC _ g
   rw[Nat.mul_add]at this
   rw[List.drop_append_of_le_length o_,LP (by rw[BF];omega)]
   exact e q c a
 . rename_i k
   have i : q=ps.length:=by
    grind
   subst i
   simp at a
   subst a
   rw[<-j,List.drop_left,vt o_,<-f]
   exact d
theorem St.Ez(h:St bs L w)(m:Nat):St bs (gN cf T B (List.replicate m none) xs :: L) w:=by
 refine h.add (lo:=w.heap.size) (fun p hp=>(h.base p hp).gD.size) h.lt (fun b hb=>?_) ?_ (fun b hb=>?_) ?_
 . simp[gN]at hb
 . simp[gN]
 . simp[gN]at hb
 . intro j b hb
   grind
end
section
variable {α:Type} {cf:α->List Value} {z0:α}
theorem abf{z:Value}{sz:Nat}(k:z.cells.toList=cf z0)(a:∀ x:α,(cf x).length=sz)(f:0<sz)(c:Nat):madeCells z.cells (c*sz)=((List.replicate c z0).flatMap cf).toArray:=by
 have l:z.cells.size=sz:=by rw[<-sH,k,a]
 apply Array.ext'
 apply nU
 intro i
 by_cases hi:i<c*sz
 . have b:i / sz<c:=(L5 f).2 hi
   have d:i%sz<(cf z0).length:=by rw[a];exact BK _ f
   obtain⟨u,j⟩:=pS d
   have e:=wm a (List.replicate c z0) (i / sz) (i%sz) z0 u (by rw[uh,if_pos b]) j
   rw[BG]at e
   have g:z.cells[i%z.cells.size]! = u:=by
    grind
   have h:(madeCells z.cells (c*sz)).toList[i]? = some (z.cells[i%z.cells.size]!):=by simp[madeCells,hi]
   rw[h,g]
   simpa using e.symm
 . have b:(madeCells z.cells (c*sz)).toList[i]? = none:=by rw[mw];simp[madeCells];omega
   have d:((List.replicate c z0).flatMap cf).length=c*sz:=by rw[rU a,xq]
   grind
end
section
variable {α:Type} {cf:α->List Value} {z0:α}
variable {r:Option Nat} {P:Program} {ops:Array Oper} {Q:Exit->Act->World->Prop} {rest l:List Oper} {n:Nat} {s s0:List (Nat×Value)} {ds:List Deferred} {w:World} {Nx:Value->World->Prop}
variable {d:Nat} {dd:Option Nat} {ty t e:TypeId} {pos:String} {af:Array Edge} {g:Option (Nat×Bool)} {x y:Operand} {sz by_:Nat} {z:Value} {bs:List (World×List Nat)} {L:List fS}
theorem Q4{k k' : IntKind}{c m:Nat}(p:ev n s x = .int k (m:Int))(q:ev n s y = .int k' (c:Int))(o:P.underlying t=some (.slice e))(hi:TI P e sz by_ z)(r:z.cells.toList=cf z0)(j:∀ x:α,(cf x).length=sz)(l:0<sz)(hm:m<=c)(hb:by_*c<=281474976710656)(u:c<=9223372036854775807) :
 (execOp (ev n s) ⟨dd,.makeSlice t x y,ty,pos,af,g⟩).run P w = .ok (.value (.slice (some ⟨w.heap.size,0,none⟩) m c)) (w.alloc (.cells ((List.replicate c z0).flatMap cf).toArray e)):=by
 obtain⟨i,h,b,d,f⟩:=hi.get
 subst d
 have a:=run_make (P:=P) w t e i z o h f k k' m c o_ o_ (by rw[<-Int.natCast_mul];omega) o_
 simp only[nt,b]at a
 rw[abf r j l]at a
 simp only[execOp,p,q,zy,a,zp,jS]
theorem rZ{k k' : IntKind}{c m:Nat}(f:gE ops n s g=true)(o:ev n s x = .int k (m:Int))(p:ev n s y = .int k' (c:Int))(l:P.underlying t=some (.slice e))(hi:TI P e sz by_ z)(q:z.cells.toList=cf z0)(h:∀ x:α,(cf x).length=sz)(j:0<sz)(hm:m<=c)(hb:by_*c<=281474976710656)(a:c<=9223372036854775807)(i:St bs L w)
 (K:∀ b w', w.heap.size<=b->gA [] w w' -> St bs (blk b e ((List.replicate c z0).flatMap cf) :: L) w' -> WL r P ops Q rest (Fr n ((d,.slice (some ⟨b,0,none⟩) m c) :: s) ds) w') :
 WL r P ops Q (⟨some d,.makeSlice t x y,ty,pos,af,g⟩ :: rest) (Fr n s ds) w :=
 pv f rfl (Q4 o p l hi q h j hm hb a) (K _ _ (zo _) (gA.alloc [] w _) (yK i e _))
theorem rX{k k' : IntKind}{c m:Nat}(d:gE ops n s g=true)(o:ev n s x = .int k (m:Int))(p:ev n s y = .int k' (c:Int))(j:P.underlying t=some (.slice e))(hi:TI P e sz by_ z)(q:z.cells.toList=cf z0)(f:∀ x:α,(cf x).length=sz)(i:0<sz)(hm:m<=c)(hb:by_*c<=281474976710656)(a:c<=9223372036854775807)(h:St bs L w)
 (K:∀ b w', St bs (blk b e ((List.replicate c z0).flatMap cf) :: L) w' -> Nx (.slice (some ⟨b,0,none⟩) m c) w') :
 nC P ops Q n ds s0 l ⟨dd,.makeSlice t x y,ty,pos,af,g⟩ s Nx w :=
 FF d rfl (Q4 o p j hi q f i hm hb a) (K _ _ (yK h e _))
theorem St.Vl{b c m i:Nat}(h:St bs L w)(hi:L[i]? = some (blk b e ((List.replicate c z0).flatMap cf)))(a:∀ x:α,(cf x).length=sz)(hm:m<=c)(d:c<=maxLen):St bs (L.set i (fM cf (.slice (some ⟨b,0,none⟩) m c) e sz (List.replicate m z0))) w:=by
 have e1:(List.replicate c z0).flatMap cf=(List.replicate m z0).flatMap cf++(List.replicate (c-m) z0).flatMap cf:=by
  rw[<-List.flatMap_append,List.replicate_append_replicate]
  congr 2
  omega
 rw[e1]at hi
 have:=h.NC (cf:=cf) (ys:=List.replicate m z0) (cap:=c) hi a (by simpa using hm) d (by rw[<-e1,rU a,xq])
 simpa using this
end
theorem St.made{w w' : World}{bs:List (World×List Nat)}{L:List fS}{R:fS}(h:St bs L w)(a:fZ (gq []) w w' R):St bs (R :: L) w' :=
 h.sQ (by simpa[gq,iT]using a.gD) (fun b hb=>(a.place b hb).elim (fun h=>by simp[gq,iT]at h) id) a.nodup a.lt a.holds
theorem St.Oc{w w' : World}{bs:List (World×List Nat)}{L:List fS}{R:fS}(h:St bs (R :: L) w')(hb:(w,[])∈bs):fZ (gq []) w w' R:=h.EI (R:=gq []) hb
theorem A8{e:Option Nat}{b:Nat}(h:e=some b):Value.pointer (e.map fun b=>(⟨b,0,none⟩:Addr)) = .pointer (some ⟨b,0,none⟩):=by rw[h];rfl
def wK:Value->Bool
 | .slice none _ _=>true
 | _=>false
section
variable {r:Option Nat} {P:Program} {ops:Array Oper} {Q:Exit->Act->World->Prop} {rest:List Oper} {n:Nat} {s:List (Nat×Value)} {ds:List Deferred} {w w0 w' : World} {d:Nat} {ty t t' e:TypeId} {pos:String} {af:Array Edge} {g:Option (Nat×Bool)} {v:Value} {x y:Operand}
theorem Ct{α:Type}{sz:Nat}{enc:World->α->List Value->Prop}{ok:Nat->Prop}{ys:List α}(f:gE ops n s g=true)(i:ev n s x=v)(j:ev n s y = .slice none 0 0)(h:P.underlying t=some (.slice e))(b:Sl sz enc ok w0 v ys)
 (K:WL r P ops Q rest (Fr n ((d,.bool (wK v)) :: s) ds) w):WL r P ops Q (⟨some d,.binOp .eql t x y t', ty,pos,af,g⟩ :: rest) (Fr n s ds) w:=by
 obtain⟨a,c,rfl,_⟩:=b
 have:wK (.slice a ys.length c)=a.isNone:=by cases a<;>rfl
 rw[this]at K
 exact Yt f i j h K
theorem CX{α:Type}{sz:Nat}{enc:World->α->List Value->Prop}{ok:Nat->Prop}{ys:List α}(h:wK v=true)(e:Sl sz enc ok w0 v ys):ys=[]:=by
 obtain⟨a,c,rfl,g,i,d⟩:=e
 cases ys with
 | nil=>rfl
 | cons y ys =>
  obtain⟨b,o,vs,f,_⟩:=d 0 y rfl
  subst f
  cases h
theorem qb.CW {α:Type}{sz:Nat}{cf:α->List Value}{e:TypeId}:qb sz cf w w' (.slice none 0 0) e ([]:List α):=⟨⟨s_,.inl ⟨rfl,rfl⟩⟩,fun b hb=>by simp[Value.ownBlock]at hb⟩
end
section
variable {α:Type} {cf:α->List Value} {w:World} {bs:List (World×List Nat)} {L:List fS} {xs:List α} {b i j B:Nat} {T:TypeId} {ps:List (Option Nat)}
theorem St.NQ(h:St bs L w)(hi:L[i]? = some (gN cf T B ps xs))(hp:ps[j]? = some (some b)):∀ q u,(((xs.drop (B*j)).take B).flatMap cf)[q]? = some u->w.cell? ⟨b,0+q,none⟩=some u:=by
 intro q u c
 have a:=h.own _ (zd hi) _ _ hp
 rw[cell_of_row w b _ _ T (0,0) a]
 simpa using c
theorem NW{sz:Nat}(b:∀ x:α,(cf x).length=sz)(c:xs.length=B*ps.length)(a:j<ps.length):(((xs.drop (B*j)).take B).flatMap cf).length=B*sz:=by
 rw[rU b,z8,BF]
 have:B*(j+1)<=B*ps.length:=BC _ a
 grind
theorem SI{cs vs:List Value}(h:vs.length=cs.length):setAt cs 0 vs=vs:=by
 grind [setAt]
end
theorem xY{α:Type}{cf:α->List Value}(h:∀ a,(cf a).all (·.oneCell')=true)(xs:List α):∀ x∈xs.flatMap cf,x.oneCell' = true:=by
 grind
structure qE (ps qs:List (Option Nat)) (k:Nat):Prop where
 len:qs.length=ps.length
 rest:∀ j,k<=j->j<ps.length->qs[j]? = some none
 done:∀ j,j<k->qs[j]? = some none->ps[j]? = some none
theorem qE.start(ps:List (Option Nat)):qE ps (List.replicate ps.length none) 0 :=
 ⟨s_,fun j _ a=>by rw[uh,if_pos a],fun j a=>absurd a o_⟩
theorem qE.skip{ps b:List (Option Nat)}{k:Nat}(h:qE ps b k)(hk:ps[k]? = some none):qE ps b (k+1) :=
 ⟨h.len,fun j c a=>h.rest j o_ a,fun j c a=>by
  by_cases e:j=k
  . subst e;exact hk
  . exact h.done j o_ a⟩
theorem qE.set{ps c:List (Option Nat)}{k b:Nat}(h:qE ps c k)(hk:k<ps.length):qE ps (fO c k (fun _=>some b)) (k+1):=by
 have f:=h.len
 refine⟨by rw[gC];exact f,fun j d a=>?_,fun j d a=>?_⟩
 . unfold fO
   rw[List.getElem?_set_ne o_]
   exact h.rest j o_ a
 . unfold fO at a
   by_cases e:k=j
   . grind
   . rw[List.getElem?_set_ne e]at a
     exact h.done j o_ a
theorem qE.next{ps a:List (Option Nat)}{k:Nat}(h:qE ps a k)(hk:k<ps.length):a[k]? = some none:=h.rest k (zo _) hk
end Go.Sx
namespace Go.Sx
open Go
def kE(p:Prop)(R:fS):fS where
 gJ:=R.gJ
 holds w:=p/\R.holds w
 loc w w' h hh:=⟨hh.1,R.loc w w' h hh.2⟩
section
variable {w w' w0:World} {bs:List (World×List Nat)} {L LL:List fS} {R R' : fS} {p p' : Prop}
theorem Own.fact(h:Own (kE p R) w):p:=h.holds.1
theorem Own.un(h:Own (kE p R) w):Own R w:=⟨h.holds.2,h.nodup,h.lt⟩
theorem fZ.rz(h:fZ R w w' R')(hp:p'):fZ (kE p R) w w' (kE p' R'):=⟨⟨hp,h.holds⟩,h.gD,h.place,h.nodup,h.lt⟩
theorem fZ.GB(h:fZ R w w' R')(hp:p'):fZ R w w' (kE p' R'):=⟨⟨hp,h.holds⟩,h.gD,h.place,h.nodup,h.lt⟩
theorem fZ.LB(h:fZ R w w' R'):fZ (kE p R) w w' R' := ⟨h.holds,h.gD,h.place,h.nodup,h.lt⟩
theorem St.un(h:St bs (kE p R :: L) w):St bs (R :: L) w :=
 ⟨fun q b=>⟨(h.base q b).gD,(h.base q b).mine⟩,fun Q a=>by
  rcases zg.1 a with rfl|a
  . exact(h.own (kE p Q) s_).2
  . exact h.own Q (by simp[a]),h.sep,h.lt⟩
theorem St.rz(h:St bs (R :: L) w)(hp:p):St bs (kE p R :: L) w :=
 ⟨fun q b=>⟨(h.base q b).gD,(h.base q b).mine⟩,fun Q a=>by
  rcases zg.1 a with rfl|a
  . exact⟨hp,h.own R s_⟩
  . exact h.own Q (by simp[a]),h.sep,h.lt⟩
theorem St.fact(h:St bs (kE p R :: L) w):p:=(h.own (kE p R) s_).1
theorem St.YA{i:Nat}(h:St bs L w)(hi:L[i]? = some (kE p R)):p:=(h.own (kE p R) (zd hi)).1
theorem Own.of{L:List fS}(h:Own (gq L) w):St [(w,(gq L).gJ)] L w:=by
 have a:=(St.Jl h).unpack
 rwa [vH]at a
theorem St.WB(h:St bs L w')(hb:(w,R.gJ)∈bs):fZ R w w' (gq L):=by
 have a:St bs (L++[]) w' := by rwa [vH]
 exact(St.pack L [] a).EI hb
theorem fZ.E4{A B:List fS}(h:fZ R w w' (gq (A++B))):fZ R w w' (gq [gq A,gq B]):=by
 have c:(gq [gq A,gq B]).gJ=(gq (A++B)).gJ:=by simp[gq,iT]
 refine⟨fun Q d=>?_,h.gD,fun b hb=>h.place b (c▸hb),c▸h.nodup,fun b hb=>h.lt b (c▸hb)⟩
 simp only[zg,mz,or_false]at d
 rcases d with rfl|rfl
 . exact fun S a=>h.holds S (xw _ a)
 . exact fun S a=>h.holds S (xu _ a)
theorem fZ.CO{a : fS}(h:fZ R w w' R')(c:a.gJ=R'.gJ)(d:R'.holds w' -> a.holds w'):fZ R w w' a :=
 ⟨d h.holds,h.gD,fun b hb=>h.place b (c▸hb),c▸h.nodup,fun b hb=>h.lt b (c▸hb)⟩
end
end Go.Sx
namespace Go.Sx
open Go
def De(L:List fS):List Nat->List fS
 | []=>[]
 | i :: r=>match L[i]? with
  | some x=>x :: De L r
  | none=>De L r
theorem SG(L:List fS):∀ ix,De L ix=ix.filterMap fun i=>L[i]?
 | []=>rfl
 | i :: r=>by
  simp only[De,rE]
  cases L[i]? <;> simp[SG L r]
theorem aem(L:List fS):(List.range L.length).filterMap (fun i=>L[i]?)=L:=by
 apply nU
 intro j
 have h:∀ (n:Nat),n<=L.length->(List.range n).filterMap (fun i=>L[i]?)=L.take n:=by
  intro n
  induction n with
  | zero=>intro _;rfl
  | succ n a =>
   intro b
   rw[tw,L4,a o_,qz]
   simp only[rE,List.filterMap_nil]
   cases L[n]? <;> simp
 rw[h _ (zo _),qB]
theorem KU(L:List fS):∀ ix:List Nat,(ix.filter fun i=>decide (i<L.length)).filterMap (fun i=>L[i]?)=ix.filterMap fun i=>L[i]?
 | []=>rfl
 | i :: r=>by
  by_cases h:i<L.length
  . rw[By (by simpa using h),rE,rE,KU L r]
  . rw[Bx (by simpa using h),rE,KU L r,mw o_]
theorem St.re{bs:List (World×List Nat)}{L:List fS}{w:World}(ix:List Nat)(h:St bs L w)(f:ix.Nodup:=by decide):St bs (De L ix) w:=by
 have hp:((ix.filter fun i=>decide (i<L.length))++((List.range L.length).filter fun i=>decide (i∉ix))).Perm (List.range L.length):=by
  rw[List.perm_ext_iff_of_nodup]
  . intro a
    simp only[zr,kD,k9,decide_eq_true_eq]
    by_cases c:a∈ix<;>simp[c]
  . rw[zu]
    refine⟨f.sublist vz,vG.sublist vz,fun a c b hb e=>?_⟩
    subst e
    simp only[kD,decide_eq_true_eq]at c hb
    exact hb.2 c.1
  . exact vG
 have d:=hp.filterMap fun i=>L[i]?
 rw[aem,L4,KU,<-SG]at d
 exact(h.perm d.symm).sub (List.sublist_append_left _ _)
end Go.Sx
namespace Go.Ex
open Go
section
variable {P:Program} {w:World}
theorem aei{F:Fence}{m:Nat}{c:Code}{Q:Exit->Act->World->Prop}{a:Act}(h:c.wpIn F m P (fun e a w=>(∀ l,e ≠ .goto l)/\Q e a w) a w):(Code.scope c).wpIn F m P Q a w:=by
 intro b k cs s hb o
 have d:(lone (b.atR a (.code (.scope c) :: k)) cs w).fenced P F:=fenced_calm hb o rfl
 have s0:Go.step P (lone (b.atR a (.code (.scope c) :: k)) cs w) = .next (lone (b.atR a (.code c :: .inScope c :: k)) cs w):=step_lone_go (by simp[stepG,stepG.exec,Frame.atR])
 have s1:∀ a w,Go.step P (lone (b.atR a (.inScope c :: k)) cs w) = .next (lone (b.atR a k) cs w):=fun a w=>step_lone_go (by simp[stepG,stepG.exec,Frame.atR])
 obtain⟨e,g,j,⟨q,i⟩,f⟩:=h b (.inScope c :: k) cs s hb o
 cases e with
 | normal=>exact⟨.normal,g,j,i,.head d s0 (StepsIn.trans f (.one (fenced_calm hb o rfl) (s1 _ _)))⟩
 | exit id =>
  have p:exitTo id (.inScope c :: k)=exitTo id k:=by simp[exitTo]
  exact⟨.exit id,g,j,i,fun k' n=>.head d s0 (f.1 k' (by rw[p];exact n)),
   fun r n=>let ⟨k₁,h1,h2⟩:=f.2 r (by rw[p];exact n);⟨k₁,h1,.head d s0 h2⟩⟩
 | goto l=>exact absurd rfl (q l)
 | ret=>exact⟨_,g,j,i,.of_steps (.one d s0) f⟩
 | panic ch=>exact⟨_,g,j,i,.of_steps (.one d s0) f⟩
 | outgrown=>exact⟨_,g,j,i,.of_steps (.one d s0) f⟩
end
end Go.Ex
namespace Go.Sx
open Go
def yM(Q:Exit->Act->World->Prop):Exit->Act->World->Prop:=fun e a w=>(∀ l,e ≠ .goto l)/\Q e a w
section
variable {r:Option Nat} {P:Program} {Q:Exit->Act->World->Prop} {c:Code} {a:Act} {w:World} {id:Nat}
theorem scp(h:WP r P c (yM Q) a w):WP r P (.scope c) Q a w:=Go.Ex.aei h
theorem KS(h:Q .normal a w):yM Q .normal a w:=⟨fun _ e=>(by cases e),h⟩
theorem KT(h:Q .ret a w):yM Q .ret a w:=⟨fun _ e=>(by cases e),h⟩
theorem JB{l:Nat}(h:Q .normal a w):WP r P (.label l) Q a w:=wpIn_label h
end
end Go.Sx
namespace Go.Sx
open Go
class NP (Q:Exit->Act->World->Prop):Prop where
 np:∀ c a w,¬ Q (.panic c) a w
 no:∀ a w,¬ Q .outgrown a w
instance NP.thn {K:Act->World->Prop} {Q:Exit->Act->World->Prop} [h:NP Q]:NP (Exit.then K Q):=⟨fun c a w=>h.np c a w,fun a w=>h.no a w⟩
instance NP.blk {i:Nat} {Q:Exit->Act->World->Prop} [h:NP Q]:NP (Exit.inBlock i Q):=⟨fun c a w=>h.np c a w,fun a w=>h.no a w⟩
instance NP.scp {Q:Exit->Act->World->Prop} [h:NP Q]:NP (yM Q):=⟨fun c a w x=>h.np c a w x.2,fun a w x=>h.no a w x.2⟩
instance NP.Db {P:Program} {l:Nat} {R:Ending->World->Prop}:NP (roundPost P l R):=⟨fun _ _ _ h=>h,fun _ _ h=>h⟩
instance NP.fls:NP (fun _ _ _=>False):=⟨fun _ _ _ h=>h,fun _ _ h=>h⟩
instance NP.bdy {P:Program} {fn:Func} {R:Value->World->Prop}:NP (bodyPost P fn (fun e w' => ∃ v,e = .returned v/\R v w')) where
 np c a w x:=by
  have x:a.defers=[]/\∃ v,Ending.panicked c = .returned v/\R v w:=x
  obtain⟨_,v,h,_⟩:=x
  cases h
 no a w x:=by
  have x:∃ v,Ending.outgrown = .returned v/\R v w:=x
  obtain⟨v,h,_⟩:=x
  cases h
section
variable {r:Option Nat} {P:Program} {ops:Array Oper} {Q:Exit->Act->World->Prop} {o x y:Oper} {a:Act} {w:World} {K K' : Act->World->Prop} {v u:Value}
def wn(ops:Array Oper)(o:Oper)(a:Act):Bool:=Region.wanted o (yielded ops a.tmps)
def iM(r:Option Nat)(P:Program)(ops:Array Oper)(Q:Exit->Act->World->Prop)(o:Oper)(K:Act->World->Prop)(a:Act)(w:World):Prop :=
 if wn ops o a=true then kB r P Q o K a w else K (a.put o.dst undef) w
theorem LG{rest:List Oper}:wl r P ops Q (o :: rest) a w=iM r P ops Q o (wl r P ops Q rest) a w:=rfl
theorem iM.mono(h:∀ a w,K a w->K' a w)(b:iM r P ops Q o K a w):iM r P ops Q o K' a w:=by
 unfold iM at *
 split<;>rename_i c
 . rw[if_pos c]at b;exact b.mono h
 . rw[if_neg c]at b;exact h _ _ b
def Y0(P:Program)(ops:Array Oper)(o:Oper)(v:Value)(a:Act):Prop:=(wn ops o a=true/\cat o.op=0/\∀ w,(execOp a.eval o).run P w = .ok (.value v) w)\/(wn ops o a=false/\v=undef)
def Y1(P:Program)(ops:Array Oper)(o:Oper)(v:Value)(a:Act)(w:World):Prop:=wn ops o a=true/\cat o.op=1/\(execOp a.eval o).run P w = .ok (.value v) w
theorem iM.get(b:cat o.op=0\/cat o.op=1)(h:iM r P ops Q o K a w):∃ v,(Y0 P ops o v a\/Y1 P ops o v a w)/\K (a.put o.dst v) w:=by
 unfold iM at h
 cases hw:wn ops o a with
 | false=>rw[if_neg (by rw[hw];decide)]at h;exact⟨undef,.inl (.inr ⟨hw,rfl⟩),h⟩
 | true =>
  rw[if_pos hw]at h
  unfold kB at h
  rcases b with b|b<;>rw[b]at h<;>obtain⟨v,c,d⟩:=h
  . exact⟨v,.inl (.inl ⟨hw,b,c⟩),d⟩
  . exact⟨v,.inr ⟨hw,b,c⟩,d⟩
theorem iM.mk(h:Y0 P ops o v a\/Y1 P ops o v a w)(k:K (a.put o.dst v) w):iM r P ops Q o K a w:=by
 unfold iM
 rcases h with (⟨b,c,h⟩|⟨b,rfl⟩)|⟨b,c,h⟩
 . rw[if_pos b];unfold kB;rw[c];exact⟨v,h,k⟩
 . rw[if_neg (by rw[b];decide)];exact k
 . rw[if_pos b];unfold kB;rw[c];exact⟨v,h,k⟩
theorem Y0.v8(i:Y0 P ops o v a)(h:iM r P ops Q o K a w):K (a.put o.dst v) w:=by
 unfold iM at h
 rcases i with ⟨b,g,c⟩|⟨b,rfl⟩
 . rw[if_pos b]at h
   unfold kB at h
   rw[g]at h
   obtain⟨u,d,f⟩:=h
   have e:=(c w).symm.trans (d w)
   simp only[Result.ok.injEq,Next.value.injEq,and_true]at e
   rw[e];exact f
 . rw[if_neg (by rw[b];decide)]at h;exact h
def yN:Op->Bool
 | .select _ _=>false
 | _=>true
theorem J9{op:Op}(h:yN op=true):∀ cs b,op ≠ .select cs b:=by intro cs b e;subst e;cases h
structure Ap (ops:Array Oper) (x y:Oper):Prop where
 xy:∀ d,x.dst=some d->d∉y.looksAt ops
 ne:∀ d,x.dst=some d->y.dst≠some d
 yx:∀ d,y.dst=some d->d∉x.looksAt ops
 sx:yN x.op=true
 sy:yN y.op=true
 dx:nM x.op=true
 dy:nM y.op=true
theorem Ap.symm(h:Ap ops x y):Ap ops y x:=⟨h.yx,fun d hd e=>h.ne d e hd,h.xy,h.sy,h.sx,h.dy,h.dx⟩
theorem Ap.wn(h:Ap ops x y)(v:Value):wn ops y (a.put x.dst v)=wn ops y a:=by unfold Go.Sx.wn;rw[wanted_put y a x.dst v h.xy]
theorem Ap.ex(h:Ap ops x y)(v:Value):execOp (a.put x.dst v).eval y=execOp a.eval y:=execOp_put y (J9 h.sy) a x.dst v h.xy
theorem Ap.mG(h:Ap ops x y)(v u:Value):(a.put x.dst v).put y.dst u=(a.put y.dst u).put x.dst v:=Act.put_comm a v u h.ne
theorem Ap.y0(h:Ap ops x y):Y0 P ops y u (a.put x.dst v)↔Y0 P ops y u a:=by unfold Y0;rw[h.wn,h.ex]
theorem Ap.y1(h:Ap ops x y):Y1 P ops y u (a.put x.dst v) w↔Y1 P ops y u a w:=by unfold Y1;rw[h.wn,h.ex]
theorem F8{ρ:Operand->Value}(h:nM o.op=true):o.semAt r ρ=execOp ρ o:=semAt_eq (wM h)
theorem Ii(op:Op):cat op=0\/cat op=1\/cat op=2\/cat op=3:=by
 unfold cat
 split<;>simp
def DT(P:Program)(ops:Array Oper)(x:Oper)(a a' : Act):Prop:=(∀ v,Y0 P ops x v a↔Y0 P ops x v a')/\wn ops x a' = wn ops x a
theorem Ap.upon(h:Ap ops x y)(i:NP Q){z:Result Next}(b:y.uponIn (FW r) 0 P (a.put x.dst v) K Q z):y.uponIn (FW r) 0 P a (fun a' w' => K (a'.put x.dst v) w' /\ DT P ops x a a') Q z:=by
 have kp:∀ u,DT P ops x a (a.put y.dst u):=fun u=>⟨fun v=>(h.symm.y0).symm,h.symm.wn u⟩
 cases z with
 | ok nx w' =>
  cases nx<;>simp only[Oper.uponIn]at b ⊢
  case value u=>exact⟨by rw[<-h.mG];exact b,kp u⟩
  case skip=>exact⟨by rw[<-h.mG];exact b,kp _⟩
  case defer d =>
   refine⟨?_,fun v=>?_,?_⟩
   . rw[Act.put_defers a x.dst v d]at b
     rw[<-h.mG];exact b
   . rw[h.symm.y0];exact Iff.rfl
   . rw[h.symm.wn];rfl
  case enter f args =>
   refine⟨b.1,CallsIn.mono b.2 fun e j g=>?_⟩
   cases e with
   | returned u=>exact⟨by rw[<-h.mG];exact g,kp u⟩
   | panicked c=>exact absurd g (i.np _ _ _)
   | outgrown=>exact g
  case row row args=>exact⟨b.1,RowsIn.mono b.2 fun u j g=>⟨by rw[<-h.mG];exact g,kp u⟩⟩
  case round l f tmps assign body =>
   refine⟨b.1,RoundIn.mono b.2 fun e j g=>?_⟩
   cases e with
   | returned u=>exact⟨by rw[<-h.mG];exact g,kp u⟩
   | panicked c=>exact absurd g (i.np _ _ _)
   | outgrown=>exact g
 | halt z w' => cases z<;>simp only[Oper.uponIn]at b ⊢ <;> exact absurd b (i.np _ _ _)
theorem Ap.act(h:Ap ops x y)(f:cat y.op=2->NP Q)(b:cat y.op=2\/cat y.op=3)(c:kB r P Q y K (a.put x.dst v) w):kB r P Q y (fun a' w' => K (a'.put x.dst v) w' /\ DT P ops x a a') a w:=by
 have kp:∀ u,DT P ops x a (a.put y.dst u):=fun u=>⟨fun v=>(h.symm.y0).symm,h.symm.wn u⟩
 unfold kB at *
 rcases b with b|b<;>rw[b]at c<;>rw[b]
 . rw[F8 h.dy,h.ex]at c
   rw[F8 h.dy]
   exact h.upon (f b) c
 . rw[h.ex]at c
   obtain⟨z,w', e,⟨u,rfl,d⟩|⟨rfl,d⟩⟩:=c
   . exact⟨_,w', e,.inl ⟨u,rfl,by rw[<-h.mG];exact d,kp u⟩⟩
   . exact⟨_,w', e,.inr ⟨rfl,by rw[<-h.mG];exact d,kp _⟩⟩
theorem Ap.back(h:Ap ops x y)(j:cat y.op=2->NP Q)(i:cat y.op=2\/cat y.op=3)(n:Y0 P ops x v a)(b:kB r P Q y (iM r P ops Q x K) a w):kB r P Q y K (a.put x.dst v) w:=by
 have kp:∀ u,Y0 P ops x v (a.put y.dst u):=fun u=>(h.symm.y0).2 n
 unfold kB at *
 rcases i with i|i<;>rw[i]at b<;>rw[i]
 . rw[F8 h.dy]at b
   rw[F8 h.dy,h.ex]
   have j:=j i
   generalize (execOp a.eval y).run P w=z at *
   cases z with
   | ok nx w' =>
    cases nx<;>simp only[Oper.uponIn]at b ⊢
    case value u=>rw[h.mG];exact(kp u).v8 b
    case skip=>rw[h.mG];exact(kp _).v8 b
    case defer d =>
     rw[Act.put_defers a x.dst v d,h.mG]
     refine Y0.v8 ?_ b
     exact(h.symm.y0 (a:={ a with defers:=d :: a.defers })).2 n
    case enter f args =>
     refine⟨b.1,CallsIn.mono b.2 fun e o g=>?_⟩
     cases e with
     | returned u=>show K _ _;rw[h.mG];exact(kp u).v8 g
     | panicked c=>exact absurd g (j.np _ _ _)
     | outgrown=>exact g
    case row row args=>exact⟨b.1,RowsIn.mono b.2 fun u o g=>by rw[h.mG];exact(kp u).v8 g⟩
    case round l f tmps assign body =>
     refine⟨b.1,RoundIn.mono b.2 fun e o g=>?_⟩
     cases e with
     | returned u=>show K _ _;rw[h.mG];exact(kp u).v8 g
     | panicked c=>exact absurd g (j.np _ _ _)
     | outgrown=>exact g
   | halt z w' => cases z<;>simp only[Oper.uponIn]at b ⊢ <;> exact absurd b (j.np _ _ _)
 . rw[h.ex]
   obtain⟨z,w', m,⟨u,rfl,k⟩|⟨rfl,k⟩⟩:=b
   . exact⟨_,w', m,.inl ⟨u,rfl,by rw[h.mG];exact(kp u).v8 k⟩⟩
   . exact⟨_,w', m,.inr ⟨rfl,by rw[h.mG];exact(kp _).v8 k⟩⟩
theorem kB.ends(h:cat y.op=2->NP Q)(hd:nM y.op=true)(i:cat y.op=2\/cat y.op=3)(g:kB r P Q y K a w):∃ a' w', K a' w' /\ (∃ u,a' = a.put y.dst u\/∃ d,a' = { a with defers:=d :: a.defers }.put y.dst u):=by
 unfold kB at *
 rcases i with i|i<;>rw[i]at g
 . have h:=h i
   generalize (y.semAt r a.eval).run P w=z at *
   cases z with
   | ok nx w' =>
    cases nx<;>simp only[Oper.uponIn]at g
    case value u=>exact⟨_,_,g,u,.inl rfl⟩
    case skip=>exact⟨_,_,g,_,.inl rfl⟩
    case defer d=>exact⟨_,_,g,_,.inr ⟨d,rfl⟩⟩
    case enter f args =>
     obtain⟨e,k, fr,b,_⟩:=g.2.2 [] (Ho _ _)
     cases e with
     | returned u=>exact⟨_,_,b,u,.inl rfl⟩
     | panicked c=>exact absurd b (h.np _ _ _)
     | outgrown=>obtain⟨a,w,b⟩:=b;exact absurd b (h.no _ _)
    case row row args =>
     obtain⟨u,k, b,_⟩:=g.2 default [] (Ho _ _)
     exact⟨_,_,b,u,.inl rfl⟩
    case round l f tmps assign body =>
     obtain⟨e,k, b,_⟩:=g.2.2 default [] (Ho _ _)
     cases e with
     | returned u=>exact⟨_,_,b,u,.inl rfl⟩
     | panicked c=>exact absurd b (h.np _ _ _)
     | outgrown=>obtain⟨a,w,b⟩:=b;exact absurd b (h.no _ _)
   | halt z w' => cases z<;>simp only[Oper.uponIn]at g<;>exact absurd g (h.np _ _ _)
 . obtain⟨z,w', m,⟨u,rfl,j⟩|⟨rfl,j⟩⟩:=g
   . exact⟨_,_,j,u,.inl rfl⟩
   . exact⟨_,_,j,_,.inl rfl⟩
def xS(x y:Op):Bool:=bif Nat.ble (cat x) 1 then(Nat.ble (cat y) 1||Nat.beq (cat x) 0)else Nat.beq (cat y) 0
theorem swap(h:Ap ops x y)(hk:xS x.op y.op=true)(l:cat x.op=2->NP Q)(q:cat y.op=2->NP Q)(f:iM r P ops Q x (iM r P ops Q y K) a w):iM r P ops Q y (iM r P ops Q x K) a w:=by
 have s:∀ o:Oper,Nat.ble (cat o.op) 1=true->cat o.op=0\/cat o.op=1:=fun o h=>by have:=pq h;omega
 have j:∀ o:Oper,¬ (cat o.op=0\/cat o.op=1)->cat o.op=2\/cat o.op=3:=fun o h=>by rcases Ii o.op with b|b|b|b<;>simp_all
 by_cases hx:cat x.op=0\/cat x.op=1
 . obtain⟨v,hv,c⟩:=f.get hx
   by_cases i:cat y.op=0\/cat y.op=1
   . obtain⟨u,e,k⟩:=c.get i
     refine iM.mk (v:=u) ?_ (iM.mk (v:=v) ?_ (by rw[<-h.mG];exact k))
     . rw[h.y0,h.y1]at e;exact e
     . rw[h.symm.y0,h.symm.y1];exact hv
   . have n:Y0 P ops x v a:=by
      rcases hv with hv|hv
      . exact hv
      . exfalso
        have b:=hv.2.1
        rcases j y i with c|c<;>simp[xS,b,c]at hk
     unfold iM at c
     rw[h.wn]at c
     unfold iM
     split<;>rename_i g
     . rw[if_pos g]at c
       refine(h.act q (j y i) c).mono fun a' w' ⟨k,p⟩=>?_
       exact iM.mk (.inl ((p.1 v).1 n)) k
     . rw[if_neg g]at c
       exact iM.mk (.inl ((h.symm.y0).2 n)) (by rw[<-h.mG];exact c)
 . have i:cat y.op=0:=by
    rcases j x hx with b|b<;>simpa[xS,b]using hk
   unfold iM at f
   cases g:wn ops x a with
   | false =>
    rw[if_neg (by rw[g];decide)]at f
    obtain⟨u,e,k⟩:=iM.get (.inl i) f
    rw[h.y0,h.y1]at e
    refine iM.mk e (iM.mk (v:=undef) (.inl (.inr ⟨?_,rfl⟩)) (by rw[<-h.mG];exact k))
    rw[h.symm.wn];exact g
   | true =>
    rw[if_pos g]at f
    obtain⟨a', w', b,t,c⟩:=f.ends l h.dx (j x hx)
    have b:iM r P ops Q y K a' w' := b
    obtain⟨u,e,_⟩:=b.get (.inl i)
    have m:Y0 P ops y u a:=by
     have:Y0 P ops y u a' := by
      rcases e with e|e
      . exact e
      . exact absurd (e.2.1.symm.trans i) d_
     rcases c with rfl|⟨d,rfl⟩
     . exact h.y0.1 this
     . exact(h.y0 (a:={ a with defers:=d :: a.defers })).1 this
    refine iM.mk (.inl m) ?_
    unfold iM
    rw[h.symm.wn,if_pos g]
    exact h.symm.back l (j x hx) m f
end
def UO(s t:List Nat):List Nat:=t.foldl (fun s i=>bif s.contains i then s else i :: s) s
def RW:List Oper->List (List Nat)->List (List Nat)
 | [],acc=>acc
 | o :: l,acc=>RW l (acc++[o.after.toList.foldl (fun s e=>bif Region.binds .any e then UO s (e.on :: acc.getD e.on [])else s) []])
end Go.Sx
namespace Go.Sx
open Go
section
variable {r:Option Nat} {P:Program} {ops:Array Oper} {Q:Exit->Act->World->Prop} {o x y:Oper} {a:Act} {w:World} {K K' : Act->World->Prop} {v u:Value}
def qu(P:Program)(ops:Array Oper)(o:Oper)(a:Act)(w:World):Prop:=wn ops o a=false\/∃ v,(execOp a.eval o).run P w = .ok (.value v) w/\a.put o.dst v=a
theorem ado(a:Act)(d:Option Tmp)(v u:Value):(a.put d v).put d u=a.put d u:=by
 cases d with
 | none=>rfl
 | some d=>simp[Act.put]
theorem adn{a:Act}{d e:Option Tmp}{v u:Value}(h:∀ i,d=some i->e≠some i)(f:(a.put d v).put e u=a.put d v):a.put e u=a:=by
 cases e with
 | none=>rfl
 | some e =>
  cases d with
  | none=>exact f
  | some d =>
   have l:d≠e:=fun c=>h d rfl (c▸rfl)
   simp only[Act.put]at f ⊢
   have j:=congrArg Act.tmps f
   simp only at j
   have k:a.tmps.setIfInBounds e u=a.tmps:=by
    apply Array.ext
    . simp
    . intro i m g
      rw[Array.getElem_setIfInBounds (by simpa using g)]
      split
      . rename_i c
        subst c
        have b:=congrArg (fun t:Array Value=>t[e]?) j
        simp only[LQ,Array.size_setIfInBounds]at b
        rw[if_pos trivial,if_pos (by simpa using g),if_neg l]at b
        rw[uo (by simpa using g)]at b
        exact Option.some.inj b
      . rfl
   rw[k]
structure Aw (ops:Array Oper) (x k:Oper):Prop where
 xk:∀ d,x.dst=some d->d∉k.looksAt ops
 ne:∀ d,x.dst=some d->k.dst≠some d
 sk:yN k.op=true
theorem qu.put(h:Aw ops x o):qu P ops o (a.put x.dst v) w↔qu P ops o a w:=by
 have e:wn ops o (a.put x.dst v)=wn ops o a:=by unfold Go.Sx.wn;rw[wanted_put o a x.dst v h.xk]
 have d:execOp (a.put x.dst v).eval o=execOp a.eval o:=execOp_put o (J9 h.sk) a x.dst v h.xk
 unfold qu
 rw[e,d]
 constructor
 . rintro(b|⟨u,b,c⟩)
   . exact .inl b
   . exact .inr ⟨u,b,adn h.ne c⟩
 . rintro(b|⟨u,b,c⟩)
   . exact .inl b
   . exact .inr ⟨u,b,by rw[Act.put_comm a v u h.ne,c]⟩
def Eu(ops:Array Oper)(x k:Oper):Bool:=yN k.op&&match x.dst with
 | none=>true
 | some d => !(k.looksAt ops).contains d && !(k.dst==some d)
theorem Ny{x k:Oper}(h:Eu ops x k=true):Aw ops x k:=by
 simp only[Eu,mU]at h
 refine⟨fun d hd=>?_,fun d hd=>?_,h.1⟩<;>rw[hd]at h<;>simp at h
 . exact h.2.1
 . exact h.2.2
def tF(ops:Array Oper)(x k:Nat):Bool:=match ops[x]?,ops[k]? with
 | some x,some k=>Eu ops x k
 | _,_=>true
theorem Nz{i k:Nat}(h:tF ops i k=true)(hi:ops[i]? = some x)(hk:ops[k]? = some o):Aw ops x o:=by
 unfold tF at h;rw[hi,hk]at h;exact Ny h
def kf(P:Program)(ops:Array Oper):List Nat->Act->World->Prop
 | [],_,_=>True
 | k :: ks,a,w=>(∀ o,ops[k]? = some o->qu P ops o a w)/\kf P ops ks a w
theorem u6{ks:List Nat}:kf P ops ks a w↔∀ k∈ks,∀ o,ops[k]? = some o->qu P ops o a w:=by
 induction ks with
 | nil=>simp[kf]
 | cons k ks b=>simp[kf,b]
theorem kf.put{ks:List Nat}(h:∀ k∈ks,∀ o,ops[k]? = some o->Aw ops x o):kf P ops ks (a.put x.dst v) w↔kf P ops ks a w:=by
 rw[u6,u6]
 exact⟨fun d k b o c=>(qu.put (h k b o c)).1 (d k b o c),fun d k b o c=>(qu.put (h k b o c)).2 (d k b o c)⟩
theorem ae2{i:Nat}{cs:List Nat}(h:Ap ops x y)(u:cat x.op=1)(hs:∀ d,x.dst=some d->d∉x.looksAt ops)(F:cat y.op=2\/cat y.op=3)(A:cat y.op=2->NP Q)(hi:ops[i]? = some x)(C:i∈cs)
 (D:iM r P ops Q x (iM r P ops Q y (fun a w=>kf P ops cs a w/\K a w)) a w) :
 iM r P ops Q y (fun a w=>kf P ops (cs.filter fun k => !(k==i)&&tF ops i k) a w/\iM r P ops Q x K a w) a w:=by
 obtain⟨v,hv,f⟩:=D.get (.inr u)
 have B : ∀ k∈cs.filter (fun k => !(k==i)&&tF ops i k),∀ o,ops[k]? = some o->Aw ops x o:=fun k g o E=>by
  have g:=kD.1 g
  exact Nz (Bool.and_eq_true_iff.1 g.2).2 hi E
 have sub:∀ a' w', kf P ops cs (a'.put x.dst v) w' -> kf P ops (cs.filter fun k => !(k==i)&&tF ops i k) a' w' := fun a' w' q => by
  rw[<-kf.put (v:=v) B, u6]
  rw[u6]at q
  exact fun k g=>q k (kD.1 g).1
 have H:∀ a' : Act,wn ops x (a'.put x.dst v)=wn ops x a' := fun a' => by unfold Go.Sx.wn;rw[wanted_put x a' x.dst v hs]
 have G:∀ a' : Act,execOp (a'.put x.dst v).eval x=execOp a'.eval x:=fun a' => execOp_put x (J9 h.sx) a' x.dst v hs
 unfold iM at f
 rw[h.wn]at f
 have s:wn ops x a=false->Y0 P ops x v a:=fun e=>by
  rcases hv with hv|hv
  . exact hv
  . rw[hv.1]at e;cases e
 unfold iM
 split<;>rename_i t
 . rw[if_pos t]at f
   refine(h.act A F f).mono fun a' w' ⟨⟨m,j⟩,n⟩=>⟨sub a' w' m,?_⟩
   have c:=(u6.1 m) i C x hi
   show iM r P ops Q x K a' w'
   rcases c with c|⟨v', c,p⟩
   . rw[H]at c
     have z:Y0 P ops x undef a' := .inr ⟨c,rfl⟩
     refine iM.mk (.inl z) ?_
     have b:wn ops x a=false:=n.2▸c
     rcases s b with ⟨l,_⟩|⟨_,rfl⟩
     . rw[l]at b;cases b
     . exact j
   . rw[G]at c
     cases b:wn ops x a' with
     | false =>
      refine iM.mk (v:=undef) (.inl (.inr ⟨b,rfl⟩)) ?_
      rw[n.2]at b
      rcases s b with ⟨l,_⟩|⟨_,rfl⟩
      . rw[l]at b;cases b
      . exact j
     | true =>
      refine iM.mk (v:=v') (.inr ⟨b,u,c⟩) ?_
      rw[ado]at p;rw[p];exact j
 . rw[if_neg t]at f
   refine⟨sub _ _ (by rw[<-h.mG];exact f.1),?_⟩
   refine iM.mk (v:=v) ?_ (by rw[<-h.mG];exact f.2)
   rw[h.symm.y0,h.symm.y1];exact hv
def su(r:Option Nat)(P:Program)(ops:Array Oper)(Q:Exit->Act->World->Prop)(b:Nat×List Nat)(K:Act->World->Prop)(a:Act)(w:World):Prop :=
 match ops[b.1]? with
 | none=>K a w
 | some o=>iM r P ops Q o (fun a w=>kf P ops b.2 a w/\K a w) a w
def oN(r:Option Nat)(P:Program)(ops:Array Oper)(Q:Exit->Act->World->Prop):List (Nat×List Nat)->Act->World->Prop
 | [],a,w=>Q .normal a w
 | it :: l,a,w=>su r P ops Q it (oN r P ops Q l) a w
theorem su.mono{c:Nat×List Nat}(h:∀ a w,K a w->K' a w)(b:su r P ops Q c K a w):su r P ops Q c K' a w:=by
 unfold su at *
 split<;>rename_i f<;>rw[f]at b
 . exact h _ _ b
 . exact b.mono fun a w ⟨d,e⟩=>⟨d,h _ _ e⟩
structure Cm (ops:Array Oper) (i:Nat) (ci:List Nat) (x:Oper) (c:List Nat) (y:Oper):Prop where
 ap:Ap ops x y
 k:(xS x.op y.op=true/\(Nat.ble (cat x.op) 1=true->ci=[])/\(Nat.ble (cat y.op) 1=true->c=[])/\(∀ k∈ci,∀ o,ops[k]? = some o->Aw ops y o)) \/
  (cat x.op=1/\(cat y.op=2\/cat y.op=3)/\i∈c/\(∀ d,x.dst=some d->d∉x.looksAt ops)/\ci=[])
theorem ae1{i:Nat}{l c:List Nat}(C:Cm ops i l x c y)(hi:ops[i]? = some x)(t:cat x.op=2->NP Q)(q:cat y.op=2->NP Q)
 (s:iM r P ops Q x (fun a w=>kf P ops l a w/\iM r P ops Q y (fun a w=>kf P ops c a w/\K a w) a w) a w) :
 iM r P ops Q y (fun a w=>kf P ops (c.filter fun k => !(k==i)&&tF ops i k) a w/\iM r P ops Q x (fun a w=>kf P ops l a w/\K a w) a w) a w:=by
 obtain⟨h,j⟩:=C
 rcases j with ⟨d,m,n,B⟩|⟨d,m,n,A,rfl⟩
 . have F:∀ o:Oper,Nat.ble (cat o.op) 1=true->cat o.op=0\/cat o.op=1:=fun o h=>by have:=pq h;omega
   by_cases hx:Nat.ble (cat x.op) 1=true
   . obtain rfl:=m hx
     have g:iM r P ops Q x (iM r P ops Q y (fun a w=>kf P ops c a w/\K a w)) a w:=s.mono fun a w h=>h.2
     refine(swap h d t q g).mono fun a w b=>?_
     obtain⟨v,hv,f,p⟩:=b.get (F x hx)
     refine⟨?_,iM.mk hv ⟨trivial,p⟩⟩
     rw[<-kf.put (x:=x) (v:=v) (fun k j o D=>Nz (Bool.and_eq_true_iff.1 (kD.1 j).2).2 hi D),u6]
     exact fun k j=>(u6.1 f) k (kD.1 j).1
   . have z:cat y.op=0:=by
      rcases Ii x.op with e|e|e|e<;>simp[xS,e]at d hx<;>exact d
     obtain rfl:=n (by rw[z];rfl)
     have g:iM r P ops Q x (iM r P ops Q y (fun a w=>kf P ops l a w/\K a w)) a w:=s.mono fun a w ⟨b,f⟩=>by
      obtain⟨u,E,_,p⟩:=f.get (.inl z)
      exact iM.mk E ⟨(kf.put B).2 b,p⟩
     exact(swap h d t q g).mono fun a w b=>⟨trivial,b⟩
 . have g:iM r P ops Q x (iM r P ops Q y (fun a w=>kf P ops c a w/\K a w)) a w:=s.mono fun a w h=>h.2
   exact(ae2 h d A m q hi n g).mono fun a w ⟨b,f⟩=>⟨b,f.mono fun a w h=>⟨trivial,h⟩⟩
theorem Cm.sub{i:Nat}{g c c' : List Nat}(h:Cm ops i g x c y)(hs:∀ k∈c', k∈c)(hi:cat x.op=1->i∈c->i∈c'):Cm ops i g x c' y:=by
 refine⟨h.ap,?_⟩
 rcases h.k with ⟨a,b,d,f⟩|⟨a,b,d,j,f⟩
 . refine .inl ⟨a,b,fun e=>?_,f⟩
   have:=d e
   subst this
   cases c' with
   | nil=>rfl
   | cons k c' => exact absurd (hs k ze) mz
 . exact .inr ⟨a,b,hi a d,j,f⟩
def CJ(ops:Array Oper)(L:List (Nat×List Nat))(c:List Nat):List Nat:=c.filter fun k=>L.all fun z => !(k==z.1)&&tF ops z.1 k
theorem aaQ{a:Nat×List Nat}{L:List (Nat×List Nat)}{c:List Nat}:CJ ops (a :: L) c=(CJ ops L c).filter fun k => !(k==a.1)&&tF ops a.1 k:=by
 unfold CJ
 rw[List.filter_filter]
 refine xz fun k _=>?_
 rw[List.all_cons]
def FU(ops:Array Oper)(x z:Nat×List Nat):Prop:=(∀ o,ops[x.1]? = some o->cat o.op=1->tF ops z.1 x.1=true)
theorem adf{j:Nat}{c:List Nat}(v:ops[j]? = some y)(L2:List (Nat×List Nat)):∀ (L1:List (Nat×List Nat)) (a:Act) (w:World),(L1.map (·.1)).Nodup->(c=[]\/L1.Pairwise (FU ops)) ->
 (∀ g∈L1,∀ x,ops[g.1]? = some x->Cm ops g.1 g.2 x c y/\((cat x.op=2\/cat y.op=2)->NP Q)) ->
 oN r P ops Q (L1++(j,c) :: L2) a w->iM r P ops Q y (fun a w=>kf P ops (CJ ops L1 c) a w/\oN r P ops Q (L1++L2) a w) a w:=by
 intro L1
 induction L1 with
 | nil =>
  intro a w _ _ _ h
  simp only[tv]at h ⊢
  unfold oN su at h
  simp only[v]at h
  refine h.mono fun a w ⟨b,f⟩=>⟨?_,f⟩
  rw[u6]at b ⊢
  exact fun k d=>b k (kD.1 d).1
 | cons g L1 B =>
  intro a w n l o h
  rw[kr,zx]at n
  have s := fun k d=>o k (mT _ d)
  simp only[oD]at h ⊢
  unfold oN at h
  have b:=h.mono fun a w h=>B a w n.2 (l.imp_right fun h=>(tj.1 h).2) s h
  rw[aaQ]
  unfold su at b
  split at b<;>rename_i i
  . refine b.mono fun a w ⟨f,m⟩=>⟨?_,?_⟩
    . rw[u6]at f ⊢
      exact fun k d=>f k (kD.1 d).1
    . unfold oN su;simp only[i];exact m
  . rename_i x
    obtain⟨u,p⟩:=o g ze x i
    have t:=u.sub (c' := CJ ops L1 c) (fun k d=>(kD.1 d).1) (fun A hi=>kD.2 ⟨hi,zt.2 fun z q=>by
     have l:=l.resolve_left (fun e=>by rw[e]at hi;cases hi)
     rw[(tj.1 l).1 z q x i A,Bool.and_true]
     have:g.1≠z.1:=fun e=>n.1 (zz.2 ⟨z,q,e.symm⟩)
     simpa using this⟩)
    refine(ae1 t i (fun e=>p (.inl e)) (fun e=>p (.inr e)) b).mono fun a w ⟨f,m⟩=>⟨f,?_⟩
    unfold oN su;simp only[i];exact m
end
def Ib(ops:Array Oper)(x y:Oper):Bool:=yN x.op&&yN y.op&&nM x.op&&nM y.op&&x.apart ops y
theorem U4{ops:Array Oper}{x y:Oper}(h:Ib ops x y=true):Ap ops x y:=by
 simp only[Ib,mU]at h
 obtain⟨⟨⟨⟨d,e⟩,f⟩,g⟩,i⟩:=h
 obtain⟨a,b,c⟩:=Oper.apart_spec i
 exact⟨a,b,c,d,e,f,g⟩
def Nw(ops:Array Oper)(x:Oper)(c:List Nat):Bool:=c.all fun k=>match ops[k]? with|some o=>Eu ops x o|none=>true
theorem U8{ops:Array Oper}{x:Oper}{c:List Nat}(h:Nw ops x c=true):∀ k∈c,∀ o,ops[k]? = some o->Aw ops x o:=fun k a o b=>by
 have:=zt.1 h k a
 rw[b]at this
 exact Ny this
def KV(ops:Array Oper)(x:Oper):Bool:=match x.dst with|some d => !(x.looksAt ops).contains d|none=>true
theorem aen{ops:Array Oper}{x:Oper}(h:KV ops x=true):∀ d,x.dst=some d->d∉x.looksAt ops:=fun d hd=>by
 unfold KV at h;rw[hd]at h;simpa using h
def Iu(ops:Array Oper)(i:Nat)(a:List Nat)(x:Oper)(c:List Nat)(y:Oper):Bool:=Ib ops x y&&bif xS x.op y.op then(!Nat.ble (cat x.op) 1||a.isEmpty)&&(!Nat.ble (cat y.op) 1||c.isEmpty)&&Nw ops y a
 else Nat.beq (cat x.op) 1 && !Nat.ble (cat y.op) 1&&c.contains i&&KV ops x&&a.isEmpty
theorem VO{ops:Array Oper}{i:Nat}{f c:List Nat}{x y:Oper}(h:Iu ops i f x c y=true):Cm ops i f x c y:=by
 simp only[Iu,mU]at h
 obtain⟨g,h⟩:=h
 refine⟨U4 g,?_⟩
 cases hk:xS x.op y.op with
 | true =>
  rw[hk]at h
  simp only[cond_true,mU,BI,Hg,List.isEmpty_iff]at h
  obtain⟨⟨a,b⟩,d⟩:=h
  refine .inl ⟨rfl,fun e=>?_,fun e=>?_,U8 d⟩
  . rcases a with a|a
    . rw[e]at a;cases a
    . exact a
  . rcases b with a|a
    . rw[e]at a;cases a
    . exact a
 | false =>
  rw[hk]at h
  simp only[cond_false,mU,Hg,List.isEmpty_iff]at h
  obtain⟨⟨⟨⟨a,b⟩,j⟩,d⟩,k⟩:=h
  refine .inr ⟨Bv a,?_,by simpa using j,aen d,k⟩
  rcases Ii y.op with e|e|e|e
  . rw[e]at b;cases b
  . rw[e]at b;cases b
  . exact .inl e
  . exact .inr e
def FR(ops:Array Oper):List (Nat×List Nat)->Bool
 | []=>true
 | x :: l=>(match ops[x.1]? with
  | some o => !Nat.beq (cat o.op) 1||l.all fun z=>tF ops z.1 x.1
  | none=>true)&&FR ops l
theorem Sa{ops:Array Oper}:∀ (l:List (Nat×List Nat)),FR ops l=true->l.Pairwise (FU ops)
 | [],_=>List.Pairwise.nil
 | x :: l,h=>by
  simp only[FR,mU]at h
  refine tj.2 ⟨fun z d o c b=>?_,Sa l h.2⟩
  have a:=h.1
  rw[c]at a
  simp only[b,BI]at a
  rcases a with a|a
  . cases a
  . exact zt.1 a z d
def Fe(np:Bool)(ops:Array Oper)(pre:List (List Nat)):List (Nat×List Nat)->List (Nat×List Nat)->Bool
 | _,[]=>true
 | before,it :: l=>(match ops[it.1]? with
  | none=>true
  | some y=>before.all fun a=>(pre.getD it.1 []).contains a.1||match ops[a.1]? with
   | none=>true
   | some x=>Iu ops a.1 a.2 x it.2 y&&(np || !(Nat.beq (cat x.op) 2||Nat.beq (cat y.op) 2)))&&Fe np ops pre (before++[it]) l
theorem PZ{np:Bool}{ops:Array Oper}{pre:List (List Nat)}:∀ (l before:List (Nat×List Nat)),Fe np ops pre before l=true->∀ L1 b L2,l=L1++b :: L2->∀ a∈before++L1,∀ x y,ops[a.1]? = some x->ops[b.1]? = some y ->
 (pre.getD b.1 []).contains a.1=true\/Cm ops a.1 a.2 x b.2 y/\((cat x.op=2\/cat y.op=2)->np=true)
 | [],before,_,L1,b,L2,e,a,hxi,x,y,hx,hy=>by simp at e
 | z :: l,before,h,L1,b,L2,e,a,hxi,x,y,hx,hy=>by
  simp only[Fe,mU]at h
  cases L1 with
  | nil =>
   simp only[tv,List.cons.injEq]at e
   obtain⟨rfl,rfl⟩:=e
   have d:=h.1
   rw[hy]at d
   have f:=zt.1 d a (by simpa using hxi)
   rw[hx]at f
   rcases vw.1 f with c|c
   . exact .inl c
   . rw[mU]at c
     refine .inr ⟨VO c.1,fun e=>?_⟩
     cases np with
     | true=>rfl
     | false=>rcases e with e|e<;>simp[e]at c
  | cons g L1 =>
   simp only[oD,List.cons.injEq]at e
   obtain⟨rfl,rfl⟩:=e
   exact PZ _ (before++[z]) h.2 L1 b L2 rfl a (by simpa using hxi) x y hx hy
theorem S5{α:Type}{x y:α}:∀ (l:List α),List.Sublist [x,y] l->∃ A B,l=A++y :: B/\x∈A
 | [],h=>by cases h
 | z :: l,h=>by
  cases h with
  | cons _ h =>
   obtain⟨A,B,rfl,a⟩:=S5 l h
   exact⟨z :: A,B,rfl,mT _ a⟩
  | cons_cons _ h =>
   obtain⟨A,B,rfl⟩:=BD (LV.1 h)
   exact⟨x :: A,B,rfl,ze⟩
def okF(np:Bool)(l:List Oper)(fP:List (Nat×List Nat)):Bool :=
 let p:=RW l []
 FQ l p&&(l.zipIdx.all fun q=>q.1.after.toList.all fun e => !Region.binds .any e||decide (e.on<q.2))&&Fe np l.toArray p [] fP&&decide ((fP.map (·.1)).Nodup)&&((List.range l.length).all fun i=>(fP.map (·.1)).contains i)&&Nat.ble fP.length l.length&&((fP.all fun a=>a.2.isEmpty)||FR l.toArray fP)
section
variable {r:Option Nat} {P:Program} {Q:Exit->Act->World->Prop} {l:List Oper} {a:Act} {w:World}
theorem adM{id:Nat}{np:Bool}(fP:List (Nat×List Nat))(hm:P.follows .mixedOrders=true)(T:okF np l fP=true)(hN:np=false\/NP Q)(h:oN r P l.toArray Q fP a w.drew):WP r P (.region id l.toArray true) Q a w:=by
 simp only[okF,mU]at T
 obtain⟨⟨⟨⟨⟨⟨am,ab⟩,al⟩,G⟩,D⟩,ac⟩,ao⟩:=T
 have G:=of_decide_eq_true G
 have aa : np=true->NP Q:=fun e=>hN.elim (fun h=>by rw[h]at e;cases e) fun h=>h
 have uF:∀ (j:Nat) (o:Oper),l[j]? = some o->∀ e∈o.after,Region.binds .any e=true->e.on<j:=by
  intro j o u e t hb
  have g:=zt.1 ab (o,j) (by rw[List.mem_zipIdx_iff_getElem?];exact u)
  have k:=zt.1 g e (by simpa using t)
  simpa[hb]using k
 refine wpIn_region_any hm ?_
 have ar:l.toArray.size=l.length:=by simp
 let f:Array Bool->Nat->Bool:=fun b i=>b.getD i false
 let rem:Array Bool->List (Nat×List Nat):=fun b=>fP.filter fun d => !f b d.1
 have ap:∀ (fuel:Nat) (b:Array Bool) (a:Act) (w:World),b.size=l.length->(rem b).length<=fuel->Down l (f b)->oN r P l.toArray Q (rem b) a w ->
  wpAnyIn (FW r) 0 P .any l.toArray Q fuel b a w:=by
  intro fuel
  have has:∀ (b:Array Bool),b.size=l.length->∀ i,i∈Region.ready .any l.toArray b->∃ c,(i,c)∈rem b:=by
   intro b hs i hi
   obtain⟨g,o,v,_⟩:=mem_ready.1 hi
   have F:i<l.length:=by simpa using(p5.1 v).1
   have k:=zt.1 D i (k9.2 F)
   obtain⟨d,m,Z⟩:=zz.1 (show i∈fP.map (·.1) by simpa using k)
   refine⟨d.2,?_⟩
   subst Z
   refine kD.2 ⟨m,?_⟩
   have af : d.1<b.size:=by omega
   show (!f b d.1)=true
   simp only[f]
   simp[af]at g ⊢
   exact g
  have aq:∀ (b:Array Bool),b.size=l.length->Region.ready .any l.toArray b=[]->∀ i,i<l.length->f b i=true:=by
   intro b hs s i
   induction i using Nat.strongRecOn with
   | _ i y =>
    intro hi
    cases q:f b i with
    | true=>rfl
    | false =>
     exfalso
     have:i∈Region.ready .any l.toArray b:=by
      rw[mem_ready]
      refine⟨?_,l[i],by simp[hi],fun e t hb=>?_⟩
      . have:i<b.size:=by omega
        simp only[f]at q
        simp[this]at q ⊢
        exact q
      . have k:=uF i l[i] (zm hi) e t hb
        exact y e.on k o_
     rw[s]at this
     cases this
  have Y:∀ (L:List (Nat×List Nat)) (a:Act) (w:World),(∀ d∈L,l.length<=d.1)->oN r P l.toArray Q L a w->Q .normal a w:=by
   intro L
   induction L with
   | nil=>intro a w _ h;exact h
   | cons d L y =>
    intro a w p h
    unfold oN su at h
    have:l.toArray[d.1]? = none:=by
     have:=p d ze
     simpa using this
    simp only[this]at h
    exact y a w (fun z hz=>p z (mT _ hz)) h
  have J:∀ (b:Array Bool) (a:Act) (w:World),b.size=l.length->Region.ready .any l.toArray b=[]->oN r P l.toArray Q (rem b) a w->Q .normal a w:=by
   intro b a w hs s h
   refine Y _ a w (fun d n=>?_) h
   have g:=kD.1 n
   rcases xB d.1 l.length with k|k
   . have m:=aq b hs s d.1 k
     rw[show (!f b d.1)=false by rw[m];rfl]at g
     exact absurd g.2 d_
   . exact k
  induction fuel with
  | zero =>
   intro b a w hs q hd h
   have t:rem b=[]:=um o_
   have s:Region.ready .any l.toArray b=[]:=by
    cases s:Region.ready .any l.toArray b with
    | nil=>rfl
    | cons i rs =>
     exfalso
     obtain⟨c,q⟩:=has b hs i (by rw[s];simp)
     rw[t]at q
     cases q
   exact⟨s,J b a w hs s h⟩
  | succ fuel y =>
   intro b a w hs q hd h
   refine⟨fun s=>J b a w hs s h,fun i hi=>?_⟩
   obtain⟨c,R⟩:=has b hs i hi
   obtain⟨au,o,v,ae⟩:=mem_ready.1 hi
   have S : l[i]? = some o:=by simpa using v
   have F:i<l.length:=(zk.1 S).1
   have ah : i<b.size:=by omega
   have C : ∀ j,f (b.setIfInBounds i true) j=(f b j||j==i):=fun j=>I5 b i j ah
   have M : Down l (f (b.setIfInBounds i true)):=⟨fun j X u K e t hb=>by
    rw[C]at K ⊢
    rcases vw.1 K with h|h
    . rw[show f b e.on=true from hd.closed j X u h e t hb];rfl
    . have:j=i:=by simpa using h
      subst this
      have:X=o:=Option.some.inj (u.symm.trans S)
      subst this
      rw[show f b e.on=true from ae e t hb];rfl⟩
   obtain⟨L1,L2,p⟩:=BD R
   have I:((rem b).map (·.1)).Nodup:=(vz.map _).nodup G
   rw[p]at I
   simp only[tq,kr]at I
   have H:=zu.1 I
   have N:∀ d∈L1,d.1≠i:=fun d n e=>H.2.2 d.1 (zz.2 ⟨d,n,rfl⟩) i ze e
   have ag:∀ d∈L2,d.1≠i:=fun d n e=>by
    have:=(zx.1 H.2.1).1
    exact this (zz.2 ⟨d,n,e⟩)
   have U:rem (b.setIfInBounds i true)=L1++L2:=by
    have e1:rem (b.setIfInBounds i true)=(rem b).filter fun d => !(d.1==i):=by
     simp only[rem,List.filter_filter]
     refine xz fun d _=>?_
     rw[C]
     cases f b d.1<;>cases (d.1==i)<;>rfl
    rw[e1,p,BE,vF]
    simp only[BEq.rfl,Bool.not_true,Bool.false_eq_true,if_false]
    rw[uk.2 (fun d n=>by have:=N d n;simpa using this),uk.2 (fun d n=>by have:=ag d n;simpa using this)]
   have ad:∀ d∈L1,∀ x,l.toArray[d.1]? = some x->Cm l.toArray d.1 d.2 x c o/\((cat x.op=2\/cat o.op=2)->NP Q):=by
    intro d n x hx
    have ai:d∈rem b:=by rw[p];simp[n]
    have aj := kD.1 ai
    -- fP place in the whole list
    have V:List.Sublist (rem b) fP:=vz
    rw[p]at V
    obtain⟨A,B,O⟩:∃ A B,fP=A++(i,c) :: B/\d∈A:=by
     have g:List.Sublist [d,(i,c)] fP:=List.Sublist.trans (by
      have k:List.Sublist [d] L1:=LV.2 n
      have m:List.Sublist [(i,c)] ((i,c) :: L2):=LV.2 ze
      exact List.Sublist.append k m) V
     exact S5 fP g
    rcases PZ fP [] al A (i,c) B O.1 d (by simpa using O.2) x o hx v with g|g
    . exfalso
      have:=C6 am M i (by rw[C];simp) F d.1 g
      rw[C]at this
      have k:f b d.1=false:=by simpa using aj.2
      have m:(d.1==i)=false:=by have:=N d n;simpa using this
      rw[k,m]at this
      cases this
    . exact⟨g.1,fun e=>aa (g.2 e)⟩
   rw[p]at h
   have an:c=[]\/L1.Pairwise (FU l.toArray):=by
    rcases vw.1 ao with E|E
    . exact .inl (by simpa using zt.1 E (i,c) (kD.1 R).1)
    . have g:(rem b).Pairwise (FU l.toArray):=(Sa fP E).sublist vz
      rw[p]at g
      exact .inr (List.pairwise_append.1 g).1
   have k:=adf (j:=i) v L2 L1 a w H.1 an ad h
   have ak:(rem (b.setIfInBounds i true)).length<=fuel:=by
    rw[U];rw[p]at q;simp at q ⊢;omega
   have m:iM r P l.toArray Q o (wpAnyIn (FW r) 0 P .any l.toArray Q fuel (b.setIfInBounds i true)) a w :=
    k.mono fun a' w' h=>y (b.setIfInBounds i true) a' w' (by simpa using hs) ak M (by rw[U];exact h.2)
   unfold wpOpIn
   rw[v]
   unfold iM at m
   show if Region.wanted o (yielded l.toArray a.tmps)=true then _ else _
   split<;>rename_i W
   . rw[if_pos (show wn l.toArray o a=true from W)]at m
     exact⟨fun _ _=>trivial,m.upon⟩
   . rw[if_neg (show ¬ wn l.toArray o a=true from W)]at m
     exact⟨fun _ _=>trivial,m⟩
 have D:rem (Array.replicate l.toArray.size false)=fP:=by
  simp only[rem,uk]
  intro d _
  show (!f (Array.replicate l.toArray.size false) d.1)=true
  simp only[f,wo]
  rfl
 refine ap _ _ a _ s_ (by rw[D];simpa using pq ac) ⟨fun j o _ u=>?_⟩ (by rw[D];exact h)
 simp only[f,wo]at u
 cases u
def uX:List Oper->Nat->Option Oper
 | [],_=>none
 | o :: _,0=>some o
 | _ :: l,n+1=>uX l n
theorem FJ:∀ (l:List Oper) (n:Nat),uX l n=l[n]?
 | [],n=>by simp[uX]
 | o :: l,0=>rfl
 | o :: l,n+1=>by simpa[uX]using FJ l n
def pick(l:List Oper):List Nat->List Oper
 | []=>[]
 | i :: is=>match uX l i with
  | some o=>o :: pick l is
  | none=>pick l is
def Bg(c:List Nat):List Nat->List (Nat×List Nat)
 | []=>[]
 | [i]=>[(i,c)]
 | i :: is=>(i,[]) :: Bg c is
def yW(last:List Nat):List (List Nat×List Nat)->List (Nat×List Nat)
 | []=>Bg [] last
 | (is,c) :: rest=>Bg c is++yW last rest
def WS(r:Option Nat)(P:Program)(l:List Oper)(Q:Exit->Act->World->Prop)(last:List Nat):List (List Nat×List Nat)->Act->World->Prop
 | [],a,w=>WL r P l.toArray Q (pick l last) a w
 | (is,c) :: rest,a,w=>WL r P l.toArray (Exit.then (fun a w=>kf P l.toArray c a w/\WS r P l Q last rest a w) Q) (pick l is) a w
theorem S4{ops:Array Oper}{o:Oper}{K M:Act->World->Prop}(h:kB r P (Exit.then M Q) o K a w):kB r P Q o K a w:=by
 unfold kB at h ⊢
 split<;>rename_i f<;>simp only[f]at h
 . exact h
 . exact h
 . exact h
 . revert h
   generalize (o.semAt r a.eval).run P w=res
   intro b
   have d:LetsOut (Exit.then M Q)->LetsOut Q:=fun⟨a,w,h⟩=>⟨a,w,h⟩
   cases res with
   | ok nx w' =>
    cases nx<;>simp only[Oper.uponIn]at b ⊢ <;> first
     | exact b
     | exact⟨b.1,CallsIn.mono b.2 (fun e g c=>by cases e<;>first|exact c|exact d c)⟩
     | exact⟨b.1,RoundIn.mono b.2 (fun e g c=>by cases e<;>first|exact c|exact d c)⟩
   | halt x w' => cases x<;>simp only[Oper.uponIn]at b ⊢ <;> exact b
theorem SF{M:Act->World->Prop}{c:List Nat}{rest:List (Nat×List Nat)}(d:∀ a w,M a w->oN r P l.toArray Q rest a w):∀ (is:List Nat) (a:Act) (w:World),wl r P l.toArray (Exit.then (fun a w=>kf P l.toArray c a w/\M a w) Q) (pick l is) a w->oN r P l.toArray Q (Bg c is++rest) a w:=by
 intro is
 induction is with
 | nil=>intro a w h;exact d a w h.2
 | cons i is f =>
  intro a w h
  have e:l.toArray[i]? = uX l i:=by rw[FJ];simp
  cases is with
  | nil =>
   simp only[Bg,oD,tv]
   unfold oN su
   simp only[e]
   unfold pick at h
   cases ho:uX l i with
   | none=>rw[ho]at h;exact d a w h.2
   | some o =>
    simp only[ho]at h
    rw[LG]at h
    show iM r P l.toArray Q o _ a w
    unfold iM at h ⊢
    split<;>rename_i b
    . rw[if_pos b]at h
      exact(S4 (ops:=l.toArray) h).mono fun a w h=>⟨h.1,d a w h.2⟩
    . rw[if_neg b]at h
      exact⟨h.1,d _ w h.2⟩
  | cons g is =>
   simp only[Bg,oD]
   unfold oN su
   simp only[e]
   unfold pick at h
   cases ho:uX l i with
   | none=>rw[ho]at h;exact f a w h
   | some o =>
    simp only[ho]at h
    rw[LG]at h
    show iM r P l.toArray Q o _ a w
    unfold iM at h ⊢
    split<;>rename_i b
    . rw[if_pos b]at h
      exact(S4 (ops:=l.toArray) h).mono fun a w h=>⟨trivial,f a w h⟩
    . rw[if_neg b]at h
      exact⟨trivial,f _ w h⟩
theorem Ta{r:Option Nat}{ops:Array Oper}:∀ (l:List Oper) (a:Act) (w:World),wl r P ops Q l a w->wl r P ops (Exit.then (fun a w=>kf P ops [] a w/\Q .normal a w) Q) l a w
 | [],a,w,h=>⟨trivial,h⟩
 | o :: l,a,w,h=>by
  rw[LG]at h ⊢
  have h:=h.mono (Ta l)
  unfold iM at h ⊢
  split<;>rename_i f
  . rw[if_pos f]at h
    unfold kB at h ⊢
    split<;>rename_i g<;>simp only[g]at h
    . exact h
    . exact h
    . exact h
    . revert h
      generalize (o.semAt r a.eval).run P w=res
      intro b
      have d:LetsOut Q->LetsOut (Exit.then (fun a w=>kf P ops [] a w/\Q .normal a w) Q):=fun⟨a,w,h⟩=>⟨a,w,h⟩
      cases res with
      | ok nx w' =>
       cases nx<;>simp only[Oper.uponIn]at b ⊢ <;> first
        | exact b
        | exact⟨b.1,CallsIn.mono b.2 (fun e i c=>by cases e<;>first|exact c|exact d c)⟩
        | exact⟨b.1,RoundIn.mono b.2 (fun e i c=>by cases e<;>first|exact c|exact d c)⟩
      | halt x w' => cases x<;>simp only[Oper.uponIn]at b ⊢ <;> exact b
  . rw[if_neg f]at h
    exact h
theorem Mb(last:List Nat):∀ (b:List (List Nat×List Nat)) (a:Act) (w:World),WS r P l Q last b a w->oN r P l.toArray Q (yW last b) a w
 | [],a,w,h=>by
  have:=SF (r:=r) (P:=P) (Q:=Q) (l:=l) (M:=fun a w=>Q .normal a w) (c:=[]) (rest:=[]) (fun a w h=>h) last a w (Ta _ _ _ h.out)
  simpa[yW]using this
 | (is,c) :: rest,a,w,h=>SF (Mb last rest) is a w h.out
theorem kO{id n:Nat}{s:List (Nat×Value)}{ds:List Deferred}{bs:List (World×List Nat)}{L:List fS}(hm:P.follows .mixedOrders=true)(a:List (List Nat×List Nat))(last:List Nat)(d:St bs L w)(K:∀ w', St bs L w' -> WS r P l Q last a (Fr n s ds) w')(b:∃ np,(np=false\/NP Q)/\okF np l (yW last a)=true:=by first|exact⟨true,.inr inferInstance,by kernel_rfl⟩|exact⟨false,.inl rfl,by kernel_rfl⟩) :
 WP r P (.region id l.toArray true) Q (Fr n s ds) w:=b.elim fun _ ⟨c,b⟩=>adM (yW last a) hm b c (Mb last a _ _ (K _ (d.grow (gA.drew [] w))))
theorem RK:∀ (b a:List Oper),pick (a++b) (List.range' a.length b.length)=b
 | [],a=>rfl
 | o :: b,a=>by
  rw[zh,List.range'_succ]
  unfold pick
  rw[FJ,G5 (zo _)]
  have:=RK b (a++[o])
  simpa using this
theorem KE{id n:Nat}{s:List (Nat×Value)}{ds:List Deferred}{bs:List (World×List Nat)}{L:List fS}(hm:P.follows .mixedOrders=true)(b:St bs L w)(K:∀ w', St bs L w' -> WL r P l.toArray Q l (Fr n s ds) w')(a:∃ np,(np=false\/NP Q)/\okF np l (yW (List.range' 0 l.length) [])=true) :
 WP r P (.region id l.toArray true) Q (Fr n s ds) w:=kO hm [] (List.range' 0 l.length) b (fun w' h=>by
 have:=RK l []
 show WL r P l.toArray Q (pick l (List.range' 0 l.length)) _ _
 rw[show pick l (List.range' 0 l.length)=l from this]
 exact K w' h) a
variable {n:Nat} {s:List (Nat×Value)} {ds:List Deferred} {is c last:List Nat} {rest:List (List Nat×List Nat)}
theorem jR{l' : List Oper}(h:WL r P l.toArray (Exit.then (fun a w=>kf P l.toArray c a w/\WS r P l Q last rest a w) Q) l' (Fr n s ds) w)(b:pick l is=l' := by rfl):WS r P l Q last ((is,c) :: rest) (Fr n s ds) w:=by subst b;exact h
theorem kU{l' : List Oper}(h:WL r P l.toArray Q l' (Fr n s ds) w)(a:pick l last=l' := by rfl):WS r P l Q last [] (Fr n s ds) w:=by subst a;exact h
theorem vi{M:Act->World->Prop}{ops:Array Oper}(b:kf P ops c (Fr n s ds) w)(h:M (Fr n s ds) w):Exit.then (fun a w=>kf P ops c a w/\M a w) Q .normal (Fr n s ds) w:=⟨b,h⟩
theorem qY{ops:Array Oper}{o:Oper}{d:Nat}{v:Value}(h:(execOp (ev n s) o).run P w = .ok (.value v) w)(hd:o.dst=some d)(hv:look s d=v):qu P ops o (Fr n s ds) w:=by
 refine .inr ⟨v,by rw[pJ, h],?_⟩
 rw[hd,zW]
 refine vL ds fun t=>?_
 rw[CL]
 split
 . rename_i e;subst e;exact hv.symm
 . rfl
theorem lN{ops:Array Oper}{k:Nat}{ks:List Nat}{o:Oper}(hk:uX ops.toList k=some o)(h:qu P ops o (Fr n s ds) w)(hs:kf P ops ks (Fr n s ds) w):kf P ops (k :: ks) (Fr n s ds) w :=
 ⟨fun b a=>by rw[FJ]at hk;simp at hk;rw[hk]at a;cases a;exact h,hs⟩
end
end Go.Sx
namespace Go.Sx
open Go
section
variable {r:Option Nat} {P:Program} {ops:Array Oper} {Q:Exit->Act->World->Prop} {rest:List Oper} {n:Nat} {s:List (Nat×Value)} {ds:List Deferred} {w:World}
variable {d:Nat} {dd:Option Nat} {ty t:TypeId} {pos:String} {af:Array Edge} {g:Option (Nat×Bool)} {x:Operand} {cs:Array Value} {v:Value} {i:Nat} {u:TypeDesc}
theorem YV{a:Array Field}{f:Field}(h:ev n s x = .agg cs)(e:P.underlying t=some (.struct a))(c:a[i]? = some f)(b:P.underlying f.type=some u)(d:j9 u=false)(hv:cs[f.offset]? = some v) :
 (execOp (ev n s) ⟨dd,.field t x i,ty,pos,af,g⟩).run P w = .ok (.value v) w:=by
 simp[execOp,h,Instr.field,asAgg,run_underlying e,c,part,wU b,d,hv]
theorem PE{a:Array Field}{f:Field}(e:gE ops n s g=true)(k:ev n s x = .agg cs)(j:P.underlying t=some (.struct a))(c:a[i]? = some f)(b:P.underlying f.type=some u)(h:j9 u=false)(hv:cs[f.offset]? = some v)
 (K:WL r P ops Q rest (Fr n ((d,v) :: s) ds) w):WL r P ops Q (⟨some d,.field t x i,ty,pos,af,g⟩ :: rest) (Fr n s ds) w:=pw e (fun _=>YV k j c b h hv) K
end
end Go.Sx
namespace Go.Sx
open Go
section
variable {r:Option Nat} {P:Program} {ops:Array Oper} {Q:Exit->Act->World->Prop} {rest:List Oper} {n:Nat} {s:List (Nat×Value)} {ds:List Deferred} {w:World}
variable {d:Nat} {dd:Option Nat} {ty t t' e:TypeId} {pos:String} {af:Array Edge} {g:Option (Nat×Bool)} {x y:Operand} {a:Option Addr} {c:Bool}
theorem SC(k:Nat)(b:P.underlying t=some (.pointer e)):(Op.equalIn (k+1) t (.pointer a) (.pointer none)).run P w = .ok a.isNone w:=by
 cases a<;>simp[Op.equalIn,run_underlying b]
theorem Yx(f:ev n s x = .pointer a)(h:ev n s y = .pointer none)(d:P.underlying t=some (.pointer e))(b:a.isNone=c) :
 (execOp (ev n s) ⟨dd,.binOp .eql t x y t', ty,pos,af,g⟩).run P w = .ok (.value (.bool c)) w:=by
 subst b
 simp[execOp,f,h,eqGuard,binOp,Op.equal,Op.maxDepth,SC 9999 d]
theorem uL(f:gE ops n s g=true)(i:ev n s x = .pointer a)(j:ev n s y = .pointer none)(h:P.underlying t=some (.pointer e))(b:a.isNone=c)
 (K:WL r P ops Q rest (Fr n ((d,.bool c) :: s) ds) w):WL r P ops Q (⟨some d,.binOp .eql t x y t', ty,pos,af,g⟩ :: rest) (Fr n s ds) w:=pw f (fun _=>Yx i j h b) K
theorem ab5(f:ev n s x = .pointer a)(h:ev n s y = .pointer none)(d:P.underlying t=some (.pointer e))(b:(!a.isNone)=c) :
 (execOp (ev n s) ⟨dd,.binOp .neq t x y t', ty,pos,af,g⟩).run P w = .ok (.value (.bool c)) w:=by
 subst b
 simp[execOp,f,h,eqGuard,binOp,Op.equal,Op.maxDepth,SC 9999 d]
theorem nh(f:gE ops n s g=true)(i:ev n s x = .pointer a)(j:ev n s y = .pointer none)(h:P.underlying t=some (.pointer e))(b:(!a.isNone)=c)
 (K:WL r P ops Q rest (Fr n ((d,.bool c) :: s) ds) w):WL r P ops Q (⟨some d,.binOp .neq t x y t', ty,pos,af,g⟩ :: rest) (Fr n s ds) w:=pw f (fun _=>ab5 i j h b) K
end
section
variable {P:Program} {n:Nat} {s:List (Nat×Value)} {w w0:World} {fn:Func} {bs:List (World×List Nat)} {L:List fS} {x:ResultVar} {v:Value} {b:Nat} {T:TypeId} {cs:List Value}
theorem St.KG(h:St bs L w)(hb:(w0,[])∈bs)(a:(blk b T cs).holds w0):(blk b T cs).holds w :=
 (h.keep hb (p5.1 a).1 s_).trans a
end
end Go.Sx
