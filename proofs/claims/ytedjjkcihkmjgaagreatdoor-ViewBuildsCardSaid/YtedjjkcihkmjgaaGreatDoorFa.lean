/- Plain lemmas. No conditions. -/
import Derived.WalkKit
import Derived.TacticsIn
import Derived.RangeFuncIn
import Derived.Shelf.Abstract
import Derived.Laws.CopyOwn
import Derived.OrdersIn
import Derived.WalkSpells
import Derived.Lib.SliceRun
import Derived.RecoverIn
import Derived.WideLaws
import Derived.RangeFuncRecord
import Derived.ControlIn
import Derived.KernelRfl
set_option linter.unusedVariables false
set_option linter.unusedSectionVars false
set_option linter.unusedSimpArgs false
namespace Go.Sx
open Go
abbrev za:=@List.mem_cons_self
abbrev zb:=@List.length_cons
abbrev zd:=@List.length_nil
abbrev ze:=@List.mem_cons
abbrev zg:=@List.mem_of_getElem?
abbrev zh:=@Nat.le_refl
abbrev zj:=@List.mem_append
abbrev zk:=@List.length_append
abbrev zm:=@List.length_map
abbrev zn:=@Result.andThen_ok
abbrev zo:=@List.nodup_append
abbrev zp:=@List.getElem?_eq_some_iff
abbrev zq:=@List.mem_map
abbrev zr:=@List.all_eq_true
abbrev zt:=@Sem.run_bind
abbrev zu:=@List.nodup_cons
abbrev zw:=@List.length_take
abbrev zx:=@List.mem_cons_of_mem
abbrev zy:=@List.getElem?_eq_getElem
abbrev zz:=@List.flatMap_cons
abbrev z6:=@List.append_assoc
abbrev z7:=@List.mem_filter
abbrev z8:=@List.mem_singleton
abbrev kn:=@Sem.run_pure
abbrev lU:=@List.getElem?_map
abbrev mD:=@List.length_range
abbrev nW:=@List.getElem?_eq_none
abbrev ko:=@Nat.zero_le
abbrev oK:=@List.length_replicate
abbrev kS:=@Nat.le_trans
abbrev mS:=@List.ext_getElem?
abbrev lV:=@List.mem_range
abbrev lW:=@Nat.add_assoc
abbrev pe:=@List.filter_sublist
abbrev pg:=@List.getElem?_range
abbrev nX:=@Int.toNat_natCast
abbrev nY:=@List.take_add_one
abbrev su:=@Array.getElem?_eq_some_iff
abbrev mh:=@List.map_cons
abbrev qx:=@List.perm_append_comm
abbrev ni:=@List.map_append
abbrev nZ:=@Bool.and_eq_true
abbrev qU:=@List.length_filter_le
abbrev qV:=@Nat.le_of_ble_eq_true
abbrev sw:=@List.getElem?_replicate
abbrev qy:=@List.filter_append
abbrev pn:=@List.not_mem_nil
abbrev qz:=@List.pairwise_cons
abbrev qA:=@Nat.lt_of_lt_of_le
abbrev pW:=@List.cons_append
abbrev wo:=@List.eq_nil_of_length_eq_zero
abbrev sj:=@List.mem_append_left
abbrev qw:=@List.mem_flatMap
abbrev pX:=@List.nil_append
abbrev uw:=@List.singleton_sublist
abbrev vp:=@List.sublist_append_left
abbrev wz:=@Array.getElem?_eq_getElem
abbrev rA:=@List.range_succ
abbrev ux:=@Array.length_toList
abbrev sA:=@List.perm_middle
abbrev sB:=@List.take_length
abbrev yB:=@List.pairwise_iff_getElem
abbrev sC:=@List.append_nil
abbrev vq:=@List.filter_eq_self
abbrev wA:=@List.take_append_drop
abbrev AO:=@Int.tmod_eq_emod_of_nonneg
abbrev uy:=@List.nodup_range
abbrev wB:=@List.map_congr_left
abbrev yC:=@List.mem_append_right
abbrev uz:=@Nat.min_eq_left
abbrev wC:=@Nat.add_sub_cancel
abbrev sD:=@Nat.add_zero
abbrev AP:=@List.take_of_length_le
abbrev wD:=@List.getElem?_set
abbrev AQ:=@Array.getElem?_toList
abbrev yD:=@List.getElem?_take
abbrev AR:=@List.count_le_length
abbrev AS:=@Nat.mul_le_mul_right
abbrev wF:=@Nat.not_lt_zero
abbrev AT:=@List.getElem_of_mem
abbrev tE:=@Nat.add_mul
abbrev tF:=@Nat.mul_one
abbrev uA:=@Nat.zero_add
abbrev AU:=@List.append_of_mem
abbrev CG:=@List.getElem?_toArray
abbrev CD:=@List.length_singleton
abbrev CE:=@Nat.eq_of_beq_eq_true
abbrev AL:=@Nat.eq_zero_or_pos
abbrev Eu:=@List.drop_eq_getElem_cons
abbrev Ev:=@List.getElem?_append_left
abbrev HZ:=@List.eraseIdx_eq_take_drop_succ
abbrev Ew:=@List.getElem?_take_of_lt
abbrev AN:=@List.filter_congr
abbrev Ey:=@List.length_eq_zero_iff
abbrev CF:=@Bool.or_eq_true_iff
abbrev CH:=@Nat.mul_le_mul_left
abbrev yE:=@List.nodup_nil
abbrev AX:=@Nat.lt_succ_self
abbrev EB:=@List.filter_eq_nil_iff
abbrev CI:=@List.mem_replicate
abbrev EC:=@Array.getElem?_modify
abbrev CJ:=@Bool.not_eq_true'
abbrev ED:=@List.contains_eq_mem
abbrev H8:=@List.exists_mem_of_ne_nil
abbrev EE:=@List.pairwise_append
abbrev CL:=@List.filter_cons
abbrev CM:=@List.length_drop
abbrev H9:=@List.length_erase_of_mem
abbrev yF:=@List.map_map
abbrev CN:=@Nat.div_add_mod'
abbrev EF:=@List.filterMap_cons
abbrev Ia:=@List.filter_cons_of_pos
abbrev EG:=@List.filter_filter
abbrev CO:=@Option.map_some
abbrev Ib:=@List.drop_of_length_le
abbrev Ic:=@List.length_pos_of_mem
abbrev Np:=@List.take_append_of_le_length
abbrev EH:=@List.foldl_append
abbrev CP:=@Nat.mul_le_mul
abbrev AY:=@Nat.ne_of_lt
abbrev Ie:=@List.getElem?_append
abbrev H6:=@List.mem_iff_getElem
abbrev H7:=@List.mem_of_getLast?
abbrev Ez:=@Nat.testBit_succ
abbrev Nj:=@Array.getElem?_append_left
abbrev Nk:=@List.getElem?_append_right
abbrev AV:=@Int.le_refl
abbrev EA:=@Int.emod_nonneg
abbrev Nl:=@List.getLast?_eq_none_iff
abbrev Nn:=@List.mem_or_eq_of_mem_set
abbrev No:=@List.sublist_append_right
abbrev EI:=@Nat.one_ne_zero
abbrev Ig:=@Bool.false_eq_true
abbrev Ih:=@List.getElem?_drop
abbrev Ii:=@List.getLast?_cons
abbrev CS:=@List.map_nil
abbrev CT:=@Nat.lt_or_ge
abbrev EJ:=@Bool.xor_false
abbrev AZ:=@Nat.mod_lt
abbrev Ij:=@List.pairwise_map
abbrev Ik:=@List.reverse_perm
abbrev Il:=@Nat.le_succ_of_le
abbrev Nq:=@List.pairwise_lt_range
abbrev Nr:=@List.sublist_cons_self
abbrev Im:=@List.map_toArray
abbrev Io:=@Nat.max_eq_right
abbrev Ip:=@Nat.min_eq_right
abbrev Ns:=@Array.getElem?_mapIdx
abbrev Nt:=@List.eq_replicate_iff
abbrev Nu:=@List.filterMap_append
abbrev zdt:=@Nat.div_lt_iff_lt_mul
abbrev Nv:=@List.map_eq_cons_iff
abbrev Nw:=@List.mem_of_mem_take
abbrev EK:=@Nat.le_total
abbrev EL:=@Nat.pow_succ
abbrev EM:=@Nat.sub_zero
abbrev Iq:=@List.drop_drop
theorem o_{p:Prop}(h:p:=by omega):p:=h
theorem s_{p:Prop}(h:p:=by simp):p:=h
theorem d_{p:Prop}(h:p:=by decide):p:=h
def look:List (Nat×Value)->Nat->Value
 | [],_=>undef
 | (i,v) :: s,t=>bif Nat.beq i t then v else look s t
def Fr(n:Nat)(s:List (Nat×Value))(ds:List Deferred):Act :=
 { tmps:=Array.ofFn (n:=n) fun i=>look s i.val,defers:=ds }
def ev(n:Nat)(s:List (Nat×Value)):Operand->Value
 | .tmp t=>bif Nat.blt t n then look s t else undef
 | .const v=>v
 | .global g=>.pointer (some ⟨g,0,none⟩)
 | .func f=>.func (.func f) #[] #[]
variable{b o i m o' lo:Nat}{cs vs vl:List Value}{k k':IntKind}{dd:Option Nat}{x y:Operand}{v:Value}{a e el:Int}{X c':List Nat}{R:Value->World->Prop}{bs:List (World×List Nat)}{s:List (Nat×Value)}{w w0:World}{ok:Nat->Prop}{M K:Act->World->Prop}{j:Array Field}{ps:List (Nat×Operand)}{Q:Exit->Act->World->Prop}{np:Bool}{l':List Oper}{az:List Operand}{P:Program}{fn:Func}(n:Nat)(ds:List Deferred)(S:List Nat)(z0:Value)
theorem Pg{a:Nat}(h:a<b):Nat.blt a b=true:=by simp[Nat.blt];omega
theorem Pf{a:Nat}(h:¬ a<b):Nat.blt a b=false:=by
 cases hb:Nat.blt a b with
 | false=>rfl
 | true=>exact absurd (by simpa[Nat.blt,Nat.lt_iff_add_one_le]using hb) h
theorem EU(s:List (Nat×Value))(ds:List Deferred)(x:Operand):(Fr n s ds).eval x=ev n s x:=by
 cases x with
 | tmp t =>
  by_cases h:t<n
  . simp[Act.eval,Fr,ev,h,Pg h]
  . simp[Act.eval,Fr,ev,h,Pf h]
 | _=>rfl
theorem tK(s:List (Nat×Value))(ds:List Deferred):(Fr n s ds).eval=ev n s:=funext (EU n s ds)
theorem uV(i t:Nat)(v:Value)(s:List (Nat×Value)):look ((i,v) :: s) t=if i=t then v else look s t:=by
 by_cases h:i=t
 . simp[look,h]
 . have:Nat.beq i t=false:=by
    cases hb:Nat.beq i t with
    | false=>rfl
    | true=>exact absurd (CE hb) h
   simp[look,this,h]
theorem EV{n:Nat}{s':List (Nat×Value)}(h:∀ t,look s t=look s' t):Fr n s ds=Fr n s' ds:=by
 unfold Fr
 congr 2
 funext i
 exact h i.val
theorem vu(s:List (Nat×Value))(ds:List Deferred)(d:Nat)(v:Value):(Fr n s ds).put (some d) v=Fr n ((d,v) :: s) ds:=by
 unfold Act.put Fr
 simp only[Act.mk.injEq,and_true]
 apply Array.ext
 . simp
 . intro i b a
   simp at b a
   rw[Array.getElem_setIfInBounds (by simpa using a)]
   simp[uV]
theorem abt(pre s:List (Nat×Value))(h:∀ p∈pre,look s p.1=p.2)(t:Nat):look (pre++s) t=look s t:=by
 induction pre with
 | nil=>rfl
 | cons p pre a =>
  grind [uV]
def Holds(s:List (Nat×Value)):List (Nat×Value)->Prop
 | []=>True
 | p :: l=>look s p.1=p.2/\Holds s l
theorem Holds.mem{s:List (Nat×Value)}:∀ {l:List (Nat×Value)},Holds s l->∀ p∈l,look s p.1=p.2
 | [],_,p,hp=>by cases hp
 | q :: l,h,p,hp=>by
  cases hp with
  | head=>exact h.1
  | tail _ hp=>exact Holds.mem h.2 p hp
theorem NB{n:Nat}{ds:List Deferred}(pre:List (Nat×Value))(h:Holds s pre):Fr n s ds=Fr n (pre++s) ds :=
 EV ds fun t=>(abt pre s h.mem t).symm
def FW(r:Option Nat):Fence:={ fn:=fun _=>True,depth:=none,alive:=false,round:=r }
theorem It(r:Option Nat)(m:Nat):(FW r).room m:=fun _ h=>by simp[FW]at h
abbrev WP(r:Option Nat)(P:Program)(c:Code)(Q:Exit->Act->World->Prop)(a:Act)(w:World):Prop:=c.wpIn (FW r) 0 P Q a w
def cat:Op->Nat
 | .move _ | .assign _ | .pick _ _ _ | .extract _ _ | .nilCheck _ | .fieldAddr _ _ _ | .indexAddr _ _ _ | .binOp _ _ _ _ _ | .unOp _ _ _ | .field _ _ _ | .index _ _ _ | .convert _ _ _ | .build _ _=>0
 | .load _ _ | .lookup _ _ _ _=>1
 | .store _ _ _ | .alloc _ | .box _ _ | .buildSlice _ _ _ | .makeSlice _ _ _ | .mapUpdate _ _ _ _ | .mapEntry _ _ _ | .entryStore _ _ _ _=>3
 | .call ⟨.builtin .len,_,_⟩=>1
 | .call ⟨.builtin .min,_,_⟩ | .call ⟨.builtin .max,_,_⟩=>0
 | .call ⟨.builtin .append,_,_⟩=>3
 | _=>2
def kQ(r:Option Nat)(P:Program)(Q:Exit->Act->World->Prop)(o:Oper)(K:Act->World->Prop)(a:Act)(w:World):Prop :=
 match cat o.op with
 | 0=>∃ v,(∀ w', (execOp a.eval o).run P w' = .ok (.value v) w')/\K (a.put o.dst v) w
 | 1=>∃ v,(execOp a.eval o).run P w = .ok (.value v) w/\K (a.put o.dst v) w
 | 3=>∃ x w', (execOp a.eval o).run P w = .ok x w' /\ ((∃ v,x = .value v/\K (a.put o.dst v) w')\/(x = .skip/\K (a.put o.dst undef) w'))
 | _=>o.uponIn (FW r) 0 P a K Q ((o.semAt r a.eval).run P w)
def wl(r:Option Nat)(P:Program)(ops:Array Oper)(Q:Exit->Act->World->Prop):List Oper->Act->World->Prop
 | [],a,w=>Q .normal a w
 | o :: rest,a,w=>if Region.wanted o (yielded ops a.tmps)then kQ r P Q o (wl r P ops Q rest) a w else wl r P ops Q rest (a.put o.dst undef) w
structure WL (r:Option Nat) (P:Program) (ops:Array Oper) (Q:Exit->Act->World->Prop) (l:List Oper) (a:Act) (w:World):Prop where
 out:wl r P ops Q l a w
theorem W7{a:Op}(h:cat a≠2):∀ c,a ≠ .defer c:=by
 intro c e;subst e;exact h rfl
theorem ahb{r:Option Nat}{o:Oper}{a:Act}(h:∀ a w,K a w->M a w){x:Result Next}(b:o.uponIn (FW r) 0 P a K Q x):o.uponIn (FW r) 0 P a M Q x:=by
 cases x with
 | ok x w' =>
  cases x<;>simp only[Oper.uponIn]at b ⊢ <;>
   first
    | exact h _ _ b
    | exact⟨b.1,CallsIn.mono b.2 (fun e d c=>by cases e<;>first|exact h _ _ c|exact c)⟩
    | exact⟨b.1,RowsIn.mono b.2 (fun _ _ c=>h _ _ c)⟩
    | exact⟨b.1,RoundIn.mono b.2 (fun e d c=>by cases e<;>first|exact h _ _ c|exact c)⟩
 | halt x w' => cases x<;>simp only[Oper.uponIn]at b ⊢ <;> exact b
theorem kQ.mono{r:Option Nat}{o:Oper}{a:Act}(h:∀ a w,K a w->M a w)(b:kQ r P Q o K a w):kQ r P Q o M a w:=by
 unfold kQ at *
 grind [ahb]
theorem kQ.upon{r:Option Nat}{o:Oper}{a:Act}(d:kQ r P Q o K a w):o.uponIn (FW r) 0 P a K Q ((o.semAt r a.eval).run P w):=by
 have e:cat o.op≠2->o.semAt r a.eval=execOp a.eval o:=fun c=>by
  cases r with
  | none=>exact Oper.semAt_none _ o
  | some l=>exact Oper.semAt_some l _ o (W7 c)
 unfold kQ at d
 split at d<;>rename_i c
 . obtain⟨v,b,f⟩:=d;rw[e (by rw[c];decide),b];exact f
 . obtain⟨v,b,f⟩:=d;rw[e (by rw[c];decide),b];exact f
 . obtain⟨x,w', b,⟨v,rfl,g⟩|⟨rfl,g⟩⟩:=d
   . rw[e (by rw[c];decide),b];exact g
   . rw[e (by rw[c];decide),b];exact g
 . exact d
theorem M9{r:Option Nat}{P:Program}{ops:Array Oper}{Q:Exit->Act->World->Prop}:∀ (l:List Oper) (a:Act) (w:World),wl r P ops Q l a w->wpListIn (FW r) 0 P ops Q l a w
 | [],_,_,h=>h
 | o :: rest,a,w,h=>by
  unfold wl at h
  unfold wpListIn
  split<;>rename_i b
  . rw[if_pos b]at h
    exact⟨fun _ _=>trivial,(h.mono (M9 rest)).upon⟩
  . rw[if_neg b]at h
    exact⟨fun _ _=>trivial,M9 rest _ _ h⟩
theorem Dv{r:Option Nat}{f:FuncId}{args:Array Value}{R:Ending->World->Prop} :
 CallsIn (FW r) m P f args w R↔Calls P f args w R:=callsIn_wide (n:=m)
def BH:List Oper->Nat->Option Nat
 | [],_=>none
 | o :: _,0=>o.dst
 | _ :: l,j+1=>BH l j
theorem Yl(l:List Oper):∀ j,BH l j=(l[j]?).bind (·.dst):=by
 induction l with
 | nil=>intro j;simp[BH]
 | cons o l a=>intro j;cases j with|zero=>rfl|succ j=>simpa[BH]using a j
def L6:Value->Bool->Bool
 | .bool b,want=>bif want then b else !b
 | _,_=>false
def gA(ops:Array Oper)(n:Nat)(s:List (Nat×Value)):Option (Nat×Bool)->Bool
 | none=>true
 | some (j,want) =>
  match BH ops.toList j with
  | some d=>L6 (ev n s (.tmp d)) want
  | none=>false
theorem Cr(ops:Array Oper)(n:Nat)(s:List (Nat×Value))(ds:List Deferred)(o:Oper) :
 Region.wanted o (yielded ops (Fr n s ds).tmps)=gA ops n s o.guard:=by
 unfold Region.wanted gA
 cases o.guard with
 | none=>rfl
 | some g =>
  obtain⟨j,a⟩:=g
  have e:BH ops.toList j=(ops[j]?).bind (·.dst):=by rw[Yl];simp
  simp only[yielded,e]
  cases (ops[j]?).bind (·.dst)with
  | none=>simp
  | some d =>
   simp only[Option.bind_some]
   by_cases h:d<n
   . have:(Fr n s ds).tmps[d]? = some (look s d):=by simp[Fr,h]
     rw[this]
     simp only[ev,Pg h,cond_true]
     cases look s d<;>simp[L6]
     rename_i b
     cases b<;>cases a<;>rfl
   . have:(Fr n s ds).tmps[d]? = none:=Array.getElem?_eq_none (by simpa[Fr]using h)
     rw[this]
     simp[ev,Pf h,undef,L6]
section ops
variable{r:Option Nat}{ops:Array Oper}{rest:List Oper}{n:Nat}{ds:List Deferred}{w':World}
theorem ahI(h:Q .normal (Fr n s ds) w):WL r P ops Q [] (Fr n s ds) w:=⟨h⟩
theorem semAt_eq{r:Option Nat}{ρ:Operand->Value}{o:Oper}(h:∀ c,o.op ≠ .defer c):o.semAt r ρ=execOp ρ o:=by
 cases r with
 | none=>exact congrFun (congrFun (funext fun ρ=>funext fun o=>Oper.semAt_none ρ o) ρ) o
 | some l=>exact Oper.semAt_some l ρ o h
def ru:Op->Bool
 | .defer _=>false
 | _=>true
theorem GU{a:Op}(h:ru a=true):∀ c,a ≠ .defer c:=by
 intro c e;subst e;cases h
theorem ahJ{o:Oper}(a:gA ops n s o.guard=true)(h:∀ w,(execOp (ev n s) o).run P w = .ok (.value v) w)(K:WL r P ops Q rest ((Fr n s ds).put o.dst v) w) (hc:cat o.op=0:=by rfl):WL r P ops Q (o :: rest) (Fr n s ds) w:=by
 refine⟨?_⟩
 unfold wl
 rw[Cr,a,if_pos rfl]
 unfold kQ
 rw[hc]
 exact⟨v,fun w=>by rw[tK, h w],K.out⟩
theorem Vd{o:Oper}(a:gA ops n s o.guard=true)(hd:ru o.op=true)(h:(execOp (ev n s) o).run P w = .ok (.value v) w')(K:WL r P ops Q rest ((Fr n s ds).put o.dst v) w') (hc:(cat o.op=2\/cat o.op=3)\/(cat o.op=1/\w=w'):=by first|exact .inl (.inr rfl)|exact .inl (.inl rfl)|exact .inr ⟨rfl,rfl⟩):WL r P ops Q (o :: rest) (Fr n s ds) w:=by
 refine⟨?_⟩
 unfold wl
 rw[Cr,a,if_pos rfl]
 unfold kQ
 rcases hc with (hc|hc)|⟨hc,rfl⟩<;>rw[hc]
 . show o.uponIn _ _ _ _ _ _ _
   rw[semAt_eq (GU hd),tK, h]
   exact K.out
 . exact⟨_,w', by rw[tK, h],.inl ⟨v,rfl,K.out⟩⟩
 . exact⟨v,by rw[tK, h],K.out⟩
theorem Ek{o:Oper}(a:gA ops n s o.guard=true)(hd:ru o.op=true)(h:(execOp (ev n s) o).run P w = .ok .skip w')(K:WL r P ops Q rest ((Fr n s ds).put o.dst undef) w') (hc:cat o.op=2\/cat o.op=3:=by first|exact .inr rfl|exact .inl rfl):WL r P ops Q (o :: rest) (Fr n s ds) w:=by
 refine⟨?_⟩
 unfold wl
 rw[Cr,a,if_pos rfl]
 unfold kQ
 rcases hc with hc|hc<;>rw[hc]
 . show o.uponIn _ _ _ _ _ _ _
   rw[semAt_eq (GU hd),tK, h]
   exact K.out
 . exact⟨_,w', by rw[tK, h],.inr ⟨rfl,K.out⟩⟩
theorem Vc{o:Oper}(a:gA ops n s o.guard=true)(h:o.uponIn (FW r) 0 P (Fr n s ds) (wl r P ops Q rest) Q ((o.semAt r (Fr n s ds).eval).run P w))(hc:cat o.op=2:=by rfl):WL r P ops Q (o :: rest) (Fr n s ds) w:=by
 refine⟨?_⟩
 grind [wl,Cr,kQ]
theorem Vb{o:Oper}{f:FuncId}{args:Array Value}(b:gA ops n s o.guard=true)(hd:ru o.op=true)(h:(execOp (ev n s) o).run P w = .ok (.enter f args) w')(K:Calls P f args w' fun
  | .returned v,w'' => WL r P ops Q rest ((Fr n s ds).put o.dst v) w''
  | .panicked chain,w'' => Q (.panic chain) (Fr n s ds) w''
  | .outgrown,_=>LetsOut Q) (hc:cat o.op=2:=by rfl):WL r P ops Q (o :: rest) (Fr n s ds) w:=by
 refine Vc b ?_ hc
 rw[semAt_eq (GU hd),tK, h]
 exact⟨fun h=>by simp[FW]at h,Dv.2 (Calls.mono K fun e w' a=>by cases e<;>first|exact a.out|exact a)⟩
theorem sk{d:Nat}{b:Op}{ty:TypeId}{pos:String}{af:Array Edge}{g:Nat×Bool}(a:gA ops n s (some g)=false)(K:WL r P ops Q rest (Fr n ((d,undef) :: s) ds) w):WL r P ops Q (⟨some d,b,ty,pos,af,some g⟩ :: rest) (Fr n s ds) w:=by
 refine⟨?_⟩
 unfold wl
 rw[Cr]
 simp only[a]
 show wl r P ops Q rest ((Fr n s ds).put (some d) undef) w
 rw[vu]
 exact K.out
theorem js{b:Int}(h:a=b):Value.int k a=Value.int k b:=by rw[h]
theorem F5{a b:Bool}(h:a=b):Value.bool a=Value.bool b:=by rw[h]
end ops
section
variable{r:Option Nat}{ops:Array Oper}{rest:List Oper}{n:Nat}{ds:List Deferred}{w':World}
variable{d:Nat}{ty:TypeId}{pos:String}{af:Array Edge}{g:Option (Nat×Bool)}
theorem pv{a:Op}(b:gA ops n s g=true)(hd:ru a=true)(h:(execOp (ev n s) ⟨some d,a,ty,pos,af,g⟩).run P w = .ok (.value v) w')(K:WL r P ops Q rest (Fr n ((d,v) :: s) ds) w') (hc:(cat a=2\/cat a=3)\/(cat a=1/\w=w'):=by first|exact .inl (.inr rfl)|exact .inl (.inl rfl)|exact .inr ⟨rfl,rfl⟩):WL r P ops Q (⟨some d,a,ty,pos,af,g⟩ :: rest) (Fr n s ds) w :=
 Vd b hd h (by rw[vu];exact K) hc
theorem pw{a:Op}(b:gA ops n s g=true)(h:∀ w,(execOp (ev n s) ⟨some d,a,ty,pos,af,g⟩).run P w = .ok (.value v) w)(K:WL r P ops Q rest (Fr n ((d,v) :: s) ds) w) (hc:cat a=0:=by rfl):WL r P ops Q (⟨some d,a,ty,pos,af,g⟩ :: rest) (Fr n s ds) w :=
 ahJ b h (by rw[vu];exact K) hc
theorem Sf(a:ev n s x=v) :
 (execOp (ev n s) ⟨dd,.move x,ty,pos,af,g⟩).run P w = .ok (.value v) w:=by simp[execOp,a]
theorem mv(a:gA ops n s g=true)(b:ev n s x=v)(K:WL r P ops Q rest (Fr n ((d,v) :: s) ds) w) :
 WL r P ops Q (⟨some d,.move x,ty,pos,af,g⟩ :: rest) (Fr n s ds) w:=pw a (fun _=>Sf b) K
theorem O4(a:ev n s x=v) :
 (execOp (ev n s) ⟨dd,.assign x,ty,pos,af,g⟩).run P w = .ok (.value v) w:=by simp[execOp,a]
theorem kq(a:gA ops n s g=true)(b:ev n s x=v)(K:WL r P ops Q rest (Fr n ((d,v) :: s) ds) w) :
 WL r P ops Q (⟨some d,.assign x,ty,pos,af,g⟩ :: rest) (Fr n s ds) w:=pw a (fun _=>O4 b) K
theorem adi{c:Operand}(hc:ev n s c = .bool true)(a:ev n s x=v) :
 (execOp (ev n s) ⟨dd,.pick c x y,ty,pos,af,g⟩).run P w = .ok (.value v) w:=by simp[execOp,a,hc,asBool]
theorem adh{c:Operand}(hc:ev n s c = .bool false)(a:ev n s y=v) :
 (execOp (ev n s) ⟨dd,.pick c x y,ty,pos,af,g⟩).run P w = .ok (.value v) w:=by simp[execOp,a,hc,asBool]
def lg:BinOp->Int->Int->Option Bool
 | .eql,a,b=>some (a==b)
 | .neq,a,b=>some (a != b)
 | .lss,a,b=>some (decide (a<b))
 | .leq,a,b=>some (decide (a<=b))
 | .gtr,a,b=>some (decide (b<a))
 | .geq,a,b=>some (decide (b<=a))
 | _,_,_=>none
theorem Ce(c:BinOp)(t:TypeId)(x y:Operand)(k k':IntKind)(a b:Int):(eqGuard c t x y (.int k a) (.int k' b)).run P w = .ok () w:=by
 unfold eqGuard
 cases c<;>simp
theorem aeS{d:BinOp}{t:TypeId}{b:Int}{c:Bool}(h:lg d a b=some c):(binOp d t (.int k a) (.int k b)).run P w = .ok (.bool c) w:=by
 cases d<;>simp[lg]at h<;>subst h<;>simp[binOp,Op.intCmp]
theorem PW{d:BinOp}{t t':TypeId}{b:Int}{c:Bool}(e:ev n s x = .int k a)(f:ev n s y = .int k b)(hc:lg d a b=some c) :
 (execOp (ev n s) ⟨dd,.binOp d t x y t', ty,pos,af,g⟩).run P w = .ok (.value (.bool c)) w:=by simp[execOp,e,f,Ce,aeS hc]
theorem cmp{e:BinOp}{t t':TypeId}{b:Int}{c:Bool}(f:gA ops n s g=true)(h:ev n s x = .int k a)(i:ev n s y = .int k b)(hc:lg e a b=some c)(K:WL r P ops Q rest (Fr n ((d,.bool c) :: s) ds) w) :
 WL r P ops Q (⟨some d,.binOp e t x y t', ty,pos,af,g⟩ :: rest) (Fr n s ds) w:=pw f (fun _=>PW h i hc) K
theorem pL{b:Int}(h:a<b):lg .lss a b=some true:=by simp[lg,h]
theorem kT{b:Int}(h:¬ a<b):lg .lss a b=some false:=by simp[lg,h]
theorem vH{b:Int}(h:a<=b):lg .leq a b=some true:=by simp[lg,h]
theorem JA{b:Int}(h:¬ a<=b):lg .leq a b=some false:=by simp[lg,h]
theorem PC{b:Int}(h:a>b):lg .gtr a b=some true:=by simp[lg];omega
theorem ow{b:Int}(h:¬ a>b):lg .gtr a b=some false:=by simp[lg];omega
theorem ot{b:Int}(h:a≥b):lg .geq a b=some true:=by simp[lg];omega
theorem p9{b:Int}(h:¬ a≥b):lg .geq a b=some false:=by simp[lg];omega
theorem sW{b:Int}(h:a=b):lg .eql a b=some true:=by simp[lg,h]
theorem uO{b:Int}(h:¬ a=b):lg .eql a b=some false:=by simp[lg,h]
theorem Jz{b:Int}(h:¬ a=b):lg .neq a b=some true:=by simp[lg,h]
theorem q7{b:Int}(h:a=b):lg .neq a b=some false:=by simp[lg,h]
def Bx:BinOp->Int->Int->Option Int
 | .add,a,b=>some (a+b)
 | .sub,a,b=>some (a-b)
 | .mul,a,b=>some (a*b)
 | _,_,_=>none
theorem aeR{d:BinOp}{t:TypeId}{b c:Int}(h:Bx d a b=some c):(binOp d t (.int k a) (.int k b)).run P w = .ok (.int k (k.wrap c)) w:=by
 cases d<;>simp[Bx]at h<;>subst h<;>simp[binOp,Op.intArith]
theorem O2{d:BinOp}{t t':TypeId}{b c:Int}(h:ev n s x = .int k a)(i:ev n s y = .int k b)(hc:Bx d a b=some c)(f:k.wrap c=e) :
 (execOp (ev n s) ⟨dd,.binOp d t x y t', ty,pos,af,g⟩).run P w = .ok (.value (.int k e)) w:=by simp[execOp,h,i,Ce,aeR hc,f]
theorem ar{f:BinOp}{t t':TypeId}{b c:Int}(h:gA ops n s g=true)(j:ev n s x = .int k a)(l:ev n s y = .int k b)(hc:Bx f a b=some c)(i:k.wrap c=e)(K:WL r P ops Q rest (Fr n ((d,.int k e) :: s) ds) w) :
 WL r P ops Q (⟨some d,.binOp f t x y t', ty,pos,af,g⟩ :: rest) (Fr n s ds) w:=pw h (fun _=>O2 j l hc i) K
theorem kX(h:-9223372036854775808<=a/\a<=9223372036854775807):IntKind.i64.wrap a=a:=IntWalk.i64_in a h
theorem Ej(h:0<=a/\a<=18446744073709551615):IntKind.u64.wrap a=a:=IntWalk.u64_in a h
theorem U1(h:0<=a/\a<=255):IntKind.u8.wrap a=a:=IntWalk.u8_in a h
theorem ad3{t t':TypeId}{b:Int}(d:ev n s x = .int k a)(f:ev n s y = .int k b)(hb:b≠0)(c:k.wrap (a.tdiv b)=e) :
 (execOp (ev n s) ⟨dd,.binOp .quo t x y t', ty,pos,af,g⟩).run P w = .ok (.value (.int k e)) w:=by simp[execOp,d,f,Ce,binOp,Op.intDiv,hb,c]
theorem quo{t t':TypeId}{b:Int}(c:gA ops n s g=true)(h:ev n s x = .int k a)(i:ev n s y = .int k b)(hb:b≠0)(f:k.wrap (a.tdiv b)=e)(K:WL r P ops Q rest (Fr n ((d,.int k e) :: s) ds) w) :
 WL r P ops Q (⟨some d,.binOp .quo t x y t', ty,pos,af,g⟩ :: rest) (Fr n s ds) w:=pw c (fun _=>ad3 h i hb f) K
theorem aea{t t':TypeId}{b:Int}(d:ev n s x = .int k a)(f:ev n s y = .int k b)(hb:b≠0)(c:a.tmod b=e) :
 (execOp (ev n s) ⟨dd,.binOp .rem t x y t', ty,pos,af,g⟩).run P w = .ok (.value (.int k e)) w:=by simp[execOp,d,f,Ce,binOp,Op.intDiv,hb,c]
theorem rem{t t':TypeId}{b:Int}(c:gA ops n s g=true)(h:ev n s x = .int k a)(i:ev n s y = .int k b)(hb:b≠0)(f:a.tmod b=e)(K:WL r P ops Q rest (Fr n ((d,.int k e) :: s) ds) w) :
 WL r P ops Q (⟨some d,.binOp .rem t x y t', ty,pos,af,g⟩ :: rest) (Fr n s ds) w:=pw c (fun _=>aea h i hb f) K
def tY(c:BinOp)(k:IntKind)(x y:Int):Option Int :=
 let a:=BitVec.ofInt k.bits x
 let b:=BitVec.ofInt k.bits y
 match c with
 | .and=>some (k.wrap (a &&& b).toNat)
 | .or=>some (k.wrap (a ||| b).toNat)
 | .xor=>some (k.wrap (a ^^^ b).toNat)
 | .andNot=>some (k.wrap (a &&& ~~~b).toNat)
 | _=>none
theorem Wx{d:BinOp}{t t':TypeId}{b:Int}(f:ev n s x = .int k a)(h:ev n s y = .int k b)(c:tY d k a b=some e) :
 (execOp (ev n s) ⟨dd,.binOp d t x y t', ty,pos,af,g⟩).run P w = .ok (.value (.int k e)) w:=by
 simp only[tY]at c
 cases d<;>simp at c<;>simp[execOp,f,h,Ce,binOp,Op.intBits,c]
theorem bi{c:BinOp}{t t':TypeId}{b:Int}(f:gA ops n s g=true)(i:ev n s x = .int k a)(j:ev n s y = .int k b)(h:tY c k a b=some e)(K:WL r P ops Q rest (Fr n ((d,.int k e) :: s) ds) w) :
 WL r P ops Q (⟨some d,.binOp c t x y t', ty,pos,af,g⟩ :: rest) (Fr n s ds) w:=pw f (fun _=>Wx i j h) K
theorem afk{t t':TypeId}{i:IntKind}{b:Int}(f:ev n s x = .int k a)(h:ev n s y = .int i b)(hb:0<=b)(d:a.fdiv (2 ^ (min b.toNat k.bits))=e) :
 (execOp (ev n s) ⟨dd,.binOp .shr t x y t', ty,pos,af,g⟩).run P w = .ok (.value (.int k e)) w:=by
 have c : ¬ b<0:=by omega
 simp[execOp,f,h,Ce,binOp,Op.shift,c, d]
theorem shr{t t':TypeId}{j:IntKind}{b:Int}(c:gA ops n s g=true)(h:ev n s x = .int k a)(i:ev n s y = .int j b)(hb:0<=b)(f:a.fdiv (2 ^ (min b.toNat k.bits))=e)(K:WL r P ops Q rest (Fr n ((d,.int k e) :: s) ds) w) :
 WL r P ops Q (⟨some d,.binOp .shr t x y t', ty,pos,af,g⟩ :: rest) (Fr n s ds) w:=pw c (fun _=>afk h i hb f) K
theorem acN{t:TypeId}{b c:Bool}(a:ev n s x = .bool b)(hc:(!b)=c) :
 (execOp (ev n s) ⟨dd,.unOp .not t x,ty,pos,af,g⟩).run P w = .ok (.value (.bool c)) w:=by simp[execOp,a,Op.unary,hc]
theorem X0{t t':TypeId}{u:TypeDesc}(c:ev n s x = .int k a)(hs:P.underlying t=some u)(ht:P.underlying t' = some (.int k'))(b:k'.wrap a=e) :
 (execOp (ev n s) ⟨dd,.convert t t' x,ty,pos,af,g⟩).run P w = .ok (.value (.int k' e)) w:=by simp[execOp,c,convert,run_underlying hs,run_underlying ht,Conv.intToInt,b]
theorem YH{vs:Array Value}(a:ev n s x = .tuple vs)(hv:vs[i]? = some v) :
 (execOp (ev n s) ⟨dd,.extract x i,ty,pos,af,g⟩).run P w = .ok (.value v) w:=by simp[execOp,a,Instr.extract,hv]
theorem Gy{t e:TypeId}{a:Option Addr}{c:Nat}(b:ev n s x = .slice a m c)(ht:P.underlying t=some (.slice e)) :
 (execOp (ev n s) ⟨dd,.call ⟨.builtin .len,#[x],#[t]⟩,ty,pos,af,g⟩).run P w = .ok (.value (.int .i64 m)) w:=by simp[execOp,resolve,invoke,builtin,b,Builtin.len_,run_underlying ht];rfl
theorem Gx{t e:TypeId}{a:Option Addr}{c:Nat}(b:gA ops n s g=true)(f:ev n s x = .slice a m c)(ht:P.underlying t=some (.slice e))(K:WL r P ops Q rest (Fr n ((d,.int .i64 m) :: s) ds) w) :
 WL r P ops Q (⟨some d,.call ⟨.builtin .len,#[x],#[t]⟩,ty,pos,af,g⟩ :: rest) (Fr n s ds) w:=pv b rfl (Gy f ht) K
theorem Lm{a:Addr}(b:ev n s x = .pointer (some a)) :
 (execOp (ev n s) ⟨dd,.nilCheck x,ty,pos,af,g⟩).run P w = .ok (.value (.pointer (some a))) w:=by simp[execOp,b]
theorem xB{a:Addr}(b:gA ops n s g=true)(c:ev n s x = .pointer (some a))(K:WL r P ops Q rest (Fr n ((d,.pointer (some a)) :: s) ds) w) :
 WL r P ops Q (⟨some d,.nilCheck x,ty,pos,af,g⟩ :: rest) (Fr n s ds) w:=pw b (fun _=>Lm c) K
theorem ace{fn:Fn}{fi ca:List Operand}{vf vc:List Value}(a:fi.map (ev n s)=vf)(hc:ca.map (ev n s)=vc) :
 (execOp (ev n s) ⟨dd,.makeFunc fn fi.toArray ca.toArray,ty,pos,af,g⟩).run P w = .ok (.value (.func fn vf.toArray vc.toArray)) w:=by subst a hc;simp[execOp,Instr.makeFunc]
theorem kW{fn:Fn}{fi ca:List Operand}{vf vc:List Value}(b:gA ops n s g=true)(a:fi.map (ev n s)=vf)(hc:ca.map (ev n s)=vc)(K:WL r P ops Q rest (Fr n ((d,.func fn vf.toArray vc.toArray) :: s) ds) w) :
 WL r P ops Q (⟨some d,.makeFunc fn fi.toArray ca.toArray,ty,pos,af,g⟩ :: rest) (Fr n s ds) w:=pv b rfl (ace a hc) K
theorem aam{t:TypeId}{b:ByteArray}{i:Int}{c:UInt8}(d:ev n s x = .string b)(e:ev n s y = .int k i)(ht:P.underlying t=some .string)(a:0<=i)(hc:b[i.toNat]? = some c) :
 (execOp (ev n s) ⟨dd,.index t x y,ty,pos,af,g⟩).run P w = .ok (.value (.int .u8 c.toNat)) w:=by simp[execOp,d,e,Instr.index,asIntOf,run_underlying ht,a,hc]
theorem aak{t:TypeId}{b:ByteArray}{i:Int}{c:UInt8}(e:gA ops n s g=true)(f:ev n s x = .string b)(h:ev n s y = .int k i)(ht:P.underlying t=some .string)(a:0<=i)(hc:b[i.toNat]? = some c)(K:WL r P ops Q rest (Fr n ((d,.int .u8 c.toNat) :: s) ds) w) :
 WL r P ops Q (⟨some d,.index t x y,ty,pos,af,g⟩ :: rest) (Fr n s ds) w:=pw e (fun _=>aam f h ht a hc) K
end
section
variable{r:Option Nat}{n:Nat}{ds:List Deferred}{w':World}
theorem rg{id:Nat}{l:List Oper}(h:WL r P l.toArray Q l (Fr n s ds) w):WP r P (.region id l.toArray false) Q (Fr n s ds) w:=wpIn_region_lit (M9 _ _ _ h.out)
theorem sp(h:Q .normal (Fr n s ds) w):WP r P .skip Q (Fr n s ds) w:=wpIn_skip h
theorem bk{id:Nat}{c:Code}(h:WP r P c (Exit.inBlock id Q) (Fr n s ds) w):WP r P (.block id c) Q (Fr n s ds) w:=wpIn_block h
theorem xt{id:Nat}(h:Q (.exit id) (Fr n s ds) w):WP r P (.exit id) Q (Fr n s ds) w:=wpIn_exit h
theorem rt(h:Q .ret (Fr n s ds) w):WP r P .ret Q (Fr n s ds) w:=wpIn_ret h
theorem Xa{c:Operand}{x y:Code}(hc:ev n s c = .bool true)(h:WP r P x Q (Fr n s ds) w):WP r P (.cond c x y) Q (Fr n s ds) w :=
 wpIn_cond_true (by rw[EU];exact hc) h
theorem W9{c:Operand}{x y:Code}(hc:ev n s c = .bool false)(h:WP r P y Q (Fr n s ds) w):WP r P (.cond c x y) Q (Fr n s ds) w :=
 wpIn_cond_false (by rw[EU];exact hc) h
section
variable{a:Act}{j:Nat}{ch:List PanicEntry}
theorem tN(h:K a w):Exit.then K Q .normal a w:=h
theorem bX(h:Q .normal a w):Exit.inBlock i Q (.exit i) a w:=by simp only[Exit.inBlock,if_true];exact h
theorem Jn(b:Nat.beq j i=false)(h:Q (.exit j) a w):Exit.inBlock i Q (.exit j) a w:=by
 have:¬ j=i:=fun e=>by subst e;simp at b
 simp only[Exit.inBlock,this,if_false];exact h
end
def Ir{α:Type}(n:Nat)(ds:List Deferred)(pre:α->List (Nat×Value))(C:α->World->Prop)(μ:α->Nat)(m:Nat)(a:Act)(w:World):Prop :=
 ∃ x s,a=Fr n s ds/\Holds s (pre x)/\C x w/\μ x<m
theorem again{α:Type}{pre:α->List (Nat×Value)}{C:α->World->Prop}{μ:α->Nat}(x:α)(h:Holds s (pre x))(a:C x w)(hm:μ x<m):Ir n ds pre C μ m (Fr n s ds) w :=
 ⟨x,s,rfl,h,a,hm⟩
theorem lp{α:Type}{c:Code}(pre:α->List (Nat×Value))(C:α->World->Prop)(μ:α->Nat)(i:α)(q:Holds s (pre i))(t:C i w)(G:∀ x H w', C x w' -> WP r P c (Exit.then (Ir n ds pre C μ (μ x)) Q) (Fr n (pre x++H) ds) w'):WP r P (.loop c) Q (Fr n s ds) w:=by
 intro b k cs D hb h
 have key:∀ j x s w,μ x=j->Holds s (pre x)->C x w ->
  ∃ e a' w', Q e a' w' /\ ArrivesIn (Machine.fenced P (FW r)) P (lone (b.atR (Fr n s ds) (.code c :: .inLoop c :: k)) cs w) b k cs e a' w' := by
  intro j
  induction j using Nat.strongRecOn with
  | _ j F =>
   intro x s w A hs v
   obtain⟨e,g,f,d,a⟩:=G x s w v b (.inLoop c :: k) cs D hb h
   rw[<-NB (pre x) hs]at a
   cases e with
   | normal =>
    obtain⟨m,I,rfl,E,u,z⟩:=d
    obtain⟨p,o,J,B,y⟩:=F (μ m) (A▸z) m I f rfl E u
    exact⟨p,o,J,B,.of_steps (StepsIn.trans a (.one (fenced_calm hb h rfl) stepR_inLoop)) y⟩
   | exit id=>exact⟨_,g,f,d,.pass (x:=.inLoop c) rfl (fun _ _=>.inl s_) a⟩
   | goto l=>exact⟨_,g,f,d,.pass (x:=.inLoop c) rfl (fun _ _=>.inl s_) a⟩
   | ret=>exact⟨_,g,f,d,.pass (x:=.inLoop c) rfl (fun _ _=>.inl s_) a⟩
   | panic ch=>exact⟨_,g,f,d,.pass (x:=.inLoop c) rfl (fun _ _=>.inl s_) a⟩
   | outgrown=>exact⟨_,g,f,d,.pass (x:=.inLoop c) rfl (fun _ _=>.inl s_) a⟩
 obtain⟨e,a', w', d,a⟩:=key _ i s w rfl q t
 exact⟨e,a', w', d,.of_steps (.one (fenced_calm hb h rfl) stepR_loop) a⟩
def CX(r:Option Nat)(P:Program)(c:Code)(Q:Exit->Act->World->Prop):Nat->Act->World->Prop
 | 0,_,_=>False
 | k+1,a,w=>WP r P c (Exit.then (CX r P c Q k) Q) a w
theorem qn{c:Code}(k:Nat)(h:CX r P c Q k (Fr n s ds) w):WP r P (.loop c) Q (Fr n s ds) w:=by
 intro b kk cs t hb j
 have key:∀ k a w,CX r P c Q k a w ->
  ∃ e a' w', Q e a' w' /\ ArrivesIn (Machine.fenced P (FW r)) P (lone (b.atR a (.code c :: .inLoop c :: kk)) cs w) b kk cs e a' w' := by
  intro k
  induction k with
  | zero=>intro a w h;exact h.elim
  | succ k u =>
   intro a w h
   obtain⟨e,g,i,f,d⟩:=h b (.inLoop c :: kk) cs t hb j
   cases e with
   | normal =>
    obtain⟨o,m,v,q,p⟩:=u g i f
    exact⟨o,m,v,q,.of_steps (StepsIn.trans d (.one (fenced_calm hb j rfl) stepR_inLoop)) p⟩
   | exit id=>exact⟨_,g,i,f,.pass (x:=.inLoop c) rfl (fun _ _=>.inl s_) d⟩
   | goto l=>exact⟨_,g,i,f,.pass (x:=.inLoop c) rfl (fun _ _=>.inl s_) d⟩
   | ret=>exact⟨_,g,i,f,.pass (x:=.inLoop c) rfl (fun _ _=>.inl s_) d⟩
   | panic ch=>exact⟨_,g,i,f,.pass (x:=.inLoop c) rfl (fun _ _=>.inl s_) d⟩
   | outgrown=>exact⟨_,g,i,f,.pass (x:=.inLoop c) rfl (fun _ _=>.inl s_) d⟩
 obtain⟨e,a', w', f,d⟩:=key k _ w h
 exact⟨e,a', w', f,.of_steps (.one (fenced_calm hb j rfl) stepR_loop) d⟩
theorem iF{c:Code}{k:Nat}{a:Act}(h:WP r P c (Exit.then (CX r P c Q k) Q) a w):CX r P c Q (k+1) a w:=h
def tU:List Value->Nat->List (Nat×Value)
 | [],_=>[]
 | v :: vs,i=>(i,v) :: tU vs (i+1)
theorem abu(vs:List Value):∀ i t,i<=t->look (tU vs i) t=(vs[t-i]?).getD undef:=by
 induction vs with
 | nil=>intro i t _;simp[tU,look]
 | cons v vs a =>
  intro i t h
  rw[tU,uV]
  split
  . rename_i e;subst e;simp
  . rename_i e
    rw[a (i+1) t o_]
    rw[show t-i=(t-(i+1))+1 by omega]
    simp
theorem NA(vs:List Value)(n:Nat)(h:vs.length<=n):({ tmps:=vs.toArray++Array.replicate (n-vs.toArray.size) undef,defers:=[] }:Act)=Fr n (tU vs 0) []:=by
 unfold Fr
 simp only[Act.mk.injEq,and_true]
 apply Array.ext
 . simp;omega
 . intro i a b
   simp only[Array.getElem_ofFn]
   grind [abu]
def CR(P:Program)(f:FuncId)(vs:Array Value)(w:World)(R:Value->World->Prop):Prop :=
 Calls P f vs w fun e w' => ∃ v,e = .returned v/\R v w'
theorem CR.mono{f:FuncId}{vs:Array Value}{R':Value->World->Prop}(h:CR P f vs w R)(c:∀ v w', R v w' -> R' v w'):CR P f vs w R' :=
 Calls.mono h fun e w' ⟨v,b,a⟩=>⟨v,b,c v w' a⟩
theorem enter{f:FuncId}{c:Code}{R:Ending->World->Prop}(a:P.funcs[f]? = some fn)(hb:fn.body=some c)(b:fn.ntmps=n)(hs:Nat.ble vs.length n=true)(h:WP none P c (bodyPost P fn R) (Fr n (tU vs 0) []) w):Calls P f vs.toArray w R:=by
 refine Dv.1 (callsIn_of_wp (F:=FW none) (n:=0) a hb trivial ?_)
 rw[b,NA vs n (qV hs)]
 exact h
theorem ox(t:Nat):(Fr n s ds).tmps.getD t undef=ev n s (.tmp t):=EU n s ds (.tmp t)
theorem gT{t:Nat}(a:fn.results = #[.tmp t])(hv:ev n s (.tmp t)=v)(h:R v w) :
 bodyPost P fn (fun e w' => ∃ v,e = .returned v/\R v w') .ret (Fr n s []) w :=
 ⟨rfl,_,results_tmp a _ _ _,_,rfl,by rw[ox,hv];exact h⟩
theorem xH(a:fn.results = #[])(h:R (.tuple #[]) w) :
 bodyPost P fn (fun e w' => ∃ v,e = .returned v/\R v w') .ret (Fr n s []) w :=
 ⟨rfl,_,results_none a _ _ _,_,rfl,h⟩
theorem lZ(a:fn.results = #[])(h:R (.tuple #[]) w) :
 bodyPost P fn (fun e w' => ∃ v,e = .returned v/\R v w') .normal (Fr n s []) w :=
 ⟨rfl,_,results_none a _ _ _,_,rfl,h⟩
theorem kC{t u:Nat}{v':Value}(a:fn.results = #[.tmp t,.tmp u])(hv:ev n s (.tmp t)=v)(b:ev n s (.tmp u)=v')(h:R (.tuple #[v,v']) w) :
 bodyPost P fn (fun e w' => ∃ v,e = .returned v/\R v w') .ret (Fr n s []) w :=
 ⟨rfl,_,results_tmp2 a _ _ _,_,rfl,by rw[ox,ox,hv,b];exact h⟩
theorem ael{t u x:Tmp}(h:fn.results = #[.tmp t,.tmp u,.tmp x])(tmps:Array Value)(P:Program)(w:World) :
 (results fn tmps).run P w = .ok (.tuple #[tmps.getD t undef,tmps.getD u undef,tmps.getD x undef]) w:=by
 simp[results,h]
theorem r0{t u x:Nat}{v' v'':Value}(a:fn.results = #[.tmp t,.tmp u,.tmp x])(hv:ev n s (.tmp t)=v)(b:ev n s (.tmp u)=v')(c:ev n s (.tmp x)=v'')(h:R (.tuple #[v,v', v'']) w) :
 bodyPost P fn (fun e w' => ∃ v,e = .returned v/\R v w') .ret (Fr n s []) w :=
 ⟨rfl,_,ael a _ _ _,_,rfl,by rw[ox,ox,ox,hv,b, c];exact h⟩
variable{ops:Array Oper}{rest:List Oper}{d:Option Nat}{ty:TypeId}{pos:String}{af:Array Edge}{g:Option (Nat×Bool)}
def u5(d:Option Nat)(v:Value)(s:List (Nat×Value)):List (Nat×Value):=match d with|some i=>(i,v) :: s|none=>s
theorem EW(d:Option Nat)(v:Value):(Fr n s ds).put d v=Fr n (u5 d v s) ds:=by
 cases d with
 | none=>rfl
 | some i=>exact vu n s ds i v
abbrev wG(P:Program)(f:FuncId):Prop:=∀ (args:Array Value) (w:World),(callFunc f args).run P w = .ok (.enter f args) w
theorem GH(az:List Operand):az.toArray.map (ev n s)=(az.map (ev n s)).toArray:=by simp
theorem jG{f:FuncId}{T:Array TypeId}(b:gA ops n s g=true)(hvs:az.map (ev n s)=vl)(a:wG P f)(hc:CR P f vl.toArray w R)(K:∀ v w', R v w' -> WL r P ops Q rest (Fr n (u5 d v s) ds) w') :
 WL r P ops Q (⟨d,.call ⟨.value (.func f),az.toArray,T⟩,ty,pos,af,g⟩ :: rest) (Fr n s ds) w:=by
 refine Vb (f:=f) (args:=vl.toArray) (w' := w) b rfl ?_ (Calls.mono hc ?_)
 . simp only[execOp,resolve,invoke,Deferred.ofValue,GH, hvs]
   simp[ev,a _ _]
 . grind [EW]
theorem lR{f:FuncId}{fi ca:List Value}{T:Array TypeId}(b:gA ops n s g=true)(c:ev n s x = .func (.func f) fi.toArray ca.toArray)(hvs:fi++az.map (ev n s)++ca=vl)(a:wG P f)(hc:CR P f vl.toArray w R)(K:∀ v w', R v w' -> WL r P ops Q rest (Fr n (u5 d v s) ds) w') :
 WL r P ops Q (⟨d,.call ⟨.value x,az.toArray,T⟩,ty,pos,af,g⟩ :: rest) (Fr n s ds) w:=by
 refine Vb (f:=f) (args:=vl.toArray) (w' := w) b rfl ?_ (Calls.mono hc ?_)
 . subst hvs
   simp only[execOp,resolve,invoke,Deferred.ofValue,GH, c]
   simp[a _ _]
 . grind [EW]
end
section
structure gE (S:List Nat) (w w' : World):Prop where
 os:w'.os=w.os
 tape:w'.tape=w.tape
 output:w'.output=w.output
 size:w.heap.size<=w'.heap.size
 block:∀ b,b<w.heap.size->b∉S->w'.heap[b]? = w.heap[b]?
theorem gE.refl(w:World):gE S w w:=⟨rfl,rfl,rfl,zh _,fun _ _ _=>rfl⟩
theorem gE.trans{a b c:World}(h:gE X a b)(k:gE X b c):gE X a c :=
 ⟨k.os.trans h.os,k.tape.trans h.tape,k.output.trans h.output,kS h.size k.size,fun i hi d=>(k.block i (qA hi h.size) d).trans (h.block i hi d)⟩
theorem gE.mono{c:List Nat}{a b:World}(h:gE X a b)(hs:∀ x∈X,x∈c):gE c a b :=
 ⟨h.os,h.tape,h.output,h.size,fun i hi d=>h.block i hi (fun e=>d (hs i e))⟩
theorem gE.drew(w:World):gE S w w.drew:=⟨rfl,rfl,rfl,zh _,fun _ _ _=>rfl⟩
theorem gE.alloc(w:World)(o:Obj):gE S w (w.alloc o) :=
 ⟨rfl,rfl,rfl,s_,fun b hb _=>RowKit.Below.heap_alloc w o b hb⟩
theorem gE.setRow(w:World)(g:Nat)(cs:Array Value):gE [g] w (w.setRow g cs) :=
 ⟨rfl,rfl,rfl,s_,fun b _ hb=>setRow_other w g b cs (by simpa using hb)⟩
theorem gE.acS{w':World}(h:w.grownBy w' dd):gE dd.toList w w' :=
 ⟨h.os,h.tape,h.output,h.size,fun b hb a=>h.block b hb (fun e=>a (by rw[<-e];simp))⟩
theorem gE.below{w':World}(h:gE [] w w'):RowKit.Below w.heap.size w w' :=
 ⟨h.os,h.tape,h.output,h.size,fun b hb=>h.block b hb s_⟩
structure fJ where
 gq:List Nat
 holds:World->Prop
 loc:∀ w w', (∀ b∈gq,w'.heap[b]? = w.heap[b]?)->holds w->holds w'
def blk(b:Nat)(T:TypeId)(cs:List Value):fJ where
 gq:=[b]
 holds w:=w.heap[b]? = some (.cells cs.toArray T (0,0))
 loc w w' h hh:=(h b s_).trans hh
def row(v:Value)(e:TypeId)(sz m:Nat)(xs:List Value):fJ where
 gq:=v.ownBlock.toList
 holds w:=w.ownsRow 0 e sz v m xs
 loc w w' h hh:=by
  refine⟨hh.1,?_⟩
  rcases hh.2 with c|⟨g,a,cur,rfl,hb,b,rest⟩
  . exact .inl c
  . exact .inr ⟨g,a,cur,rfl,hb,(h g (by simp[Value.ownBlock])).trans b,rest⟩
def jb(L:List fJ):List Nat:=L.flatMap (·.gq)
structure Bs (wb:World) (X:List Nat) (L:List fJ) (w:World):Prop where
 gf:gE X wb w
 mine:∀ b∈jb L,b∈X\/wb.heap.size<=b
structure St (bs:List (World×List Nat)) (L:List fJ) (w:World):Prop where
 base:∀ p∈bs,Bs p.1 p.2 L w
 own:∀ R∈L,R.holds w
 sep:(jb L).Nodup
 lt:∀ b∈jb L,b<w.heap.size
variable{L L':List fJ}{w':World}
theorem St.init(w:World):St [(w,[])] [] w :=
 ⟨fun p hp=>by simp only[z8]at hp;subst hp;exact⟨gE.refl _ _,by simp[jb]⟩,s_,by simp[jb],by simp[jb]⟩
theorem St.QY(w:World)(L:List fJ)(d:∀ R∈L,R.holds w)(c:(jb L).Nodup)(a:∀ b∈jb L,b<w.heap.size):St [(w,jb L)] L w :=
 ⟨fun p hp=>by simp only[z8]at hp;subst hp;exact⟨gE.refl _ _,fun b hb=>.inl hb⟩,d,c,a⟩
theorem St.gf(h:St bs L w)(hb:(w0,X)∈bs):gE X w0 w:=(h.base _ hb).gf
theorem St.keep(h:St bs L w)(hb:(w0,X)∈bs)(c:b<w0.heap.size)(a:b∉X):w.heap[b]? = w0.heap[b]? :=
 (h.base _ hb).gf.block b c a
theorem St.JC(h:St bs L w)(hb:(w0,X)∈bs){a:Addr}(hc:w0.cell? a=some v)(b:a.block∉X):w.cell? a=some v :=
 (World.cell?_of_block (h.keep hb (World.block_lt_of_cell? w0 a hc) b)).trans hc
theorem nO(R:fJ)(L:List fJ):jb (R :: L)=R.gq++jb L:=by simp[jb]
theorem tc{R:fJ}{L:List fJ}(hi:L[i]? = some R)(hb:b∈R.gq):b∈jb L :=
 qw.2 ⟨R,zg hi,hb⟩
variable{R':fJ}
theorem St.iV{R:fJ}(h:St bs L w)(hi:L[i]? = some R)(hc:gE R.gq w w')(s:∀ b∈R'.gq,b∈R.gq\/w.heap.size<=b)(z:R'.gq.Nodup)(l:∀ b∈R'.gq,b<w'.heap.size)(u:R'.holds w'):St bs (L.set i R') w' := by
 obtain⟨l1,d,rfl,t⟩:∃ l1 d,L=l1++R :: d/\l1.length=i:=by
  have l:=(zp.1 hi).1
  refine⟨L.take i,L.drop (i+1),?_,by simp;omega⟩
  have:=(zp.1 hi).2
  rw[<-this,<-Eu l,wA]
 have v:(l1++R :: d).set i R' = l1++R' :: d:=by rw[<-t];simp
 have c:∀ R:fJ,jb (l1++R :: d)=jb l1++(R.gq++jb d):=fun R=>by simp[jb]
 rw[v]
 have o:=h.sep
 rw[c,zo]at o
 obtain⟨n1,r,x⟩:=o
 rw[zo]at r
 obtain⟨A,B,y⟩:=r
 have n:∀ b,b∈jb l1\/b∈jb d->b<w.heap.size/\b∉R.gq:=by
  intro b hb
  refine⟨h.lt b (by rw[c];simp only[zj];rcases hb with hb|hb<;>simp[hb]),fun e=>?_⟩
  rcases hb with hb|hb
  . exact x b hb b (by simp[e]) rfl
  . exact y b e b hb rfl
 have k:∀ b,b∈jb l1\/b∈jb d->w'.heap[b]? = w.heap[b]? := fun b hb=>hc.block b (n b hb).1 (n b hb).2
 refine⟨fun p hp=>?_,fun X j=>?_,?_,?_⟩
 . have hb:=h.base p hp
   refine⟨⟨hc.os.trans hb.gf.os,hc.tape.trans hb.gf.tape,hc.output.trans hb.gf.output,kS hb.gf.size hc.size,fun b m q=>?_⟩,fun b g => ?_⟩
   . refine(hc.block b (qA m hb.gf.size) (fun e=>?_)).trans (hb.gf.block b m q)
     rcases hb.mine b (by rw[c];simp[e])with a|a
     . exact q a
     . omega
   . rw[c]at g
     simp only[zj]at g
     rcases g with a|a|a
     . exact hb.mine b (by rw[c];simp[a])
     . rcases s b a with f|f
       . exact hb.mine b (by rw[c];simp[f])
       . exact .inr (kS hb.gf.size f)
     . exact hb.mine b (by rw[c];simp[a])
 . simp only[zj,ze]at j
   rcases j with a|rfl|a
   . exact X.loc w w' (fun b hb=>k b (.inl (qw.2 ⟨X,a,hb⟩))) (h.own X (by simp[a]))
   . exact u
   . exact X.loc w w' (fun b hb=>k b (.inr (qw.2 ⟨X,a,hb⟩))) (h.own X (by simp[a]))
 . rw[c,zo]
   grind
 . intro b hb
   rw[c]at hb
   grind
theorem St.grow(h:St bs L w)(hc:gE [] w w'):St bs L w' :=
 ⟨fun p hp=>by
  have hb:=h.base p hp
  exact⟨⟨hc.os.trans hb.gf.os,hc.tape.trans hb.gf.tape,hc.output.trans hb.gf.output,kS hb.gf.size hc.size,
   fun b c d=>(hc.block b (qA c hb.gf.size) s_).trans (hb.gf.block b c d)⟩,hb.mine⟩,
  fun X a=>X.loc w w' (fun b hb=>hc.block b (h.lt b (qw.2 ⟨X,a,hb⟩)) s_) (h.own X a),
  h.sep,fun b hb=>qA (h.lt b hb) hc.size⟩
theorem St.add{R:fJ}(h:St bs L w)(n:∀ p∈bs,p.1.heap.size<=lo)(g:∀ b∈jb L,b<lo)(f:∀ b∈R.gq,lo<=b)(j:R.gq.Nodup)(i:∀ b∈R.gq,b<w.heap.size)(k:R.holds w):St bs (R :: L) w:=by
 refine⟨fun p hp=>⟨(h.base p hp).gf,fun b hb=>?_⟩,fun X c=>?_,?_,?_⟩
 . rw[nO,zj]at hb
   rcases hb with hb|hb
   . grind
   . exact(h.base p hp).mine b hb
 . simp only[ze]at c
   rcases c with rfl|c
   . exact k
   . exact h.own X c
 . rw[nO,zo]
   exact⟨j,h.sep,fun a d b hb e=>by have l:=f a d;have m:=g b hb;omega⟩
 . intro b hb
   rw[nO,zj]at hb
   rcases hb with hb|hb
   . exact i b hb
   . exact h.lt b hb
theorem St.tS{R:fJ}(h:St bs L w)(hc:gE [] w w')(a:∀ b∈R.gq,w.heap.size<=b)(d:R.gq.Nodup)(c:∀ b∈R.gq,b<w'.heap.size)(e:R.holds w'):St bs (R :: L) w' :=
 (h.grow hc).add (lo:=w.heap.size) (fun p hp=>(h.base p hp).gf.size) h.lt a d c e
theorem St.sub(h:St bs L w)(hs:L'.Sublist L):St bs L' w:=by
 have hm:∀ b∈jb L', b∈jb L:=fun b hb=>by
  obtain⟨X,c,e⟩:=qw.1 hb
  exact qw.2 ⟨X,hs.subset c,e⟩
 refine⟨fun p hp=>⟨(h.base p hp).gf,fun b hb=>(h.base p hp).mine b (hm b hb)⟩,fun X c=>h.own X (hs.subset c),?_,fun b hb=>h.lt b (hm b hb)⟩
 exact h.sep.sublist (by
  clear h hm
  induction hs with
  | slnil=>exact List.Sublist.slnil
  | cons a _ d=>rw[nO];exact d.trans (No _ _)
  | cons_cons a _ d=>rw[nO,nO];exact List.Sublist.append_left d _)
theorem St.FL{T:TypeId}(h:St bs L w)(hi:L[i]? = some (blk b T cs)):w.heap[b]? = some (.cells cs.toArray T (0,0)) :=
 h.own _ (zg hi)
theorem St.tZ{T:TypeId}(h:St bs L w)(hi:L[i]? = some (blk b T cs))(hv:cs[o]? = some v):w.cell? ⟨b,o,none⟩=some v:=by
 rw[cell_of_row w b o cs.toArray T (0,0) (h.FL hi)]
 simpa using hv
def setAt(cs:List Value)(o:Nat)(vs:List Value):List Value:=cs.take o++vs++cs.drop (o+vs.length)
abbrev TI(P:Program)(t:TypeId)(sz by_:Nat)(z:Value):Prop:=(P.info? t).map (fun i=>(i.size,i.bytes,i.zero))=some (sz,by_,some z)
theorem TI.get{t:TypeId}{sz:Nat}(h:TI P t sz o v):∃ i,P.info? t=some i/\i.size=sz/\i.bytes=o/\i.zero=some v:=by
 unfold TI at h
 cases hi:P.info? t with
 | none=>rw[hi]at h;simp at h
 | some i=>rw[hi]at h;simp at h;exact⟨i,rfl,h.1,h.2.1,h.2.2⟩
variable{t:TypeId}{sz by_:Nat}{z:Value}
theorem TI.size(h:TI P t sz by_ z)(w:World):(sizeOf t).run P w = .ok sz w:=by
 obtain⟨i,hi,a,_,_⟩:=h.get
 simp[sizeOf,typeInfo,hi,a]
theorem TI.CU(h:TI P t sz by_ z)(w:World):(zeroValue t).run P w = .ok z w:=by
 obtain⟨i,hi,_,_,a⟩:=h.get
 simp[zeroValue,typeInfo,hi,a]
def kJ:TypeDesc->Bool
 | .struct _ | .array _ _=>true
 | _=>false
section
variable{r:Option Nat}{ops:Array Oper}{rest:List Oper}{n:Nat}{ds:List Deferred}
variable{d:Nat}{ty:TypeId}{pos:String}{af:Array Edge}{g:Option (Nat×Bool)}{u:TypeDesc}
theorem vZ(a:P.underlying t=some u)(w:World):(isAgg t).run P w = .ok (kJ u) w:=by
 unfold isAgg
 cases u<;>simp[run_underlying a,kJ]
theorem s8{a:Addr}(d:ev n s x = .pointer (some a))(c:P.underlying t=some u)(b:kJ u=false)(hv:w.cell? a=some v) :
 (execOp (ev n s) ⟨dd,.load t x,ty,pos,af,g⟩).run P w = .ok (.value v) w:=by
 simp only[execOp,d,Instr.loadAt,Instr.sureAddr,loadVar,zt,kn,zn,vZ c,b]
 simp[load,Sem.run,hv]
theorem ld{a:Addr}(b:gA ops n s g=true)(f:ev n s x = .pointer (some a))(e:P.underlying t=some u)(c:kJ u=false)(hv:w.cell? a=some v)(K:WL r P ops Q rest (Fr n ((d,v) :: s) ds) w) :
 WL r P ops Q (⟨some d,.load t x,ty,pos,af,g⟩ :: rest) (Fr n s ds) w:=pv b rfl (s8 f e c hv) K
theorem xu(f:ev n s x = .pointer (some ⟨b,o,none⟩))(e:P.underlying t=some u)(d:kJ u=true)(ht:TI P t sz by_ z)(c:cs.length=sz)(hv:∀ j u,cs[j]? = some u->w.cell? ⟨b,o+j,none⟩=some u) :
 (execOp (ev n s) ⟨dd,.load t x,ty,pos,af,g⟩).run P w = .ok (.value (.agg cs.toArray)) w:=by
 subst c
 have:=run_loadCells_list (P:=P) w ⟨b,o,none⟩ cs (fun j u a=>by rw[Addr.add_lit];exact hv j u a)
 simp only[execOp,f,Instr.loadAt,Instr.sureAddr,loadVar,zt,kn,zn,vZ e,d,ht.size,this,if_true]
theorem uT(a:gA ops n s g=true)(h:ev n s x = .pointer (some ⟨b,o,none⟩))(f:P.underlying t=some u)(e:kJ u=true)(ht:TI P t sz by_ z)(c:cs.length=sz)(hv:∀ j u,cs[j]? = some u->w.cell? ⟨b,o+j,none⟩=some u)(K:WL r P ops Q rest (Fr n ((d,.agg cs.toArray) :: s) ds) w) :
 WL r P ops Q (⟨some d,.load t x,ty,pos,af,g⟩ :: rest) (Fr n s ds) w:=pv a rfl (xu h f e ht c hv) K
theorem St.Jq{b o:Nat}{T:TypeId}{cs:List Value}{vs:List Value}(h:St bs L w)(hi:L[i]? = some (blk b T cs))(hv:(cs.drop o).take vs.length=vs) :
 ∀ j u,vs[j]? = some u->w.cell? ⟨b,o+j,none⟩=some u:=by
 intro j u a
 refine h.tZ hi ?_
 grind
theorem Hq{T:TypeId}{cs':List Value}(i:Nat)(k:gA ops n s g=true)(p:ev n s x = .pointer (some ⟨b,o,none⟩))(q:ev n s y=v)(hvs:v.cells.toList=vs)(ht:TI P t sz by_ z)(m:vs.length=sz)(h1:vs.all (·.oneCell')=true)(f:St bs L w)(hi:L[i]? = some (blk b T cs))(j:Nat.ble (o+vs.length) cs.length=true)(hcs:setAt cs o vs=cs')(h:L.set i (blk b T cs')=L')(K:∀ w', St bs L' w' -> WL r P ops Q rest (Fr n s ds) w'):WL r P ops Q (⟨none,.store t x y,ty,pos,af,g⟩ :: rest) (Fr n s ds) w:=by
 have d:=f.FL hi
 have e:=run_storeCells_at P b o T vs 0 cs.toArray w d (by simpa using qV j) (by simpa using h1)
 have l:v.cells.size=sz:=by rw[<-m,<-hvs];simp
 refine Ek (w' := w.setRow b (cs'.toArray)) k rfl ?_ ?_
 . simp only[execOp,p,q,Instr.storeAt,Instr.sureAddr,storeVar,zt,kn,zn,ht.size,l,ne_eq,not_true,if_false,hvs]
   subst hcs
   simp only[sD]at e
   simp[e,setAt]
 . subst h
   refine K _ ?_
   refine f.iV hi (gE.setRow w b _) (fun c a=>.inl a) (by simp[blk]) (fun c a=>?_) (setRow_heap w b cs.toArray cs'.toArray T (0,0) d)
   simp only[blk,z8]at a
   subst a
   simpa using(su.1 d).1
theorem GR{bs:List (World×List Nat)}{L:List fJ}(a:St bs L w)(T:TypeId)(cs:List Value):St bs (blk w.heap.size T cs :: L) (w.alloc (.cells cs.toArray T)) :=
 a.tS (gE.alloc [] w _) (fun b hb=>by simp[blk]at hb;omega) (by simp[blk]) (fun b hb=>by simp[blk]at hb;simp;omega) (heap_alloc_new w _)
theorem al(a:gA ops n s g=true)(ht:TI P t sz by_ z)(hcs:z.cells.toList=cs)(c:St bs L w)(K:∀ b w', w.heap.size<=b->gE [] w w' -> St bs (blk b t cs :: L) w' -> WL r P ops Q rest (Fr n ((d,.pointer (some ⟨b,0,none⟩)) :: s) ds) w') :
 WL r P ops Q (⟨some d,.alloc t,ty,pos,af,g⟩ :: rest) (Fr n s ds) w:=by
 subst hcs
 refine pv (w' := w.alloc (.cells z.cells t)) a rfl ?_ (K _ _ (zh _) (gE.alloc [] w _) ?_)
 . simp only[execOp,Instr.alloc,zt,ht.CU,zn]
   rfl
 . have:=GR c t z.cells.toList
   simpa using this
theorem bx(a:gA ops n s g=true)(e:ev n s x=v)(hcs:v.cells.toList=cs)(c:St bs L w)(K:∀ b w', w.heap.size<=b->gE [] w w' -> St bs (blk b t cs :: L) w' -> WL r P ops Q rest (Fr n ((d,.pointer (some ⟨b,0,none⟩)) :: s) ds) w') :
 WL r P ops Q (⟨some d,.box t x,ty,pos,af,g⟩ :: rest) (Fr n s ds) w:=by
 subst hcs
 refine pv (w' := w.alloc (.cells v.cells t)) a rfl ?_ (K _ _ (zh _) (gE.alloc [] w _) ?_)
 . simp only[execOp,e,Instr.box]
   rfl
 . have:=GR c t v.cells.toList
   simpa using this
theorem F7{T:TypeId}{zf:Value}{f:Field}(e:ev n s x = .pointer (some ⟨b,o,none⟩))(a:P.underlying T=some (.struct j))(c:j[i]? = some f)(ht:TI P f.type (m+1) lo zf)(d:o+f.offset=o') :
 (execOp (ev n s) ⟨dd,.fieldAddr T x i,ty,pos,af,g⟩).run P w = .ok (.value (.pointer (some ⟨b,o', none⟩))) w:=by subst d;simp[execOp,e,Instr.fieldAt,run_underlying a,c,Instr.sureAddr,fieldPlace,ht.size,Addr.add_lit]
theorem fa{T:TypeId}{zf:Value}{fields:Array Field}{f:Field}(e:gA ops n s g=true)(j:ev n s x = .pointer (some ⟨b,o,none⟩))(a:P.underlying T=some (.struct fields))(c:fields[i]? = some f)(ht:TI P f.type (m+1) lo zf)(h:o+f.offset=o')(K:WL r P ops Q rest (Fr n ((d,.pointer (some ⟨b,o', none⟩)) :: s) ds) w) :
 WL r P ops Q (⟨some d,.fieldAddr T x i,ty,pos,af,g⟩ :: rest) (Fr n s ds) w:=pw e (fun _=>F7 j a c ht h) K
theorem KB{T e:TypeId}{c:Nat}{i:Int}(h:ev n s x = .slice (some ⟨b,o,none⟩) m c)(j:ev n s y = .int k i)(d:P.underlying T=some (.slice e))(ht:TI P e sz by_ z)(a:0<=i/\i<m)(f:o+i.toNat*sz=o') :
 (execOp (ev n s) ⟨dd,.indexAddr T x y,ty,pos,af,g⟩).run P w = .ok (.value (.pointer (some ⟨b,o', none⟩))) w:=by subst f;simp[execOp,h,j,Instr.indexAt,run_underlying d,asIntOf,a,ht.size,Addr.add_lit]
theorem jC{T e:TypeId}{c:Nat}{i:Int}(h:gA ops n s g=true)(l:ev n s x = .slice (some ⟨b,o,none⟩) m c)(p:ev n s y = .int k i)(f:P.underlying T=some (.slice e))(ht:TI P e sz by_ z)(a:0<=i/\i<m)(j:o+i.toNat*sz=o')(K:WL r P ops Q rest (Fr n ((d,.pointer (some ⟨b,o', none⟩)) :: s) ds) w) :
 WL r P ops Q (⟨some d,.indexAddr T x y,ty,pos,af,g⟩ :: rest) (Fr n s ds) w:=pw h (fun _=>KB l p f ht a j) K
end
end
def ij(k:IntKind)(x:Int):Prop:=k.min<=x/\x<=k.max
theorem ij.i64{x:Int}(h:ij .i64 x) : -9223372036854775808<=x/\x<=9223372036854775807:=h
def Sl{α:Type}(sz:Nat)(enc:World->α->List Value->Prop)(ok:Nat->Prop)(w:World)(v:Value)(xs:List α):Prop :=
 ∃ a c,v = .slice a xs.length c/\xs.length<=c/\c<=maxLen/\∀ i x,xs[i]? = some x->∃ b o vs,a=some ⟨b,o,none⟩/\ok b/\vs.length=sz/\enc w x vs/\∀ j u,vs[j]? = some u->w.cell? ⟨b,o+i*sz+j,none⟩=some u
def encI(k:IntKind)(_:World)(x:Int)(vs:List Value):Prop:=vs=[.int k x]/\ij k x
abbrev Ints(k:IntKind)(ok:Nat->Prop)(w:World)(v:Value)(xs:List Int):Prop:=Sl 1 (encI k) ok w v xs
variable{L:List fJ}{R':fJ}
variable{α:Type}{sz:Nat}{enc:World->α->List Value->Prop}{ok':Nat->Prop}{w':World}{xs:List α}
theorem Sl.nil(sz:Nat)(enc:World->α->List Value->Prop)(ok:Nat->Prop)(w:World):Sl sz enc ok w (.slice none 0 0) [] :=
 ⟨none,0,rfl,zh _,ko _,fun i x h=>by simp at h⟩
theorem Sl.len(h:Sl sz enc ok w v xs):xs.length<=9223372036854775807:=by
 obtain⟨a,c,_,d,b,_⟩:=h
 simp only[maxLen]at b;omega
theorem Sl.mono(h:Sl sz enc ok w v xs)(j:∀ b,ok b->ok' b):Sl sz enc ok' w v xs:=by
 obtain⟨a,c,e,d,f,g⟩:=h
 exact⟨a,c,e,d,f,fun i x hi=>let ⟨b,o,vs,ha,hb,rest⟩:=g i x hi;⟨b,o,vs,ha,j b hb,rest⟩⟩
theorem Sl.any(h:Sl sz enc ok w v xs):Sl sz enc (fun _=>True) w v xs:=h.mono fun _ _=>trivial
theorem Sl.to(h:Sl sz enc ok w v xs)(hk:∀ b,ok b->b<w.heap.size->w'.heap[b]? = w.heap[b]?)(m:∀ x vs,x∈xs->enc w x vs->enc w' x vs)(hp:0<sz):Sl sz enc ok w' v xs:=by
 obtain⟨a,c,e,d,f,g⟩:=h
 refine⟨a,c,e,d,f,fun i x hi=>?_⟩
 obtain⟨b,o,vs,k,hb,p,q,l⟩:=g i x hi
 refine⟨b,o,vs,k,hb,p,m x vs (zg hi) q,fun j u n=>?_⟩
 have:=l j u n
 exact(World.cell?_of_block (hk b hb (World.block_lt_of_cell? w _ this))).trans this
theorem Ints.to{xs:List Int}(h:Ints k ok w v xs)(hk:∀ b,ok b->b<w.heap.size->w'.heap[b]? = w.heap[b]?):Ints k ok w' v xs :=
 Sl.to h hk (fun _ _ _ h=>h) d_
theorem St.ints{xs:List Int}(h:St bs L w)(hb:(w0,X)∈bs)(a:Ints k ok w0 v xs)(e:∀ b,ok b->b∉X):Ints k ok w v xs :=
 Ints.to a fun b c d=>h.keep hb d (e b c)
theorem St.Gh{xs:List Int}(h:St bs L w)(hb:(w0,[])∈bs)(a:Ints k ok w0 v xs):Ints k ok w v xs :=
 h.ints hb a fun _ _=>pn
theorem Sl.cut{a:Option Addr}{c l h:Nat}(hs:Sl sz enc ok w (.slice a m c) xs)(z:l<=h)(t:h<=m) :
 Sl sz enc ok w (.slice (if c=l then a else a.map (·.add (l*sz))) (h-l) (c-l)) ((xs.take h).drop l):=by
 obtain⟨a', c', e,q,r,f⟩:=hs
 cases e
 have d:((xs.take h).drop l).length=h-l:=by simp;omega
 refine⟨_,c-l,by rw[d],by rw[d];omega,o_,fun i x hi=>?_⟩
 have v : i<h-l:=by have:=(zp.1 hi).1;omega
 have p:xs[l+i]? = some x:=by
  grind
 obtain⟨b,o,vs,g,hb,n, k,s⟩:=f (l+i) x p
 refine⟨b,o+l*sz,vs,?_,hb,n, k,fun j u y=>?_⟩
 . have:¬ c=l:=by
    intro e;subst e;omega
   rw[if_neg this,g]
   simp[Addr.add_lit]
 . grind
theorem Lx{e:TypeId}{sz:Nat}{xs:List Value}(h:w.ownsRow 0 e sz v m xs)(hb:v.ownBlock=some b):b<w.heap.size:=(h.lt b hb).2
theorem aeQ{t ty e:TypeId}{i:TypeInfo}(ht:P.underlying t=some (.slice e))(hi:P.info? e=some i){xs:List Value}{sz:Nat}(f:w.ownsRow 0 e sz v m xs){a:Option Addr}{c:Nat}:(Builtin.append_ #[t,t] ty #[v,.slice a 0 c]).run P w = .ok v w:=by
 have b:(Builtin.firstCells i.size 0 (.slice a 0 c)).run P w = .ok #[] w:=by
  cases a with
  | none=>simp[Builtin.firstCells]
  | some a=>simp[Builtin.firstCells,loadCells,loadCellsFrom]
 rcases f.2 with ⟨rfl,rfl⟩|⟨g,h,cur,rfl,_,j,d,_,_,_⟩
 . simp[Builtin.append_,run_underlying ht,sizeOf,typeInfo,hi,Builtin.lenOf,b]
 . simp[Builtin.append_,run_underlying ht,sizeOf,typeInfo,hi,Builtin.lenOf,b,d,storeCells]
def Src(w:World)(u:Value)(sz cnt:Nat)(news:List Value):Prop :=
 ∃ a c,u = .slice a cnt c/\news.length=cnt*sz/\∀ j x,news[j]? = some x->∃ b,a=some b/\w.cell? (b.add j)=some x
theorem aeP{t ty e:TypeId}{sz by_:Nat}{z:Value}(ht:P.underlying t=some (.slice e))(hi:TI P e sz by_ z)(I:z.cells.size=sz)(A:0<sz){u:Value}{cnt:Nat}{xs:List Value}(d:w.ownsRow 0 e sz v m xs)(hs:Src w u sz cnt vs)(h1:∀ x∈vs,x.oneCell' = true)(hb:(m+cnt)*by_<=140737488355328)(r:m+cnt<=maxLen) :
 ∃ v' w', (Builtin.append_ #[t,t] ty #[v,u]).run P w = .ok v' w' /\ w'.ownsRow 0 e sz v' (m+cnt) (xs++vs)/\gE v.ownBlock.toList w w' /\ (∀ b,v'.ownBlock=some b->(v.ownBlock=some b\/w.heap.size<=b)/\b<w'.heap.size) /\
  (v' = .slice none 0 0↔v = .slice none 0 0/\cnt=0):=by
 obtain⟨i,l,rfl,rfl,s⟩:=hi.get
 obtain⟨a,c,rfl,h,G⟩:=hs
 by_cases h0:cnt=0
 . subst h0
   have H:vs=[]:=wo (by simpa using h)
   subst H
   exact⟨v,w,aeQ ht l d,by simpa using d,gE.refl _ _,fun b hb=>⟨.inl hb,Lx d hb⟩,s_⟩
 . have N:0<vs.length:=by rw[h];exact Nat.mul_pos o_ A
   obtain⟨k,rfl,_⟩:=G 0 vs[0] s_
   have o : ∀ j x,vs[j]? = some x->w.cell? (k.add j)=some x:=fun j x L=>by
    grind
   obtain⟨v', w', p,y,B,C⟩:=run_append_own (P:=P) w 0 t ty e i z i.size i.bytes ht l s rfl rfl I A v m xs d k cnt c vs h o h1 r hb (ko _)
   refine⟨v', w', p,y,gE.acS B,fun b n => ⟨?_,Lx y n⟩,by simpa[h0]using C⟩
   rcases d.2 with ⟨rfl,rfl⟩|⟨g,q,cur,rfl,J,F,M,K,D,O⟩
   . have Q:xs=[]:=wo (by simpa using d.1)
     have f := run_append_nil (P:=P) w t ty e i z ht l s k cnt c vs h o o_ (by simp only[maxLen]at r;omega) (by simp only[uA]at hb;omega)
     rw[p]at f
     cases f
     right
     simp only[Value.ownBlock,Option.some.injEq]at n
     omega
   . by_cases hroom:m+cnt<=q
     . have E:m*i.size+vs.length<=cur.size:=by rw[h,D,<-tE];exact AS _ hroom
       have f := run_append_room (P:=P) w t ty e i ht l g m q cur F k cnt c vs h o h1 hroom E
       rw[p]at f
       cases f
       left
       simpa[Value.ownBlock]using n
     . have holds:∀ j u,xs[j]? = some u->w.cell? ((⟨g,0,none⟩:Addr).add j)=some u:=d.cells (g:=g) rfl
       have f := run_append_grow (P:=P) w t ty e i z ht l s ⟨g,0,none⟩ m q xs d.1 holds k cnt c vs h o o_ (by simp only[maxLen]at r;omega) (growslice_fits o_ hb)
       rw[p]at f
       cases f
       right
       simp only[Value.ownBlock,Option.some.injEq]at n
       omega
section
variable{r:Option Nat}{ops:Array Oper}{rest:List Oper}{n:Nat}{ds:List Deferred}
variable{d:Nat}{ty:TypeId}{pos:String}{af:Array Edge}{g:Option (Nat×Bool)}{u:Value}{L':List fJ}{t e:TypeId}{by_ cnt:Nat}{z:Value}{xs news:List Value}
theorem O1(i:Nat)(l:gA ops n s g=true)(A:ev n s x=v)(B:ev n s y=u)(ht:P.underlying t=some (.slice e))(hi:TI P e sz by_ z)(C:z.cells.size=sz)(q:0<sz)(f:St bs L w)(c:L[i]? = some (row v e sz m xs))(hs:Src w u sz cnt news)(h1:∀ x∈news,x.oneCell' = true)(hb:(m+cnt)*by_<=140737488355328)(j:m+cnt<=maxLen)(K:∀ v' w', St bs (L.set i (row v' e sz (m+cnt) (xs++news))) w' -> gE v.ownBlock.toList w w' -> WL r P ops Q rest (Fr n ((d,v') :: s) ds) w') :
 WL r P ops Q (⟨some d,.call ⟨.builtin .append,#[x,y],#[t,t]⟩,ty,pos,af,g⟩ :: rest) (Fr n s ds) w:=by
 have o:w.ownsRow 0 e sz v m xs:=f.own _ (zg c)
 obtain⟨v', w', p,h,a,D,_⟩:=aeP (ty:=ty) ht hi C q o hs h1 hb j
 refine pv l rfl (v:=v') (w' := w') (by simp only[execOp,resolve,invoke,builtin,zt,kn,zn,Im,mh,CS,A,B,p]) (K v' w' ?_ a)
 refine f.iV c a (fun b k => ?_) ?_ (fun b k => ?_) h
 . grind [row]
 . show v'.ownBlock.toList.Nodup
   cases v'.ownBlock<;>simp
 . grind [row]
theorem iA(i:Nat)(a:gA ops n s g=true)(b:ev n s x=v)(ht:P.underlying t=some (.slice e))(h:St bs L w)(c:L[i]? = some (row v e sz m xs))(K:WL r P ops Q rest (Fr n ((d,.int .i64 m) :: s) ds) w):WL r P ops Q (⟨some d,.call ⟨.builtin .len,#[x],#[t]⟩,ty,pos,af,g⟩ :: rest) (Fr n s ds) w:=by
 have f:w.ownsRow 0 e sz v m xs:=h.own _ (zg c)
 rcases f.2 with ⟨rfl,rfl⟩|⟨k, j,cur,rfl,_⟩
 . exact Gx a b ht K
 . exact Gx a b ht K
theorem jO{α:Type}{enc:World->α->List Value->Prop}{ys:List α}(f:gA ops n s g=true)(h:ev n s x=v)(ht:P.underlying t=some (.slice e))(b:Sl sz enc ok w0 v ys)(K:WL r P ops Q rest (Fr n ((d,.int .i64 ys.length) :: s) ds) w):WL r P ops Q (⟨some d,.call ⟨.builtin .len,#[x],#[t]⟩,ty,pos,af,g⟩ :: rest) (Fr n s ds) w:=by
 obtain⟨a,c,rfl,_⟩:=b
 exact Gx f h ht K
theorem DG{ys:List Int}{i:Int}(p:gA ops n s g=true)(A:ev n s x=v)(B:ev n s y = .int k' i)(ht:P.underlying t=some (.slice e))(hi:TI P e 1 by_ z)(l:Ints k ok w v ys)(h:0<=i)(f:ys[i.toNat]? = some el)(K:∀ b o,w.cell? ⟨b,o,none⟩=some (.int k el)->ij k el->ok b->WL r P ops Q rest (Fr n ((d,.pointer (some ⟨b,o,none⟩)) :: s) ds) w) :
 WL r P ops Q (⟨some d,.indexAddr t x y,ty,pos,af,g⟩ :: rest) (Fr n s ds) w:=by
 have D:=(zp.1 f).1
 obtain⟨a,c,rfl,_,_,j⟩:=l
 obtain⟨b,o,vs,rfl,u,C,⟨rfl,q⟩,m⟩:=j i.toNat el f
 refine jC p A B ht hi ⟨h,o_⟩ rfl (K b _ ?_ q u)
 have:=m 0 (.int k el) s_
 simpa using this
end
def S6(l:List Oper)(pre:List (List Nat)):Bool :=
 (List.range l.length).all fun j=>(pre.getD j []).all fun i=>(l[j]?).any fun o=>o.after.toList.any fun e=>Region.binds .any e&&decide (e.on<j)&&(e.on==i||(pre.getD e.on []).contains i)
section
variable{Γ:Type}{r:Option Nat}{n:Nat}{ds:List Deferred}{s0:List (Nat×Value)}{l:List Oper}{pre:List (List Nat)}{mem:List Nat}{V:List (Γ->Value)}{M:Nat->Γ->World->Prop}
structure Down (l:List Oper) (S:Nat->Bool):Prop where
 closed:∀ j o,l[j]? = some o->S j=true->∀ e∈o.after,Region.binds .any e=true->S e.on=true
theorem adM{S:Nat->Bool}(hp:S6 l pre=true)(hd:Down l S):∀ j,S j=true->j<l.length->∀ i,(pre.getD j []).contains i=true->S i=true:=by
 intro j
 induction j using Nat.strongRecOn with
 | _ j m =>
  intro g c i hi
  have f:=zr.1 hp j (lV.2 c)
  have a:=zr.1 f i (by simpa using hi)
  rw[zy c]at a
  simp only[Option.any_some,List.any_eq_true,nZ,decide_eq_true_eq,Bool.or_eq_true,beq_iff_eq]at a
  obtain⟨e,h,⟨hb,k⟩,b⟩:=a
  have d:=hd.closed j _ (zy c) g e (by simpa using h) hb
  rcases b with rfl|b
  . exact d
  . exact m e.on k d o_ i (by simpa using b)
theorem ZF(a:Array Bool)(i j:Nat)(hi:i<a.size):(a.setIfInBounds i true).getD j false=(a.getD j false||j==i):=by
 by_cases h:i=j
 . subst h;simp[hi]
 . have b : (j==i)=false:=by simpa using Ne.symm h
   simp[b, Array.getElem?_setIfInBounds_ne h]
theorem Kb(m j:Nat):(Array.replicate m false).getD j false=false:=by
 rcases CT j m with h|h
 . simp[h]
 . simp[h]
end
section
variable{r:Option Nat}{ops:Array Oper}{rest:List Oper}{n:Nat}{ds:List Deferred}
variable{d:Nat}{ty:TypeId}{pos:String}{af:Array Edge}{g:Option (Nat×Bool)}{u:Value}{L':List fJ}{t e:TypeId}{by_ cnt:Nat}{z:Value}{xs news:List Value}
theorem TX{T:TypeId}{cs':List Value}(i:Nat)(m:ev n s x = .pointer (some ⟨b,o,none⟩))(p:ev n s y=v)(hvs:v.cells.toList=vs)(ht:TI P t sz by_ z)(l:vs.length=sz)(h1:vs.all (·.oneCell')=true)(f:St bs L w)(hi:L[i]? = some (blk b T cs))(j:o+vs.length<=cs.length)(hcs:setAt cs o vs=cs')(h:L.set i (blk b T cs')=L') :
 ∃ w', (execOp (ev n s) ⟨dd,.store t x y,ty,pos,af,g⟩).run P w = .ok .skip w' /\ St bs L' w' /\ gE [b] w w' := by
 have d:=f.FL hi
 have e:=run_storeCells_at P b o T vs 0 cs.toArray w d (by simpa using j) (by simpa using h1)
 have k:v.cells.size=sz:=by rw[<-l,<-hvs];simp
 refine⟨w.setRow b (cs'.toArray),?_,?_,gE.setRow w b _⟩
 . simp only[execOp,m,p,Instr.storeAt,Instr.sureAddr,storeVar,zt,kn,zn,ht.size,k,ne_eq,not_true,if_false,hvs]
   subst hcs
   simp only[sD]at e
   simp[e,setAt]
 . subst h
   refine f.iV hi (gE.setRow w b _) (fun c a=>.inl a) (by simp[blk]) (fun c a=>?_) (setRow_heap w b cs.toArray cs'.toArray T (0,0) d)
   simp only[blk,z8]at a
   subst a
   simpa using(su.1 d).1
theorem Hr{T:TypeId}{cs':List Value}(i:Nat)(h:gA ops n s g=true)(l:ev n s x = .pointer (some ⟨b,o,none⟩))(m:ev n s y=v)(hvs:v.cells.toList=vs)(ht:TI P t sz by_ z)(k:vs.length=sz)(h1:vs.all (·.oneCell')=true)(j:St bs L w)(hi:L[i]? = some (blk b T cs))(f:o+vs.length<=cs.length)(hcs:setAt cs o vs=cs')(e:L.set i (blk b T cs')=L')(K:∀ w', St bs L' w' -> gE [b] w w' -> WL r P ops Q rest (Fr n s ds) w'):WL r P ops Q (⟨none,.store t x y,ty,pos,af,g⟩ :: rest) (Fr n s ds) w:=by
 obtain⟨w', a,c,d⟩:=TX (dd:=none) (ty:=ty) (pos:=pos) (af:=af) (g:=g) i l m hvs ht k h1 j hi f hcs e
 exact Ek h rfl a (K w' c d)
theorem Q2{T e:TypeId}{m:Nat}{i:Int}(f:ev n s x = .pointer (some ⟨b,o,none⟩))(h:ev n s y = .int k i)(c:P.underlying T=some (.array m e))(ht:TI P e sz by_ z)(a:0<=i/\i<m)(d:o+i.toNat*sz=o') :
 (execOp (ev n s) ⟨dd,.indexAddr T x y,ty,pos,af,g⟩).run P w = .ok (.value (.pointer (some ⟨b,o', none⟩))) w:=by
 subst d
 simp only[execOp,f,h,Instr.indexAt,run_underlying c,asIntOf,zt,kn,zn,Instr.sureAddr]
 simp[a,ht.size,Addr.add_lit]
theorem ia{T e:TypeId}{m:Nat}{i:Int}(f:gA ops n s g=true)(j:ev n s x = .pointer (some ⟨b,o,none⟩))(l:ev n s y = .int k i)(c:P.underlying T=some (.array m e))(ht:TI P e sz by_ z)(a:0<=i/\i<m)(h:o+i.toNat*sz=o')(K:WL r P ops Q rest (Fr n ((d,.pointer (some ⟨b,o', none⟩)) :: s) ds) w) :
 WL r P ops Q (⟨some d,.indexAddr T x y,ty,pos,af,g⟩ :: rest) (Fr n s ds) w:=pw f (fun _=>Q2 j l c ht a h) K
theorem WB{pvs:List (Nat×Value)}(hp:ps.map (fun q=>(q.1,ev n s q.2))=pvs)(hb:∀ w,(Instr.build t pvs.toArray).run P w = .ok v w) :
 (execOp (ev n s) ⟨dd,.build t ps.toArray,ty,pos,af,g⟩).run P w = .ok (.value v) w:=by
 have:(ps.toArray.map fun(i,x)=>(i,ev n s x))=pvs.toArray:=by rw[<-hp];simp
 simp only[execOp,this,zt,hb,zn,kn]
theorem iL{pvs:List (Nat×Value)}(a:gA ops n s g=true)(hp:ps.map (fun q=>(q.1,ev n s q.2))=pvs)(hb:∀ w,(Instr.build t pvs.toArray).run P w = .ok v w)(K:WL r P ops Q rest (Fr n ((d,v) :: s) ds) w):WL r P ops Q (⟨some d,.build t ps.toArray,ty,pos,af,g⟩ :: rest) (Fr n s ds) w:=pw a (fun _=>WB hp hb) K
theorem acd{T:Array TypeId}{b c:Int}(d:ev n s x = .int k a)(e:ev n s y = .int k b)(hc:(if b<a then b else a)=c) :
 (execOp (ev n s) ⟨dd,.call ⟨.builtin .min,#[x,y],T⟩,ty,pos,af,g⟩).run P w = .ok (.value (.int k c)) w:=by
 subst hc;simp[execOp,resolve,invoke,builtin,d,e,Builtin.min_,Builtin.min2]
theorem min2{T:Array TypeId}{b c:Int}(e:gA ops n s g=true)(f:ev n s x = .int k a)(h:ev n s y = .int k b)(hc:(if b<a then b else a)=c)(K:WL r P ops Q rest (Fr n ((d,.int k c) :: s) ds) w):WL r P ops Q (⟨some d,.call ⟨.builtin .min,#[x,y],T⟩,ty,pos,af,g⟩ :: rest) (Fr n s ds) w:=pw e (fun _=>acd f h hc) K
theorem abX{T:Array TypeId}{b c:Int}(d:ev n s x = .int k a)(e:ev n s y = .int k b)(hc:(if a<b then b else a)=c) :
 (execOp (ev n s) ⟨dd,.call ⟨.builtin .max,#[x,y],T⟩,ty,pos,af,g⟩).run P w = .ok (.value (.int k c)) w:=by
 subst hc;simp[execOp,resolve,invoke,builtin,d,e,Builtin.max_,Builtin.max2]
theorem max2{T:Array TypeId}{b c:Int}(e:gA ops n s g=true)(f:ev n s x = .int k a)(h:ev n s y = .int k b)(hc:(if a<b then b else a)=c)(K:WL r P ops Q rest (Fr n ((d,.int k c) :: s) ds) w):WL r P ops Q (⟨some d,.call ⟨.builtin .max,#[x,y],T⟩,ty,pos,af,g⟩ :: rest) (Fr n s ds) w:=pw e (fun _=>abX f h hc) K
theorem YA{a:Option Addr}{m c:Nat}{t':TypeId}(b:ev n s x = .slice a m c)(d:ev n s y = .slice none 0 0)(ht:P.underlying t=some (.slice e)) :
 (execOp (ev n s) ⟨dd,.binOp .eql t x y t', ty,pos,af,g⟩).run P w = .ok (.value (.bool a.isNone)) w:=by
 have h:=Lib.run_eql_slice_nil (P:=P) w t e a m c 0 0 ht
 simp[execOp,b,d,eqGuard,h]
theorem Yz{a:Option Addr}{m c:Nat}{t':TypeId}(b:gA ops n s g=true)(f:ev n s x = .slice a m c)(h:ev n s y = .slice none 0 0)(ht:P.underlying t=some (.slice e))(K:WL r P ops Q rest (Fr n ((d,.bool a.isNone) :: s) ds) w):WL r P ops Q (⟨some d,.binOp .eql t x y t', ty,pos,af,g⟩ :: rest) (Fr n s ds) w:=pw b (fun _=>YA f h ht) K
theorem Sj(d:St bs L w)(e:TypeId)(sz len:Nat)(cs:List Value)(a:cs.length=len*sz)(c:len<=maxLen) :
 St bs (row (.slice (some ⟨w.heap.size,0,none⟩) len len) e sz len cs :: L) (w.alloc (.cells cs.toArray e)) :=
 d.tS (gE.alloc [] w _) (fun b hb=>by simp[row,Value.ownBlock]at hb;omega) (by simp[row,Value.ownBlock]) (fun b hb=>by simp[row,Value.ownBlock]at hb;simp;omega)
  ⟨a,.inr ⟨w.heap.size,len,cs.toArray,rfl,ko _,heap_alloc_new w _,zh _,c,by simp[a],by simp[<-a]⟩⟩
theorem Ph{len:Nat}{pvs:List (Nat×Value)}(hp:ps.map (fun q=>(q.1,ev n s q.2))=pvs)(ht:P.underlying t=some (.slice e))(hi:TI P e sz by_ z)(hc:Instr.fill (fun i=>some (i*sz,sz)) ((Array.range (len*sz)).map (z.cells[· % z.cells.size]!)) pvs=some cs.toArray)(d:len*sz<=16777216) :
 (execOp (ev n s) ⟨dd,.buildSlice t len ps.toArray,ty,pos,af,g⟩).run P w = .ok (.value (.slice (some ⟨w.heap.size,0,none⟩) len len)) (w.alloc (.cells cs.toArray e)):=by
 have a:(ps.toArray.map fun(i,x)=>(i,ev n s x))=pvs.toArray:=by rw[<-hp];simp
 have b:¬ len*sz>2 ^ 24:=by simp;omega
 simp only[execOp,a,Instr.buildSlice,zt,run_underlying ht,zn,hi.size,kn]
 rw[if_neg b]
 by_cases h0:len*sz=0
 . simp only[h0,if_true,zt,kn,zn]
   rw[h0]at hc
   have c : Instr.fill (fun i=>some (i*sz,sz)) ((Array.range 0).map ((#[]:Array Value)[· % (#[]:Array Value).size]!)) pvs=some cs.toArray:=by
    rw[<-hc];simp[Array.range_zero']
   simp only[c, zt,kn,zn]
   rfl
 . simp only[h0,if_false,zt,hi.CU,kn,zn,hc]
   rfl
theorem WK{len:Nat}{pvs:List (Nat×Value)}(c:gA ops n s g=true)(hp:ps.map (fun q=>(q.1,ev n s q.2))=pvs)(ht:P.underlying t=some (.slice e))(hi:TI P e sz by_ z)(hc:Instr.fill (fun i=>some (i*sz,sz)) ((Array.range (len*sz)).map (z.cells[· % z.cells.size]!)) pvs=some cs.toArray)(f:cs.length=len*sz)(h:Nat.ble (len*sz) 16777216=true)(a:Nat.ble len 16777216=true)(j:St bs L w)(K:∀ b w', w.heap.size<=b->gE [] w w' -> St bs (row (.slice (some ⟨b,0,none⟩) len len) e sz len cs :: L) w' -> WL r P ops Q rest (Fr n ((d,.slice (some ⟨b,0,none⟩) len len) :: s) ds) w') :
 WL r P ops Q (⟨some d,.buildSlice t len ps.toArray,ty,pos,af,g⟩ :: rest) (Fr n s ds) w :=
 pv c rfl (Ph hp ht hi hc (qV h)) (K _ _ (zh _) (gE.alloc [] w _) (Sj j e sz len cs f (by have:=qV a;simp only[maxLen];omega)))
def idx:Nat->List Value->List (Nat×Value)
 | _,[]=>[]
 | i,v :: vs=>(i,v) :: idx (i+1) vs
theorem QE(off:Nat):∀ (l:List Value) (a:Nat) (b:Array Value),off+a+l.length<=b.size ->
 (l.zipIdx a).foldl (fun cs (q:Value×Nat)=>cs.setIfInBounds (off+q.2) q.1) b=(b.toList.take (off+a)++l++b.toList.drop (off+a+l.length)).toArray:=by
 intro l
 induction l with
 | nil=>intro a b _;simp
 | cons c l f =>
  intro a b h
  simp only[List.zipIdx_cons,List.foldl_cons]
  rw[f (a+1) _ (by simp at h ⊢;omega)]
  simp only[zb]at h
  have e:off+a<b.toList.length:=by simp;omega
  congr 1
  rw[Array.toList_setIfInBounds,List.set_eq_take_append_cons_drop,if_pos e]
  have e1:(b.toList.take (off+a)++c :: b.toList.drop (off+a+1)).take (off+(a+1))=b.toList.take (off+a)++[c]:=by
   grind
  have d:(b.toList.take (off+a)++c :: b.toList.drop (off+a+1)).drop (off+(a+1)+l.length)=b.toList.drop (off+a+(l.length+1)):=by
   rw[List.drop_append,zw,uz o_,Ib (by simp;omega),show off+(a+1)+l.length-(off+a)=l.length+1 by omega]
   simp only[pX,List.drop_succ_cons,Iq]
   congr 1;omega
  rw[e1,d]
  simp
theorem Qy(sz:Nat):∀ (vs:List Value) (k:Nat) (a:Array Value),(∀ v∈vs,v.cells.size=sz)->k*sz+vs.length*sz<=a.size ->
 Instr.fill (fun i=>some (i*sz,sz)) a (idx k vs)=some (a.toList.take (k*sz)++vs.flatMap (·.cells.toList)++a.toList.drop (k*sz+vs.length*sz)).toArray:=by
 intro vs
 induction vs with
 | nil=>intro k a _ _;simp[idx,Instr.fill]
 | cons v vs h =>
  intro k a hs e
  have hv:=hs v s_
  simp only[zb,tE,Nat.one_mul]at e
  simp only[idx,Instr.fill,hv]
  rw[if_neg (by simp;omega)]
  have l:=QE (k*sz) v.cells.toList 0 a (by simp[hv];omega)
  have g:Array.foldl (fun cs (q:Value×Nat)=>cs.setIfInBounds (k*sz+q.2) q.1) a v.cells.zipIdx=(a.toList.take (k*sz)++v.cells.toList++a.toList.drop (k*sz+sz)).toArray:=by
   rw[<-Array.foldl_toList,Array.toList_zipIdx]
   grind
  rw[show (Array.foldl (fun cs (x:Value×Nat)=>match x with|(c,j)=>cs.setIfInBounds (k*sz+j) c) a v.cells.zipIdx)=_ from g]
  have b:v.cells.toList.length=sz:=by simp[hv]
  rw[h (k+1) _ (fun u f=>hs u (by simp[f])) (by simp[b,tE];omega)]
  congr 2
  simp only[List.toList_toArray,tE,Nat.one_mul,zz,zb]
  have e1:(a.toList.take (k*sz)++v.cells.toList++a.toList.drop (k*sz+sz)).take (k*sz+sz)=a.toList.take (k*sz)++v.cells.toList:=by
   grind
  have d:(a.toList.take (k*sz)++v.cells.toList++a.toList.drop (k*sz+sz)).drop (k*sz+sz+vs.length*sz)=a.toList.drop (k*sz+(vs.length*sz+sz)):=by
   rw[List.drop_append,Ib (by simp[b];omega)]
   simp only[zk,zw,ux,b,pX,Iq]
   congr 1;omega
  rw[e1,d]
  simp
theorem jB{len:Nat}(h:gA ops n s g=true)(hp:ps.map (fun q=>(q.1,ev n s q.2))=idx 0 vs)(ht:P.underlying t=some (.slice e))(hi:TI P e sz by_ z)(i:vs.length=len)(hv:∀ v∈vs,v.cells.size=sz)(hcs:vs.flatMap (·.cells.toList)=cs)(c:Nat.ble (len*sz) 16777216=true)(a:Nat.ble len 16777216=true)(j:St bs L w)(K:∀ b w', w.heap.size<=b->gE [] w w' -> St bs (row (.slice (some ⟨b,0,none⟩) len len) e sz len cs :: L) w' -> WL r P ops Q rest (Fr n ((d,.slice (some ⟨b,0,none⟩) len len) :: s) ds) w') :
 WL r P ops Q (⟨some d,.buildSlice t len ps.toArray,ty,pos,af,g⟩ :: rest) (Fr n s ds) w:=by
 subst i hcs
 have f:(vs.flatMap (·.cells.toList)).length=vs.length*sz:=by
  clear hp c a K
  induction vs with
  | nil=>simp
  | cons v vs l=>simp only[zz,zk,zb,ux,hv v s_,l (fun u k=>hv u (by simp[k])),tE];omega
 refine WK h hp ht hi ?_ f c a j K
 rw[Qy sz vs 0 _ hv s_]
 simp
theorem abV(k:Nat):madeCells #[z0] k=(List.replicate k z0).toArray:=by
 unfold madeCells
 grind
theorem acg{c m:Nat}(j:ev n s x = .int k (m:Int))(l:ev n s y = .int k' (c:Int))(ht:P.underlying t=some (.slice e))(hi:TI P e 1 by_ z)(o:z.cells = #[z])(hm:m<=c)(hb:by_*c<=281474976710656)(p:c<=9223372036854775807) :
 (execOp (ev n s) ⟨dd,.makeSlice t x y,ty,pos,af,g⟩).run P w = .ok (.value (.slice (some ⟨w.heap.size,0,none⟩) m c)) (w.alloc (.cells (List.replicate c z).toArray e)):=by
 obtain⟨i,h,b,d,f⟩:=hi.get
 subst d
 have a:=run_make (P:=P) w t e i z ht h f k k' m c o_ o_ (by rw[<-Int.natCast_mul];omega) o_
 rw[o,b,tF]at a
 simp only[nX]at a
 rw[abV]at a
 simp only[execOp,j,l,zt,a,zn,kn]
theorem kz{c m:Nat}(f:gA ops n s g=true)(i:ev n s x = .int k (m:Int))(j:ev n s y = .int k' (c:Int))(ht:P.underlying t=some (.slice e))(hi:TI P e 1 by_ z)(l:z.cells = #[z])(hm:m<=c)(hb:by_*c<=281474976710656)(a:c<=9223372036854775807)(h:St bs L w)(K:∀ b w', w.heap.size<=b->gE [] w w' -> St bs (blk b e (List.replicate c z) :: L) w' -> WL r P ops Q rest (Fr n ((d,.slice (some ⟨b,0,none⟩) m c) :: s) ds) w') :
 WL r P ops Q (⟨some d,.makeSlice t x y,ty,pos,af,g⟩ :: rest) (Fr n s ds) w :=
 pv f rfl (acg i j ht hi l hm hb a) (K _ _ (zh _) (gE.alloc [] w _) (GR h e _))
theorem St.UO{m c sz:Nat}(h:St bs L w)(hi:L[i]? = some (blk b e cs))(d:cs.length=c*sz)(hm:m<=c)(hc:c<=maxLen) :
 St bs (L.set i (row (.slice (some ⟨b,0,none⟩) m c) e sz m (cs.take (m*sz)))) w:=by
 have f:=h.FL hi
 refine h.iV hi (gE.refl _ _) (fun x a=>.inl (by simpa[row,Value.ownBlock,blk]using a)) (by simp[row,Value.ownBlock]) (fun x a=>?_) ?_
 . simp[row,Value.ownBlock]at a
   grind
 . refine⟨by simp[d];rw[<-Nat.mul_min_mul_right,uz (AS _ hm)],.inr ⟨b,c,cs.toArray,rfl,ko _,f,hm,hc,by simp[d],s_⟩⟩
theorem St.aeL(h:St bs L w)(hi:L[i]? = some (row v e sz m xs)):Src w v sz m xs:=by
 have a:w.ownsRow 0 e sz v m xs:=h.own _ (zg hi)
 rcases a.2 with ⟨rfl,rfl⟩|⟨d, c,cur,rfl,_⟩
 . exact⟨none,0,rfl,a.1,fun j x b=>by have:=a.1;simp at this;subst this;simp at b⟩
 . exact⟨some ⟨d, 0,none⟩,c,rfl,a.1,fun j x b=>⟨_,rfl,a.cells rfl j x b⟩⟩
theorem St.aeF{ys:List Int}(h:St bs L w)(hi:L[i]? = some (row v e 1 ys.length (ys.map (.int k))))(hk:∀ y∈ys,ij k y):Ints k (fun b=>b∈jb L) w v ys:=by
 have f:w.ownsRow 0 e 1 v ys.length (ys.map (.int k)):=h.own _ (zg hi)
 rcases f.2 with ⟨rfl,o⟩|⟨c, l,cur,rfl,_,p,m,n,_⟩
 . grind [Sl.nil]
 . refine⟨_,l,rfl,m,n,fun j y d=>⟨c, 0,[.int k y],rfl,tc hi (by simp[row,Value.ownBlock]),rfl,⟨rfl,hk y (zg d)⟩,fun q u a=>?_⟩⟩
   cases q with
   | zero =>
    simp at a
    subst a
    have:=f.cells (g:=c) rfl j (.int k y) (by simp[d])
    rw[Addr.add_lit]at this
    simpa using this
   | succ q=>simp at a
end
abbrev iD(k:IntKind)(v:Value)(e:TypeId)(ys:List Int):fJ:=row v e 1 ys.length (ys.map (.int k))
section
variable{r:Option Nat}{ops:Array Oper}{rest:List Oper}{n:Nat}{ds:List Deferred}
variable{d:Nat}{ty:TypeId}{pos:String}{af:Array Edge}{g:Option (Nat×Bool)}{u:Value}{L':List fJ}{t e:TypeId}{by_ cnt:Nat}{z:Value}{ys zs:List Int}
theorem aat(k:IntKind)(zs:List Int):∀ x∈zs.map (Value.int k),x.oneCell' = true:=by
 intro x a
 obtain⟨y,_,rfl⟩:=zq.1 a
 rfl
theorem wX{LL:Value->List fJ}(i:Nat)(h:gA ops n s g=true)(l:ev n s x=v)(m:ev n s y=u)(ht:P.underlying t=some (.slice e))(hi:TI P e 1 by_ z)(o:z.cells.size=1)(j:St bs L w)(c:L[i]? = some (iD k v e ys))(hs:Src w u 1 zs.length (zs.map (.int k)))(hb:(ys.length+zs.length)*by_<=140737488355328)(p:ys.length+zs.length<=9223372036854775807)(f:∀ v', L.set i (iD k v' e (ys++zs))=LL v')(K:∀ v' w', St bs (LL v') w' -> gE v.ownBlock.toList w w' -> WL r P ops Q rest (Fr n ((d,v') :: s) ds) w') :
 WL r P ops Q (⟨some d,.call ⟨.builtin .append,#[x,y],#[t,t]⟩,ty,pos,af,g⟩ :: rest) (Fr n s ds) w:=by
 refine O1 i h l m ht hi o d_ j c hs (aat k zs) hb (by simp only[maxLen];omega) fun v' w' a b=>K v' w' ?_ b
 rw[<-f]
 simpa[iD]using a
theorem St.FC(h:St bs L w)(e:TypeId)(sz:Nat):St bs (row (.slice none 0 0) e sz 0 [] :: L) w :=
 h.add (lo:=w.heap.size) (fun p hp=>(h.base p hp).gf.size) h.lt (fun b hb=>by simp[row,Value.ownBlock]at hb) (by simp[row,Value.ownBlock]) (fun b hb=>by simp[row,Value.ownBlock]at hb) (World.ownsRow_nil w 0 e sz)
end
def OV(sz:Nat)(v:Value)(i:Nat):Value:=match v with
 | .slice (some ⟨b,o,_⟩) _ _=>.pointer (some ⟨b,o+i*sz,none⟩)
 | _=>.pointer none
def jL(sz:Nat)(v:Value)(l h:Nat):Value:=match v with
 | .slice a _ c=>.slice (if c=l then a else a.map (·.add (l*sz))) (h-l) (c-l)
 | _=>v
section
variable{n:Nat}{ty:TypeId}{pos:String}{af:Array Edge}{g:Option (Nat×Bool)}{t e:TypeId}{by_:Nat}{z:Value}{u:TypeDesc}
theorem Sl.jL{α:Type}{sz:Nat}{enc:World->α->List Value->Prop}{w:World}{v:Value}{xs:List α}{l h:Nat}(hs:Sl sz enc ok w v xs)(i:l<=h)(g:h<=xs.length):Sl sz enc ok w (Go.Sx.jL sz v l h) ((xs.take h).drop l):=by
 obtain⟨a,c,rfl,b,d,e⟩:=hs
 have f:Sl sz enc ok w (.slice a xs.length c) xs:=⟨a,c,rfl,b,d,e⟩
 exact f.cut i g
theorem Rz{α:Type}{enc:World->α->List Value->Prop}{ys:List α}(d:ev n s x=v)(ht:P.underlying t=some (.slice e))(b:Sl sz enc ok w0 v ys) :
 (execOp (ev n s) ⟨dd,.call ⟨.builtin .len,#[x],#[t]⟩,ty,pos,af,g⟩).run P w = .ok (.value (.int .i64 ys.length)) w:=by
 obtain⟨a,c,rfl,_⟩:=b
 exact Gy d ht
theorem aaA{α:Type}{enc:World->α->List Value->Prop}{ys:List α}{i:Int}{el:α}(k:ev n s x=v)(l:ev n s y = .int k' i)(ht:P.underlying t=some (.slice e))(hi:TI P e sz by_ z)(j:Sl sz enc ok w0 v ys)(f:0<=i)(d:ys[i.toNat]? = some el) :
 (execOp (ev n s) ⟨dd,.indexAddr t x y,ty,pos,af,g⟩).run P w = .ok (.value (OV sz v i.toNat)) w:=by
 have q:=(zp.1 d).1
 obtain⟨a,c,rfl,_,_,h⟩:=j
 obtain⟨b,o,vs,rfl,_,p,_,m⟩:=h i.toNat el d
 exact KB k l ht hi ⟨f,o_⟩ rfl
theorem afo{α:Type}{enc:World->α->List Value->Prop}{ys:List α}{low high:Option Operand}{l h:Nat}(d:ev n s x=v)(ht:P.underlying t=some (.slice e))(hi:TI P e sz by_ z)(r:Sl sz enc ok w0 v ys)(f:match low with|none=>l=0|some p=>∃ k,ev n s p = .int k (l:Int))(b:match high with|none=>h=ys.length|some p=>∃ k,ev n s p = .int k (h:Int))(y:l<=h)(D:h<=ys.length) :
 (execOp (ev n s) ⟨dd,.slice t x low high none,ty,pos,af,g⟩).run P w = .ok (.value (Go.Sx.jL sz v l h)) w:=by
 obtain⟨a,c,rfl,A,B,C⟩:=r
 have b1:∀ (m:Nat) (j:BoundsCode) (k:IntKind) (q:Nat),q<=m->(Instr.sliceBound (.int k (q:Int)) m j).run P w = .ok q w:=by
  intro m j k q i
  have:(0:Int)<=(q:Int)/\(q:Int)<=(m:Int):=by omega
  simp[Instr.sliceBound,asIntOf,this]
 have o:h<=c:=by omega
 have u:l<=ys.length:=by omega
 cases low with
 | none =>
  simp only at f
  subst f
  cases high with
  | none =>
   simp only at b
   subst b
   simp[execOp,d,Instr.sliceAt,Instr.slice,run_underlying ht,Instr.sliceBounds,hi.size,Go.Sx.jL]
  | some p =>
   obtain⟨k,hp⟩:=b
   simp[execOp,d,hp,Instr.sliceAt,Instr.slice,run_underlying ht,Instr.sliceBounds,hi.size,b1 _ _ _ _ o,Go.Sx.jL]
 | some q =>
  obtain⟨k,i⟩:=f
  cases high with
  | none =>
   simp only at b
   subst b
   simp[execOp,d,i,Instr.sliceAt,Instr.slice,run_underlying ht,Instr.sliceBounds,hi.size,b1 _ _ _ _ u,Go.Sx.jL]
  | some p =>
   obtain⟨k', hp⟩:=b
   simp[execOp,d,i,hp,Instr.sliceAt,Instr.slice,run_underlying ht,Instr.sliceBounds,hi.size,b1 _ _ _ _ o,b1 _ _ _ _ y,Go.Sx.jL]
end
variable{T:TypeId}{cs':List Value}
theorem St.aap(w:World)(h:(blk b T cs).holds w):St [(w,[b])] [blk b T cs] w:=by
 have:=St.QY w [blk b T cs] (fun R a=>by simp only[z8]at a;subst a;exact h) (by simp[jb,blk])
  (fun c d=>by
   simp only[jb,zz,List.flatMap_nil,sC,blk,z8]at d
   subst d
   exact(su.1 (show w.heap[c]? = _ from h)).1)
 simpa[jb,blk]using this
theorem Sl.old{α:Type}{sz:Nat}{enc:World->α->List Value->Prop}{xs:List α}(h:Sl sz enc ok w v xs)(hp:0<sz):Sl sz enc (fun b=>ok b/\b<w.heap.size) w v xs:=by
 obtain⟨a,c,e,g,j,k⟩:=h
 refine⟨a,c,e,g,j,fun i x hi=>?_⟩
 obtain⟨b,o,vs,l,hb,f,m,d⟩:=k i x hi
 refine⟨b,o,vs,l,⟨hb,?_⟩,f,m,d⟩
 cases vs with
 | nil=>simp at f;omega
 | cons u vs=>exact World.block_lt_of_cell? w _ (d 0 u rfl)
theorem St.size(h:St bs L w)(hb:(w0,X)∈bs):w0.heap.size<=w.heap.size:=(h.gf hb).size
section
variable{n:Nat}{x y z:ResultVar}{v' v'':Value}{t:TypeId}{u:TypeDesc}
def RV(P:Program)(n:Nat)(s:List (Nat×Value))(w:World)(v:Value):ResultVar->Prop
 | .tmp t=>ev n s (.tmp t)=v
 | .cell a T=>∃ b,ev n s (.tmp a) = .pointer (some b)/\(loadVar T b).run P w = .ok v w
def Hf(tmps:Array Value):ResultVar->Sem Value
 | .tmp t=>pure (tmps.getD t undef)
 | .cell a t=>do loadVar t (<- asAddr (tmps.getD a undef))
theorem L5(h:RV P n s w v x):(Hf (Fr n s []).tmps x).run P w = .ok v w:=by
 cases x with
 | tmp t=>simp only[Hf,kn];rw[ox];rw[show ev n s (.tmp t)=v from h]
 | cell a T =>
  obtain⟨d,b,c⟩:=h
  simp only[Hf,zt]
  rw[ox,b]
  simp[asAddr,c]
theorem Tp(tmps:Array Value):results fn tmps=(do let vs <- fn.results.mapM (Hf tmps);pure (if h:vs.size=1 then vs[0]else .tuple vs)):=by
 unfold results
 congr 2
theorem LN(b:fn.results = #[x,y])(h1:RV P n s w v x)(a:RV P n s w v' y):(results fn (Fr n s []).tmps).run P w = .ok (.tuple #[v,v']) w:=by
 rw[Tp,b]
 simp[zt,Result.andThen,L5 h1,L5 a]
theorem o5(b:fn.results = #[x,y])(h1:RV P n s w v x)(a:RV P n s w v' y)(h:R (.tuple #[v,v']) w) :
 bodyPost P fn (fun e w' => ∃ v,e = .returned v/\R v w') .ret (Fr n s []) w:=⟨rfl,_,LN b h1 a,_,rfl,h⟩
theorem qm{t:Nat}(h:ev n s (.tmp t)=v):RV P n s w v (.tmp t):=h
theorem xL{a:Nat}{T:TypeId}(e:ev n s (.tmp a) = .pointer (some ⟨b,o,none⟩))(d:P.underlying T=some u)(c:kJ u=false)(hv:w.cell? ⟨b,o,none⟩=some v):RV P n s w v (.cell a T) :=
 ⟨_,e,by simp only[loadVar,zt,vZ d,c,zn];simp[load,Sem.run,hv]⟩
theorem oI{a sz:Nat}{T:TypeId}{z:Value}(g:ev n s (.tmp a) = .pointer (some ⟨b,o,none⟩))(f:P.underlying T=some u)(e:kJ u=true)(ht:TI P T sz o' z)(d:cs.length=sz)(hv:∀ j u,cs[j]? = some u->w.cell? ⟨b,o+j,none⟩=some u):RV P n s w (.agg cs.toArray) (.cell a T):=by
 subst d
 have:=run_loadCells_list (P:=P) w ⟨b,o,none⟩ cs (fun j u c=>by rw[Addr.add_lit];exact hv j u c)
 exact⟨_,g,by simp only[loadVar,zt,vZ f,e,zn,ht.size,this,if_true,kn]⟩
end
section
variable{n:Nat}{by_:Nat}{z:Value}
theorem cells_one(h:v.oneCell' = true):v.cells.toList=[v]:=by cases v<;>first|rfl|(simp[Value.oneCell']at h)
theorem Sl.Su{α:Type}{sz:Nat}{enc:World->α->List Value->Prop}{xs:List α}(h:Sl sz enc ok w v xs):v.oneCell' = true:=by
 obtain⟨a,c,rfl,_⟩:=h
 rfl
theorem ac4{e:TypeId}{xs:List Value}(h:w.ownsRow 0 e sz v m xs):v.oneCell' = true:=by
 rcases h.2 with ⟨rfl,_⟩|⟨g,a,cur,rfl,_⟩<;>rfl
theorem St.aeD{e:TypeId}{m:Nat}{xs:List Value}(h:St bs L w)(hi:L[i]? = some (row v e sz m xs)):v.oneCell' = true:=ac4 (h.own _ (zg hi))
theorem je:([]:List Value).all (·.oneCell')=true:=rfl
theorem gD{l:List Value}(h:v.oneCell' = true)(k:l.all (·.oneCell')=true):(v :: l).all (·.oneCell')=true:=by simp only[List.all_cons,h,k,Bool.and_self]
theorem St.at{R:fJ}{i:Nat}(h:St bs L w)(hi:L[i]? = some R):R.holds w:=h.own _ (zg hi)
def BL(pl:List (Nat×Nat)):List Value->List (Nat×List Value)->Option (List Value)
 | cs,[]=>some cs
 | cs,(i,vs) :: rest=>match pl[i]? with
  | none=>none
  | some (off,sz)=>bif Nat.beq vs.length sz&&Nat.ble (off+vs.length) cs.length then BL pl (setAt cs off vs) rest else none
def ES:List (Nat×Value)->List (Nat×List Value)->Prop
 | [],[]=>True
 | (i,v) :: l,(j,vs) :: m=>i=j/\v.cells.toList=vs/\ES l m
 | _,_=>False
theorem Qx(pl:List (Nat×Nat)):∀ (ps:List (Nat×Value)) (b:List (Nat×List Value)) (cs out:List Value),ES ps b->BL pl cs b=some out->Instr.fill (pl.toArray[·]?) cs.toArray ps=some out.toArray:=by
 intro ps
 induction ps with
 | nil =>
  intro b cs out h a
  cases b with
  | nil=>simp only[BL,Option.some.injEq]at a;subst a;rfl
  | cons q b=>cases h
 | cons p ps f =>
  intro b cs out h a
  cases b with
  | nil=>cases h
  | cons q b =>
   obtain⟨i,v⟩:=p
   obtain⟨j,vs⟩:=q
   obtain⟨rfl,hv,h⟩:=h
   simp only[BL]at a
   simp only[Instr.fill,CG]
   cases hp:pl[i]? with
   | none=>rw[hp]at a;cases a
   | some p =>
    obtain⟨off,sz⟩:=p
    rw[hp]at a
    simp only at a
    cases hb:(Nat.beq vs.length sz&&Nat.ble (off+vs.length) cs.length)with
    | false=>rw[hb]at a;cases a
    | true =>
     rw[hb]at a
     simp only[cond_true]at a
     rw[nZ]at hb
     have g:vs.length=sz:=CE hb.1
     have k:=qV hb.2
     have hs:v.cells.size=vs.length:=by rw[<-hv];simp
     simp only[hs]
     rw[if_neg (by simp;omega)]
     have d:=QE off v.cells.toList 0 cs.toArray (by simp[hs];omega)
     have e:Array.foldl (fun cs (q:Value×Nat)=>cs.setIfInBounds (off+q.2) q.1) cs.toArray v.cells.zipIdx=(setAt cs off vs).toArray:=by
      rw[<-Array.foldl_toList,Array.toList_zipIdx]
      simp only[sD,ux,hs,hv]at d ⊢
      rw[d]
      simp[setAt]
     rw[show (Array.foldl (fun cs (x:Value×Nat)=>match x with|(c,j)=>cs.setIfInBounds (off+j) c) cs.toArray v.cells.zipIdx)=_ from e]
     simpa only[CG]using f b _ out h a
def jZ(P:Program)(T:TypeId)(pl:List (Nat×Nat)):Prop :=
 ∃ fields,P.underlying T=some (.struct fields)/\∀ w,(fields.mapM (fun f=>do pure (f.offset,<-sizeOf f.type):Field->Sem (Nat×Nat))).run P w = .ok pl.toArray w
theorem i6{pl:List (Nat×Nat)}{ps:List (Nat×Value)}(a:List (Nat×List Value))(ht:TI P T sz by_ z)(hp:jZ P T pl)(d:z.cells.toList=cs)(hc:ES ps a)(b:BL pl cs a=some vs)(w:World) :
 (Instr.build T ps.toArray).run P w = .ok (.agg vs.toArray) w:=by
 obtain⟨fields,c,hm⟩:=hp
 have:=Qx pl ps a cs vs hc b
 subst d
 simp only[Array.toArray_toList]at this
 simp only[Instr.build,zt,ht.CU,zn,run_underlying c,hm,this,kn]
theorem uN{e:TypeId}{len a f:Nat}{r:Value}{ps:List (Nat×Value)}(c:List (Nat×List Value))(ht:TI P T sz by_ z)(n:P.underlying T=some (.array len e))(j:TI P e a f r)(o:z.cells.toList=cs)(hc:ES ps c)(k:BL ((List.range len).map fun i=>(i*a,a)) cs c=some vs)(m:∀ p∈ps,p.1<len)(w:World) :
 (Instr.build T ps.toArray).run P w = .ok (.agg vs.toArray) w:=by
 have d:=Qx _ ps c cs vs hc k
 have g:∀ (l:List (Nat×Value)) (b:Array Value),(∀ p∈l,p.1<len)->Instr.fill (fun i=>some (i*a,a)) b l=Instr.fill ((((List.range len).map fun i=>(i*a,a)).toArray)[·]?) b l:=by
  intro l
  induction l with
  | nil=>intro b _;rfl
  | cons p l q =>
   intro b h
   obtain⟨i,v⟩:=p
   have hi:=h (i,v) s_
   simp only at hi
   simp only[Instr.fill,CG,lU,pg hi,CO]
   split
   . rfl
   . simpa only[CG,lU]using q _ (fun p hp=>h p (by simp[hp]))
 subst o
 simp only[Array.toArray_toList]at d
 simp only[Instr.build,zt,ht.CU,zn,run_underlying n,j.size,g _ _ m,d,kn]
end
section
variable{R:fJ}
structure Own (R:fJ) (w:World):Prop where
 holds:R.holds w
 nodup:R.gq.Nodup
 lt:∀ b∈R.gq,b<w.heap.size
structure fP (R:fJ) (w w' : World) (R' : fJ):Prop where
 holds:R'.holds w'
 gf:gE R.gq w w'
 place:∀ b∈R'.gq,b∈R.gq\/w.heap.size<=b
 nodup:R'.gq.Nodup
 lt:∀ b∈R'.gq,b<w'.heap.size
theorem Hs{α β:Type}{f:α->List β}:∀ {l:List α} {x:α},(l.flatMap f).Nodup->x∈l->(f x).Nodup:=by
 intro l
 induction l with
 | nil=>intro x _ h;simp at h
 | cons y l b =>
  intro x h a
  rw[zz]at h
  rcases ze.1 a with rfl|a
  . exact(zo.1 h).1
  . exact b (zo.1 h).2.1 a
theorem St.Lu(h:St bs L w)(hi:L[i]? = some R):Own R w :=
 ⟨h.own R (zg hi),Hs h.sep (zg hi),fun b hb=>h.lt b (tc hi hb)⟩
theorem St.MY{LL:List fJ}(i:Nat)(h:St bs L w)(hi:L[i]? = some R)(ht:fP R w w' R')(a:L.set i R' = LL):St bs LL w' := by
 subst a
 exact h.iV hi ht.gf ht.place ht.nodup ht.lt ht.holds
theorem St.Kx(h:Own R w):St [(w,R.gq)] [R] w:=by
 have:=St.QY w [R] (fun Q a=>by simp only[z8]at a;subst a;exact h.holds) (by simpa[jb]using h.nodup) (fun b hb=>h.lt b (by simpa[jb]using hb))
 simpa[jb]using this
theorem St.DD(h:St bs (R' :: L) w')(hb:(w,R.gq)∈bs):fP R w w' R' := by
 have c:=h.base _ hb
 refine⟨h.own R' s_,c.gf,fun b a => c.mine b (by rw[nO];simp[a]),Hs (x:=R') h.sep s_,fun b a => h.lt b (by rw[nO];simp[a])⟩
theorem fP.refl(h:Own R w):fP R w w R:=⟨h.holds,gE.refl _ _,fun b hb=>.inl hb,h.nodup,h.lt⟩
theorem fP.own(h:fP R w w' R'):Own R' w' := ⟨h.holds,h.nodup,h.lt⟩
theorem Du{T:TypeId}(h:(blk b T cs).holds w)(hv:cs[o]? = some v):w.cell? ⟨b,o,none⟩=some v:=by
 have a:(blk b T cs).holds w:=h
 have:=(St.aap w a).tZ (i:=0) (o:=o) rfl hv
 exact this
end
section
variable{n:Nat}{RR:Ending->World->Prop}{v' v'':Value}{x y z:ResultVar}
theorem aef(a:fn.results = #[x])(h1:RV P n s w v x):(results fn (Fr n s []).tmps).run P w = .ok v w:=by
 rw[Tp,a]
 simp[zt,Result.andThen,L5 h1]
theorem LP(a:fn.results = #[x])(h1:RV P n s w v x)(h:R v w) :
 bodyPost P fn (fun e w' => ∃ v,e = .returned v/\R v w') .ret (Fr n s []) w:=⟨rfl,_,aef a h1,_,rfl,h⟩
end
theorem St.perm{L':List fJ}{w:World}(h:St bs L w)(hp:L.Perm L'):St bs L' w:=by
 have a:(jb L).Perm (jb L'):=hp.flatMap_right _
 exact⟨fun p c => ⟨(h.base p c).gf,fun b hb=>(h.base p c).mine b (a.mem_iff.2 hb)⟩,fun X d=>h.own X (hp.mem_iff.2 d),a.nodup_iff.1 h.sep,fun b hb=>h.lt b (a.mem_iff.2 hb)⟩
theorem St.swap{R:fJ}(h:St bs (R :: R' :: L) w):St bs (R' :: R :: L) w:=h.perm (List.Perm.swap _ _ _)
def gK(l:Nat)(r:Loop):fJ where
 gq:=[l]
 holds w:=w.heap[l]? = some (.loop r)
 loc w w' h hh:=(h l s_).trans hh
def jy(d:Nat)(o:Option (List Deferred)):fJ where
 gq:=[d]
 holds w:=w.heap[d]? = some (.deferred o)
 loc w w' h hh:=(h d s_).trans hh
theorem gE.putObj(w:World)(r:Nat)(o:Obj):gE [r] w (w.putObj r o) :=
 ⟨rfl,rfl,rfl,s_,fun b _ hb=>World.putObj_heap_other (by simpa using hb)⟩
variable{LL:List fJ}{l d:Nat}{rc:Loop}
theorem St.zQ(h:St bs L w)(hi:L[i]? = some (gK l rc)):w.heap[l]? = some (.loop rc):=h.own _ (zg hi)
theorem St.DW(h:St bs L w)(hi:L[i]? = some (gK l rc))(c:Loop):St bs (L.set i (gK l c)) (w.putObj l (.loop c)):=by
 have a:l<w.heap.size:=h.lt l (tc hi (by simp[gK]))
 exact h.iV hi (gE.putObj w l _) (fun b hb=>.inl hb) (by simp[gK]) (fun b hb=>by simp[gK]at hb;subst hb;simpa using a) (World.putObj_heap_same a)
theorem St.Ta{o:Option (List Deferred)}(h:St bs L w)(hi:L[i]? = some (jy d o))(o':Option (List Deferred)):St bs (L.set i (jy d o')) (w.putObj d (.deferred o')):=by
 have a:d<w.heap.size:=h.lt d (tc hi (by simp[jy]))
 exact h.iV hi (gE.putObj w d _) (fun b hb=>.inl hb) (by simp[jy]) (fun b hb=>by simp[jy]at hb;subst hb;simpa using a) (World.putObj_heap_same a)
def fN(L:List fJ):fJ where
 gq:=jb L
 holds w:=∀ R∈L,R.holds w
 loc w w' h hh R hR:=R.loc w w' (fun b hb=>h b (qw.2 ⟨R,hR,hb⟩)) (hh R hR)
section
variable{A B:List fJ}{R:fJ}
theorem J4(A B:List fJ):jb (A++B)=jb A++jb B:=by simp[jb]
theorem BK(A B:List fJ):jb (fN A :: B)=jb (A++B):=by rw[nO,J4];rfl
theorem St.pack(A B:List fJ)(h:St bs (A++B) w):St bs (fN A :: B) w :=
 ⟨fun p hp=>⟨(h.base p hp).gf,fun b hb=>(h.base p hp).mine b (by rw[<-BK];exact hb)⟩,fun Q a=>by
  rcases ze.1 a with rfl|a
  . exact fun R c=>h.own R (sj _ c)
  . exact h.own Q (yC _ a),by rw[BK];exact h.sep,fun b hb=>h.lt b (by rw[<-BK];exact hb)⟩
theorem St.unpack(h:St bs (fN A :: B) w):St bs (A++B) w :=
 ⟨fun p hp=>⟨(h.base p hp).gf,fun b hb=>(h.base p hp).mine b (by rw[BK];exact hb)⟩,fun Q a=>by
  rcases zj.1 a with a|a
  . exact h.own (fN A) s_ Q a
  . exact h.own Q (by simp[a]),by rw[<-BK];exact h.sep,fun b hb=>h.lt b (by rw[BK];exact hb)⟩
theorem St.Sn(h:St bs (R :: B) w)(hb:b∈jb B):b∉R.gq:=fun a=>by
 have:=h.sep
 rw[nO]at this
 exact(zo.1 this).2.2 b a b hb rfl
end
def YR(P:Program)(l:Nat)(vl:List Value)(w:World)(R:Value->World->Prop):Prop :=
 ∃ f tmps a b,(Instr.yield l vl.toArray).run P w = .ok (.round l f tmps a b) w/\RoundIn (FW none) 0 P l f tmps a b w (fun e w' => ∃ v,e = .returned v/\R v w')
section
variable{ops:Array Oper}{rest:List Oper}{n:Nat}{ds:List Deferred}
variable{d:Option Nat}{ty:TypeId}{pos:String}{af:Array Edge}{g:Option (Nat×Bool)}
theorem yl{T:Array TypeId}(k:gA ops n s g=true)(o:ev n s x = .func (.yield l) #[] #[])(hvs:az.map (ev n s)=vl)(p:YR P l vl w R)(K:∀ v w', R v w' -> WL none P ops Q rest (Fr n (u5 d v s) ds) w'):WL none P ops Q (⟨d,.call ⟨.value x,az.toArray,T⟩,ty,pos,af,g⟩ :: rest) (Fr n s ds) w:=by
 obtain⟨f,tmps,a,b,c,i⟩:=p
 refine Vc k ?_
 have m:(Oper.semAt none (Fr n s ds).eval (⟨d,.call ⟨.value x,az.toArray,T⟩,ty,pos,af,g⟩:Oper)).run P w = .ok (.round l f tmps a b) w:=by
  rw[Oper.semAt_none,tK]
  simp only[execOp,resolve,Deferred.ofValue,o,GH, hvs,zt,kn,zn,invoke]
  simpa using c
 rw[m]
 refine⟨fun h=>by simp[FW]at h,RoundIn.mono i ?_⟩
 rintro e w' ⟨v,rfl,j⟩
 have:=(K v w' j).out
 rw[<-EW]at this
 exact this
def Aa:List Nat->List Value->List (Nat×Value)->List (Nat×Value)
 | p :: ps,v :: vs,s=>Aa ps vs ((p,v) :: s)
 | _,_,s=>s
theorem Vt(p:Nat)(v:Value):(Fr n s ds).tmps.setIfInBounds p v=(Fr n ((p,v) :: s) ds).tmps:=congrArg Act.tmps (vu n s ds p v)
theorem adW:∀ (ps:List Nat) (vs:List Value) (s:List (Nat×Value)),((ps.zip vs).foldl (fun(t:Array Value) (q:Nat×Value)=>t.setIfInBounds q.1 q.2) (Fr n s ds).tmps)=(Fr n (Aa ps vs s) ds).tmps:=by
 intro ps
 induction ps with
 | nil=>intro vs s;simp[Aa]
 | cons p ps a =>
  intro vs s
  cases vs with
  | nil=>simp[Aa]
  | cons v vs =>
   simp only[List.zip_cons_cons,List.foldl_cons,Aa]
   rw[Vt]
   exact a vs _
theorem adV(ps:List Nat)(vs:List Value)(s:List (Nat×Value)):((ps.toArray.zip vs.toArray).foldl (fun(t:Array Value) (q:Nat×Value)=>t.setIfInBounds q.1 q.2) (Fr n s ds).tmps)=(Fr n (Aa ps vs s) ds).tmps:=by
 grind [adW]
theorem tq{ps:List Nat}{s':List (Nat×Value)}{fn dd:Nat}{b c:Code}(i:Nat)(g:rc=⟨.ready,none,fn,(Fr n s ds).tmps,ps.toArray,b,c,dd⟩)(j:St bs L w)(hi:L[i]? = some (gK l rc))(f:vl.length=ps.length)(hs:Aa ps vl s=s')(h:WP (some l) P b (Exit.then (fun a k=>∃ d,(Instr.beginRound l).run P k = .ok () d/\WP (some l) P c (roundPost P l (fun e w' => ∃ v,e = .returned v/\R v w')) a d) (fun _ _ _=>False)) (Fr n s' []) w):YR P l vl w R:=by
 subst hs g
 refine⟨_,_,_,_,run_yield (j.zQ hi) (by simpa using f),roundIn_of_wpIn trivial ?_⟩
 have e:=adV (n:=n) (ds:=ds) ps vl s
 show b.wpIn (FW (some l)) 0 P _ { tmps:=((ps.toArray.zip vl.toArray).foldl (fun(t:Array Value) (q:Nat×Value)=>t.setIfInBounds q.1 q.2) (Fr n s ds).tmps),defers:=[] } w
 rw[e]
 exact h
theorem tW{B:World->Prop}(i:Nat)(b:St bs L w)(hi:L[i]? = some (gK l rc))(d:rc.state = .ready)(c:L.set i (gK l { rc with state:=.busy })=LL)(K:∀ a,St bs LL a->B a):∃ a,(Instr.beginRound l).run P w = .ok () a/\B a :=
 ⟨_,run_beginRound (b.zQ hi) d,K _ (by subst c;exact b.DW hi _)⟩
theorem qa{R:Ending->World->Prop}{a:Act}(i:Nat)(k:St bs L w)(hi:L[i]? = some (gK l { rc with state:=.busy }))(j:rc.state = .ready)(hp:rc.pending=none)(m:L.set i (gK l rc)=LL)(K:∀ w', St bs LL w' -> R (.returned (.bool true)) w'):roundPost P l R .normal a w:=by
 refine⟨_,_,run_endRound none (k.zQ hi),K _ ?_⟩
 subst m
 have:=k.DW hi rc
 obtain⟨a,b,c,d,e,f,g,h⟩:=rc
 simp only at j hp
 subst j hp
 exact this
theorem rf{f:FuncId}{fi ca:List Value}{ps:List Nat}{a c:Code}{α:Type}(d:α->List fJ)(C:α->Prop)(u:St bs L w)(y:ev n s x = .func (.func f) fi.toArray ca.toArray)(q:wG P f)(h1:∀ fn dd l j rc,rc=(⟨.ready,none,fn,(Fr n s ds).tmps,ps.toArray,a,c,dd⟩:Loop)->St bs (gK l rc :: jy dd (some []) :: L) j ->
  CR P f (fi++[Value.func (.yield l) #[] #[]]++ca).toArray j (fun _ k=>∃ z,C z/\St bs (gK l rc :: jy dd (some []) :: d z) k))(o:∀ z dd m,C z->St bs (jy dd (some []) :: d z) m->Q .normal (Fr n s (⟨.collected dd,#[]⟩ :: ds)) m):WP none P (.rangeFunc x ps.toArray a c) Q (Fr n s ds) w:=by
 refine wpIn_rangeFunc fun fn _=>?_
 have r:St bs (jy w.heap.size (some []) :: L) (w.alloc (.deferred (some []))) :=
  u.tS (gE.alloc [] w _) (fun b hb=>by simp[jy]at hb;omega) (by simp[jy]) (fun b hb=>by simp[jy]at hb;simp;omega) (World.alloc_heap_new w _)
 have t:St bs (gK (w.heap.size+1) ⟨.ready,none,fn,(Fr n s ds).tmps,ps.toArray,a,c,w.heap.size⟩ :: jy w.heap.size (some []) :: L) ((w.alloc (.deferred (some []))).alloc (.loop ⟨.ready,none,fn,(Fr n s ds).tmps,ps.toArray,a,c,w.heap.size⟩)) :=
  r.tS (gE.alloc [] _ _) (fun b hb=>by simp[gK]at hb;simp;omega) (by simp[gK]) (fun b hb=>by simp[gK]at hb;simp;omega) (by have:=World.alloc_heap_new (w.alloc (.deferred (some []))) (.loop ⟨.ready,none,fn,(Fr n s ds).tmps,ps.toArray,a,c,w.heap.size⟩);simpa[gK]using this)
 refine⟨w.heap.size+1,_,_,⟨.fn (.func f) ca.toArray,(fi++[Value.func (.yield (w.heap.size+1)) #[] #[]]).toArray⟩,((w.alloc (.deferred (some []))).alloc (.loop ⟨.ready,none,fn,(Fr n s ds).tmps,ps.toArray,a,c,w.heap.size⟩)),f,(fi++[Value.func (.yield (w.heap.size+1)) #[] #[]]++ca).toArray,((w.alloc (.deferred (some []))).alloc (.loop ⟨.ready,none,fn,(Fr n s ds).tmps,ps.toArray,a,c,w.heap.size⟩)),run_enterLoop_outer fn _ _ _ _,?_,fun _ _=>trivial,?_,fun h=>by simp[FW]at h,?_⟩
 . rw[tK]
   simp only[resolve,rangeCall,Deferred.ofValue,y]
   simp[ev]
 . have:=q ((fi++[Value.func (.yield (w.heap.size+1)) #[] #[]]++ca).toArray) ((w.alloc (.deferred (some []))).alloc (.loop ⟨.ready,none,fn,(Fr n s ds).tmps,ps.toArray,a,c,w.heap.size⟩))
   simp only[invoke]
   simpa using this
 . refine Dv.2 (Calls.mono (h1 fn w.heap.size (w.heap.size+1) _ _ rfl t) ?_)
   rintro e k ⟨v,rfl,z,p,g⟩
   refine⟨none,_,run_endLoop (g.zQ (i:=0) rfl) s_,?_⟩
   refine o z w.heap.size _ p ?_
   exact(g.DW (i:=0) rfl _).sub (Nr _ _)
end
section
variable{n:Nat}{f:FuncId}{c:Code}{RR:Ending->World->Prop}{tmps:Array Value}
theorem uc(a:P.funcs[f]? = some fn)(hb:fn.body=some c)(b:fn.ntmps=n)(hs:Nat.ble vs.length n=true)(h:WP none P c (bodyPostM (FW none) 0 P fn RR) (Fr n (tU vs 0) []) w):Calls P f vs.toArray w RR:=by
 refine Dv.1 (callsIn_of_wp_marks (F:=FW none) (n:=0) a hb trivial ?_)
 rw[b,NA vs n (qV hs)]
 exact h
theorem uU(i:Nat)(a:St bs L w)(hi:L[i]? = some (jy d (some [])))(b:L.set i (jy d none)=LL)(K:∀ w', St bs LL w' -> ∃ v,(results fn tmps).run P w' = .ok v w' /\ RR (.returned v) w') :
 LeavesInM (FW none) 0 P fn tmps RR [⟨.collected d,#[]⟩] .returning w :=
 ⟨s_,.inl ⟨d,_,rfl,run_takeDeferred (a.own _ (zg hi)),K _ (by subst b;exact a.Ta hi none)⟩⟩
end
section
variable{t e:TypeId}{by_:Nat}{z:Value}
theorem vg(d:Nat)(c:P.underlying e=some (.int k))(a b:Int):(Op.equalIn (d+1) e (.int k a) (.int k b)).run P w = .ok (a==b) w:=by
 simp[Op.equalIn,run_underlying c]
theorem L4(d:Nat)(c:P.underlying t=some .bool)(a b:Bool):(Op.equalIn (d+1) t (.bool a) (.bool b)).run P w = .ok (a==b) w:=by
 simp[Op.equalIn,run_underlying c]
theorem qQ(a:P.underlying e=some (.int k))(xs:Array Value)(i:Nat)(v:Value)(h:xs[i]? = some v):(part e xs i).run P w = .ok v w:=by
 simp[part,vZ a,kJ,h]
theorem aeU(ht:P.underlying t=some (.array 4 e))(h:P.underlying e=some (.int k))(hi:TI P e 1 by_ z)(a0 a1 a2 a3 b0 b1 b2 b3:Int) :
 (Op.equal t (.agg #[.int k a0,.int k a1,.int k a2,.int k a3]) (.agg #[.int k b0,.int k b1,.int k b2,.int k b3])).run P w = .ok (decide ([a0,a1,a2,a3]=[b0,b1,b2,b3])) w:=by
 have p:∀ (c d f g:Value),(part e #[c,d,f,g] 0).run P w = .ok c w/\(part e #[c,d,f,g] 1).run P w = .ok d w/\(part e #[c,d,f,g] 2).run P w = .ok f w/\(part e #[c,d,f,g] 3).run P w = .ok g w:=fun c d f g =>
  ⟨qQ h _ _ _ rfl,qQ h _ _ _ rfl,qQ h _ _ _ rfl,qQ h _ _ _ rfl⟩
 have q:=fun a b=>vg (P:=P) (w:=w) 9998 h a b
 simp only[Nat.reduceAdd]at q
 show (Op.equalIn 10000 t _ _).run P w=_
 unfold Op.equalIn
 simp only[zt,run_underlying ht,zn,hi.size,Std.Legacy.Range.forIn_eq_forIn_range', Std.Legacy.Range.size]
 simp only[show List.range' 0 ((4-0+1-1) / 1) 1=[0,1,2,3] from rfl,List.forIn_cons,List.forIn_nil,zt,tF,(p _ _ _ _).1,(p _ _ _ _).2.1,(p _ _ _ _).2.2.1,(p _ _ _ _).2.2.2,zn,q]
 by_cases h0:a0=b0
 . by_cases h1:a1=b1
   . by_cases h2:a2=b2
     . by_cases h3:a3=b3
       . simp[h0,h1,h2,h3,p,q,Result.andThen]
       . simp[h0,h1,h2,h3,p,q,Result.andThen]
     . simp[h0,h1,h2,p,q,Result.andThen]
   . simp[h0,h1,p,q,Result.andThen]
 . simp[h0,p,q,Result.andThen]
end
section
variable{r:Option Nat}{ops:Array Oper}{rest:List Oper}{n:Nat}{ds:List Deferred}
variable{ty t t' e:TypeId}{pos:String}{af:Array Edge}{g:Option (Nat×Bool)}{by_:Nat}{z:Value}{a0 a1 a2 a3 b0 b1 b2 b3:Int}{c:Bool}
theorem run_eqGuard_agg(a:BinOp)(b:P.eqGuardType P.depth t=false)(xs ys:Array Value):(eqGuard a t x y (.agg xs) (.agg ys)).run P w = .ok () w:=by
 unfold eqGuard
 cases a<;>simp[b,program,Sem.run]
theorem acA(d:ev n s x = .agg #[.int k a0,.int k a1,.int k a2,.int k a3])(f:ev n s y = .agg #[.int k b0,.int k b1,.int k b2,.int k b3])(ht:P.underlying t=some (.array 4 e))(a:P.underlying e=some (.int k))(hi:TI P e 1 by_ z)(b:P.eqGuardType P.depth t=false)(hc:(!decide ([a0,a1,a2,a3]=[b0,b1,b2,b3]))=c) :
 (execOp (ev n s) ⟨dd,.binOp .neq t x y t', ty,pos,af,g⟩).run P w = .ok (.value (.bool c)) w:=by
 subst hc
 have h:=aeU (P:=P) (w:=w) ht a hi a0 a1 a2 a3 b0 b1 b2 b3
 simp only[execOp,d,f,zt,run_eqGuard_agg .neq b,zn]
 simp only[binOp,zt,h,zn,kn]
theorem acC{a b:Bool}(f:ev n s x = .bool a)(h:ev n s y = .bool b)(ht:P.underlying t=some .bool)(hc:(!(a==b))=c) :
 (execOp (ev n s) ⟨dd,.binOp .neq t x y t', ty,pos,af,g⟩).run P w = .ok (.value (.bool c)) w:=by
 subst hc
 have d:(Op.equal t (.bool a) (.bool b)).run P w = .ok (a==b) w:=L4 9999 ht a b
 have e:(eqGuard .neq t x y (.bool a) (.bool b)).run P w = .ok () w:=rfl
 simp only[execOp,f,h,zt,e,zn]
 simp only[binOp,zt,d,zn,kn]
theorem GQ{a b:Bool}(e:gA ops n s g=true)(f:ev n s x = .bool a)(h:ev n s y = .bool b)(ht:P.underlying t=some .bool)(hc:(!(a==b))=c)(K:WL r P ops Q rest (Fr n ((d,.bool c) :: s) ds) w) :
 WL r P ops Q (⟨some d,.binOp .neq t x y t', ty,pos,af,g⟩ :: rest) (Fr n s ds) w:=pw e (fun _=>acC f h ht hc) K
theorem Yv{a b:Bool}(f:ev n s x = .bool a)(h:ev n s y = .bool b)(ht:P.underlying t=some .bool)(hc:(a==b)=c) :
 (execOp (ev n s) ⟨dd,.binOp .eql t x y t', ty,pos,af,g⟩).run P w = .ok (.value (.bool c)) w:=by
 subst hc
 have d:(Op.equal t (.bool a) (.bool b)).run P w = .ok (a==b) w:=L4 9999 ht a b
 have e:(eqGuard .eql t x y (.bool a) (.bool b)).run P w = .ok () w:=rfl
 simp only[execOp,f,h,zt,e,zn]
 simp only[binOp,zt,d,zn,kn]
theorem F6{a b:Bool}(e:gA ops n s g=true)(f:ev n s x = .bool a)(h:ev n s y = .bool b)(ht:P.underlying t=some .bool)(hc:(a==b)=c)(K:WL r P ops Q rest (Fr n ((d,.bool c) :: s) ds) w) :
 WL r P ops Q (⟨some d,.binOp .eql t x y t', ty,pos,af,g⟩ :: rest) (Fr n s ds) w:=pw e (fun _=>Yv f h ht hc) K
theorem acz(b:gA ops n s g=true)(h:ev n s x = .agg #[.int k a0,.int k a1,.int k a2,.int k a3])(i:ev n s y = .agg #[.int k b0,.int k b1,.int k b2,.int k b3])(ht:P.underlying t=some (.array 4 e))(a:P.underlying e=some (.int k))(hi:TI P e 1 by_ z)(f:P.eqGuardType P.depth t=false)(hc:(!decide ([a0,a1,a2,a3]=[b0,b1,b2,b3]))=c)(K:WL r P ops Q rest (Fr n ((d,.bool c) :: s) ds) w) :
 WL r P ops Q (⟨some d,.binOp .neq t x y t', ty,pos,af,g⟩ :: rest) (Fr n s ds) w:=pw b (fun _=>acA h i ht a hi f hc) K
end
theorem St.aew(h:St bs L w)(hb:(w0,[])∈bs)(c:(blk b T cs).holds w0)(hv:(cs.drop o).take vs.length=vs):∀ j u,vs[j]? = some u->w.cell? ⟨b,o+j,none⟩=some u:=by
 intro j u a
 refine h.JC hb (Du c (o:=o+j) ?_) pn
 rw[<-hv,yD]at a
 split at a
 . simpa using a
 . cases a
theorem St.LU(h:St bs L w)(hb:(w0,[])∈bs)(a:(blk b T cs).holds w0){o:Nat}{u:Value}(hv:cs[o]? = some u):w.cell? ⟨b,o,none⟩=some u:=h.JC hb (Du a hv) pn
theorem St.OQ(h:St bs L w)(hc:gE [] w w')(c:w.heap.size<=b)(hb:(blk b T cs).holds w'):St bs (blk b T cs :: L) w' :=
 h.tS hc (fun x a=>by simp[blk]at a;omega) (by simp[blk]) (fun x a=>by
  simp only[blk,z8]at a
  subst a
  exact(su.1 (show w'.heap[x]? = _ from hb)).1) hb
abbrev gV{α:Type}(sz:Nat)(cf:α->List Value)(ok:Nat->Prop)(w:World)(v:Value)(xs:List α):Prop:=Sl sz (fun _ x vs=>vs=cf x) ok w v xs
def j8(sz:Nat)(v:Value)(i off:Nat):Value:=match v with
 | .slice (some ⟨b,o,_⟩) _ _=>.pointer (some ⟨b,o+i*sz+off,none⟩)
 | _=>.pointer none
theorem VX(sz:Nat)(v:Value)(i:Nat):j8 sz v i 0=OV sz v i:=by
 cases v with
 | slice a m c=>cases a<;>rfl
 | _=>rfl
abbrev cL{α:Type}(cf:α->List Value)(v:Value)(e:TypeId)(sz:Nat)(ys:List α):fJ:=row v e sz ys.length (ys.flatMap cf)
theorem oT{α:Type}{l:List α}{k:Nat}(h:k<l.length):∃ y,l[k]? = some y:=⟨l[k],zy h⟩
variable{cf:α->List Value}
theorem gV.to(h:gV sz cf ok w v xs)(hp:0<sz)(hk:∀ b,ok b->b<w.heap.size->w'.heap[b]? = w.heap[b]?):gV sz cf ok w' v xs:=Sl.to h hk (fun _ _ _ h=>h) hp
theorem St.ad6(h:St bs L w)(hb:(w0,X)∈bs)(hp:0<sz)(a:gV sz cf ok w0 v xs)(e:∀ b,ok b->b∉X):gV sz cf ok w v xs:=gV.to a hp fun b c d=>h.keep hb d (e b c)
theorem St.DX(h:St bs L w)(hb:(w0,[])∈bs)(hp:0<sz)(a:gV sz cf ok w0 v xs):gV sz cf ok w v xs:=h.ad6 hb hp a fun _ _=>pn
theorem gV.place{k:Nat}{c:α}(h:gV sz cf ok w v xs)(hk:xs[k]? = some c):∃ b o m d,v = .slice (some ⟨b,o,none⟩) m d/\k<m/\ok b/\(cf c).length=sz/\∀ j u,(cf c)[j]? = some u->w.cell? ⟨b,o+k*sz+j,none⟩=some u:=by
 have i:=(zp.1 hk).1
 obtain⟨a,d,rfl,l,n,e⟩:=h
 obtain⟨b,o,vs,rfl,hb,g,rfl,f⟩:=e k c hk
 exact⟨b,o,_,d,rfl,i,hb,g,f⟩
theorem vL(c:∀ x:α,(cf x).length=sz):∀ (xs:List α) (k j:Nat) (x:α) (u:Value),xs[k]? = some x->(cf x)[j]? = some u->(xs.flatMap cf)[k*sz+j]? = some u:=by
 intro xs
 induction xs with
 | nil=>intro k j x u h;simp at h
 | cons e xs d =>
  intro k j x u b a
  rw[zz]
  cases k with
  | zero =>
   grind
  | succ k =>
   grind
theorem St.Ae{e:TypeId}(h:St bs L w)(hi:L[i]? = some (cL cf v e sz xs))(c:∀ x:α,(cf x).length=sz):gV sz cf (fun b=>v.ownBlock=some b) w v xs:=by
 have d:w.ownsRow 0 e sz v xs.length (xs.flatMap cf):=h.own _ (zg hi)
 rcases d.2 with ⟨rfl,o⟩|⟨a, f,cur,rfl,_,p,k,l,_⟩
 . grind [Sl.nil]
 . refine⟨_,f,rfl,k,l,fun j y m=>⟨a, 0,cf y,rfl,rfl,c y,rfl,fun q u n=>?_⟩⟩
   have:=d.cells (g:=a) rfl (j*sz+q) u (vL c xs j q y u m n)
   rw[Addr.add_lit]at this
   simpa[lW]using this
theorem gV.src(h:gV sz cf ok w v xs)(d:∀ x:α,(cf x).length=sz):Src w v sz xs.length (xs.flatMap cf):=by
 obtain⟨a,n,rfl,p,q,e⟩:=h
 have i:(xs.flatMap cf).length=xs.length*sz:=by
  clear p q e
  induction xs with
  | nil=>simp
  | cons x xs y=>rw[zz,zk,d,y,zb,tE];omega
 refine⟨a,n,rfl,i,fun j u f=>?_⟩
 have g := (zp.1 f).1
 rw[i]at g
 have k:0<sz:=by
  grind
 have t:j / sz<xs.length:=(zdt k).2 g
 obtain⟨x,m⟩:=oT t
 obtain⟨b,o,vs,rfl,_,_,rfl,s⟩:=e _ x m
 refine⟨_,rfl,?_⟩
 have hm:j%sz<(cf x).length:=by rw[d];exact AZ _ k
 obtain⟨z, l⟩:=oT hm
 have c:=vL d xs _ _ x z m l
 rw[CN]at c
 rw[f]at c
 cases c
 have r:=s _ u l
 rw[Addr.add_lit,<-CN j sz]
 rw[CN,show o+j=o+j / sz*sz+j%sz by have:=CN j sz;omega]
 exact r
section
variable{ys zs:List α}{k:Nat}{c:α}{off off':Nat}
variable{r:Option Nat}{ops:Array Oper}{rest:List Oper}{n:Nat}{ds:List Deferred}
variable{ty:TypeId}{pos:String}{af:Array Edge}{g:Option (Nat×Bool)}{u:Value}{L':List fJ}{t e:TypeId}{by_ cnt szf byf:Nat}{z zf:Value}{i:Int}{ud:TypeDesc}{fields:Array Field}{f:Field}{j:Nat}
theorem KA(f:ev n s x=v)(h:ev n s y = .int k' i)(ht:P.underlying t=some (.slice e))(hi:TI P e sz by_ z)(b:gV sz cf ok w0 v ys)(a:0<=i)(hk:i.toNat=k)(d:ys[k]? = some c) :
 (execOp (ev n s) ⟨dd,.indexAddr t x y,ty,pos,af,g⟩).run P w = .ok (.value (j8 sz v k 0)) w:=by
 grind [VX,aaA]
theorem iH(h:gA ops n s g=true)(j:ev n s x=v)(l:ev n s y = .int k' i)(ht:P.underlying t=some (.slice e))(hi:TI P e sz by_ z)(b:gV sz cf ok w0 v ys)(a:0<=i)(hk:i.toNat=k)(f:ys[k]? = some c)(K:WL r P ops Q rest (Fr n ((d,j8 sz v k 0) :: s) ds) w):WL r P ops Q (⟨some d,.indexAddr t x y,ty,pos,af,g⟩ :: rest) (Fr n s ds) w:=pw h (fun _=>KA j l ht hi b a hk f) K
theorem Qn(l:ev n s x=j8 sz v k off)(d:P.underlying T=some (.struct fields))(h:fields[j]? = some f)(ht:TI P f.type (szf+1) byf zf)(i:off+f.offset=off')(a:gV sz cf ok w0 v ys)(e:ys[k]? = some c) :
 (execOp (ev n s) ⟨dd,.fieldAddr T x j,ty,pos,af,g⟩).run P w = .ok (.value (j8 sz v k off')) w:=by
 obtain⟨b,o,m,p,rfl,_⟩:=a.place e
 subst i
 exact F7 l d h ht (by simp only[lW])
theorem BW(i:ev n s x=j8 sz v k off)(h:P.underlying t=some ud)(f:kJ ud=false)(d:gV sz cf ok w v ys)(e:ys[k]? = some c)(hc:(cf c)[off]? = some u) :
 (execOp (ev n s) ⟨dd,.load t x,ty,pos,af,g⟩).run P w = .ok (.value u) w:=by
 obtain⟨b,o,m,j,rfl,_,_,_,a⟩:=d.place e
 exact s8 i h f (a off u hc)
theorem jf(e:gA ops n s g=true)(i:ev n s x=j8 sz v k off)(h:P.underlying t=some ud)(f:kJ ud=false)(a:gV sz cf ok w v ys)(b:ys[k]? = some c)(hc:(cf c)[off]? = some u)(K:WL r P ops Q rest (Fr n ((d,u) :: s) ds) w):WL r P ops Q (⟨some d,.load t x,ty,pos,af,g⟩ :: rest) (Fr n s ds) w:=pv e rfl (BW i h f a b hc) K
theorem Gt{a:Nat}(l:ev n s x=j8 sz v k off)(i:P.underlying t=some ud)(h:kJ ud=true)(ht:TI P t a by_ z)(d:gV sz cf ok w v ys)(e:ys[k]? = some c)(f:cs.length=a)(hc:((cf c).drop off).take cs.length=cs) :
 (execOp (ev n s) ⟨dd,.load t x,ty,pos,af,g⟩).run P w = .ok (.value (.agg cs.toArray)) w:=by
 obtain⟨b,o,m,p,rfl,_,_,_,q⟩:=d.place e
 refine xu (b:=b) (o:=o+k*sz+off) l i h ht f fun j u r=>?_
 grind
theorem Gs{a:Nat}(f:gA ops n s g=true)(l:ev n s x=j8 sz v k off)(j:P.underlying t=some ud)(i:kJ ud=true)(ht:TI P t a by_ z)(b:gV sz cf ok w v ys)(e:ys[k]? = some c)(h:cs.length=a)(hc:((cf c).drop off).take cs.length=cs)(K:WL r P ops Q rest (Fr n ((d,.agg cs.toArray) :: s) ds) w):WL r P ops Q (⟨some d,.load t x,ty,pos,af,g⟩ :: rest) (Fr n s ds) w:=pv f rfl (Gt l j i ht b e h hc) K
theorem D3{enc:World->α->List Value->Prop}{low high:Option Operand}{l h:Nat}(b:gA ops n s g=true)(m:ev n s x=v)(ht:P.underlying t=some (.slice e))(hi:TI P e sz by_ z)(a:Sl sz enc ok w0 v ys)(j:match low with|none=>l=0|some p=>∃ k,ev n s p = .int k (l:Int))(f:match high with|none=>h=ys.length|some p=>∃ k,ev n s p = .int k (h:Int))(i:l<=h)(c:h<=ys.length)(K:WL r P ops Q rest (Fr n ((d,Go.Sx.jL sz v l h) :: s) ds) w):WL r P ops Q (⟨some d,.slice t x low high none,ty,pos,af,g⟩ :: rest) (Fr n s ds) w:=pv b rfl (afo m ht hi a j f i c) K
theorem kR{LL:Value->List fJ}(i:Nat)(f:gA ops n s g=true)(k:ev n s x=v)(l:ev n s y=u)(ht:P.underlying t=some (.slice e))(hi:TI P e sz by_ z)(m:z.cells.size=sz)(j:0<sz)(h:St bs L w)(b:L[i]? = some (cL cf v e sz ys))(hs:Src w u sz zs.length (zs.flatMap cf))(h1:∀ x∈zs.flatMap cf,x.oneCell' = true)(hb:(ys.length+zs.length)*by_<=140737488355328)(o:ys.length+zs.length<=9223372036854775807)(c:∀ v', L.set i (cL cf v' e sz (ys++zs))=LL v')(K:∀ v' w', St bs (LL v') w' -> gE v.ownBlock.toList w w' -> WL r P ops Q rest (Fr n ((d,v') :: s) ds) w') :
 WL r P ops Q (⟨some d,.call ⟨.builtin .append,#[x,y],#[t,t]⟩,ty,pos,af,g⟩ :: rest) (Fr n s ds) w:=by
 refine O1 i f k l ht hi m j h b hs h1 hb (by simp only[maxLen];omega) fun v' w' h1 a=>K v' w' ?_ a
 rw[<-c]
 simpa[cL]using h1
end
structure pY {α:Type} (sz:Nat) (cf:α->List Value) (w:World) (w' : World) (r:Value) (e:TypeId) (zs:List α):Prop where
 own:w'.ownsRow 0 e sz r zs.length (zs.flatMap cf)
 place:∀ b,r.ownBlock=some b->w.heap.size<=b
section
variable{r:Value}{zs:List α}{e:TypeId}
theorem St.Yr(h:St bs (cL cf r e sz zs :: L) w)(hb:(w0,[])∈bs):pY sz cf w0 w r e zs:=by
 have c:=h.base _ hb
 refine⟨h.own (cL cf r e sz zs) s_,fun b d => ?_⟩
 rcases c.mine b (by rw[nO];simp[row,d])with a|a
 . simp at a
 . exact a
theorem St.VS(h:St bs L w)(hc:gE [] w w')(a:pY sz cf w w' r e zs):St bs (cL cf r e sz zs :: L) w' :=
 h.tS hc (fun b hb=>a.place b (by simpa[row]using hb)) (by show r.ownBlock.toList.Nodup;cases r.ownBlock<;>simp) (fun b hb=>Lx a.own (by simpa[row]using hb)) a.own
end
section
variable[Inhabited α]{k j:Nat}{f:α->α}{x:α}
def cE(xs:List α)(k:Nat):α:=(xs[k]?).getD default
def cO(xs:List α)(k:Nat)(f:α->α):List α:=xs.set k (f (cE xs k))
theorem fW(h:k<xs.length):xs[k]? = some (cE xs k):=by
 obtain⟨y,a⟩:=oT h
 simp[cE,a]
theorem iW(h:xs[k]? = some x):cE xs k=x:=by simp[cE,h]
theorem gd:(cO xs k f).length=xs.length:=by simp[cO]
theorem jQ(h:k<xs.length):cE (cO xs k f) k=f (cE xs k):=by simp[cE,cO,wD,h]
theorem k6(h:k≠j):cE (cO xs k f) j=cE xs j:=by simp[cE,cO,wD,h]
theorem jH(h:k<xs.length):cE (cO xs k f) j=if k=j then f (cE xs k)else cE xs j:=by
 split
 . rename_i e;subst e;exact jQ h
 . rename_i e;exact k6 e
end
theorem pP(a:∀ x:α,(cf x).length=sz)(xs:List α):(xs.flatMap cf).length=xs.length*sz:=by
 induction xs with
 | nil=>simp
 | cons x xs b=>rw[zz,zk,a,b,zb,tE];omega
theorem TJ{a b:List Value}:setAt (a++b) (a.length+o) vs=a++setAt b o vs:=by
 unfold setAt
 rw[List.take_append,List.drop_append]
 simp only[Nat.add_sub_cancel_left,z6]
 rw[AP o_,show a.length+o+vs.length-a.length=o+vs.length by omega,Ib o_,pX]
theorem Me{a b:List Value}(h:o+vs.length<=a.length):setAt (a++b) o vs=setAt a o vs++b:=by
 unfold setAt
 rw[Np o_,List.drop_append_of_le_length o_]
 simp only[z6]
theorem QD(c:∀ x:α,(cf x).length=sz):∀ (xs:List α) (k off:Nat) (x a : α) (vs:List Value),xs[k]? = some x->cf a = setAt (cf x) off vs->off+vs.length<=sz->setAt (xs.flatMap cf) (k*sz+off) vs=(xs.set k a).flatMap cf:=by
 intro xs
 induction xs with
 | nil=>intro k off x a vs h;simp at h
 | cons f xs e =>
  intro k off x a vs b d hv
  cases k with
  | zero =>
   simp at b
   subst b
   rw[List.set_cons_zero,zz,zz,Nat.zero_mul,uA,Me (by rw[c];exact hv),d]
  | succ k =>
   rw[List.set_cons_succ,zz,zz,show (k+1)*sz+off=(cf f).length+(k*sz+off) by rw[c,tE];omega,TJ]
   rw[e k off x a vs (by simpa using b) d hv]
section
variable[Inhabited α]{k off:Nat}{f:α->α}
theorem St.LJ(h:St bs L w)(hi:L[i]? = some (blk b T (xs.flatMap cf)))(a:∀ x:α,(cf x).length=sz)(hk:k<xs.length)(hc:(cf (cE xs k))[off]? = some v):w.cell? ⟨b,k*sz+off,none⟩=some v :=
 h.tZ hi (vL a xs k off _ v (fW hk) hc)
theorem St.ad5(h:St bs L w)(hi:L[i]? = some (blk b T (xs.flatMap cf)))(c:∀ x:α,(cf x).length=sz)(hk:k<xs.length)(hc:((cf (cE xs k)).drop off).take vs.length=vs):∀ j u,vs[j]? = some u->w.cell? ⟨b,k*sz+off+j,none⟩=some u:=by
 intro j u a
 rw[<-hc,yD]at a
 split at a
 . rw[Ih]at a
   rw[lW]
   exact h.LJ hi c hk a
 . cases a
theorem G3(a:∀ x:α,(cf x).length=sz)(hk:k<xs.length)(b:cf (f (cE xs k))=setAt (cf (cE xs k)) off vs)(hv:off+vs.length<=sz):setAt (xs.flatMap cf) (k*sz+off) vs=(cO xs k f).flatMap cf :=
 QD a xs k off _ _ vs (fW hk) b hv
theorem LK(a:∀ x:α,(cf x).length=sz)(hk:k<xs.length){n:Nat}(hv:off+n<=sz):k*sz+off+n<=(xs.flatMap cf).length:=by
 rw[pP a]
 have:(k+1)*sz<=xs.length*sz:=AS _ hk
 rw[tE]at this
 omega
end
section
variable[Inhabited α]{k off:Nat}
theorem St.Tu(h:St bs L w)(hb:(w0,[])∈bs)(a:(blk b T (xs.flatMap cf)).holds w0)(c:∀ x:α,(cf x).length=sz)(hk:k<xs.length)(hc:(cf (cE xs k))[off]? = some v):w.cell? ⟨b,k*sz+off,none⟩=some v :=
 h.LU hb a (vL c xs k off _ v (fW hk) hc)
theorem St.aex(h:St bs L w)(hb:(w0,[])∈bs)(c:(blk b T (xs.flatMap cf)).holds w0)(d:∀ x:α,(cf x).length=sz)(hk:k<xs.length)(hc:((cf (cE xs k)).drop off).take vs.length=vs):∀ j u,vs[j]? = some u->w.cell? ⟨b,k*sz+off+j,none⟩=some u:=by
 intro j u a
 rw[<-hc,yD]at a
 split at a
 . rw[Ih]at a
   rw[lW]
   exact h.Tu hb c d hk a
 . cases a
end
section
variable{r:Option Nat}{ops:Array Oper}{rest:List Oper}{n:Nat}{ds:List Deferred}
variable{ty t e:TypeId}{pos:String}{af:Array Edge}{g:Option (Nat×Bool)}{cs:Array Value}{i:Int}{len by_:Nat}{u:TypeDesc}{z:Value}
theorem aaj(d:ev n s x = .agg cs)(f:ev n s y = .int k i)(ht:P.underlying t=some (.array len e))(b:P.underlying e=some u)(c:kJ u=false)(hi:TI P e 1 by_ z)(a:0<=i/\i<(len:Int))(hv:cs[i.toNat]? = some v) :
 (execOp (ev n s) ⟨dd,.index t x y,ty,pos,af,g⟩).run P w = .ok (.value v) w:=by
 simp[execOp,d,f,Instr.index,asIntOf,run_underlying ht,a,hi.size,part,vZ b,c,hv]
theorem mO(c:gA ops n s g=true)(h:ev n s x = .agg cs)(j:ev n s y = .int k i)(ht:P.underlying t=some (.array len e))(b:P.underlying e=some u)(f:kJ u=false)(hi:TI P e 1 by_ z)(a:0<=i/\i<(len:Int))(hv:cs[i.toNat]? = some v)(K:WL r P ops Q rest (Fr n ((d,v) :: s) ds) w):WL r P ops Q (⟨some d,.index t x y,ty,pos,af,g⟩ :: rest) (Fr n s ds) w:=pw c (fun _=>aaj h j ht b f hi a hv) K
end
section
variable{ys:List α}{e:TypeId}
theorem St.aeM(h:St bs L w)(hi:L[i]? = some (cL cf v e sz ys))(o:0<ys.length) :
 ∃ b a ex,v = .slice (some ⟨b,0,none⟩) ys.length a/\ys.length<=a/\a<=maxLen/\(ys.flatMap cf++ex).length=a*sz/\St bs (L.set i (blk b e (ys.flatMap cf++ex))) w:=by
 have m:w.ownsRow 0 e sz v ys.length (ys.flatMap cf):=h.own _ (zg hi)
 rcases m.2 with ⟨_,n⟩|⟨c, a,cur,rfl,_,l,f,g,j,k⟩
 . omega
 . have e1:cur.toList=ys.flatMap cf++cur.toList.drop (ys.length*sz):=by
    rw[<-k,wA]
   refine⟨c, a,cur.toList.drop (ys.length*sz),rfl,f,g,by rw[<-e1];simpa using j,?_⟩
   refine h.iV hi (gE.refl _ _) (fun x d=>.inl (by simpa[row,Value.ownBlock,blk]using d)) (by simp[blk]) (fun x d=>?_) ?_
   . grind [blk]
   . show w.heap[c]? = some (.cells (ys.flatMap cf++cur.toList.drop (ys.length*sz)).toArray e (0,0))
     rw[<-e1]
     simpa using l
theorem St.Pe{ex:List Value}{cap:Nat}(h:St bs L w)(hi:L[i]? = some (blk b e (ys.flatMap cf++ex)))(c:∀ x:α,(cf x).length=sz)(hc:ys.length<=cap)(hm:cap<=maxLen)(a:(ys.flatMap cf++ex).length=cap*sz) :
 St bs (L.set i (cL cf (.slice (some ⟨b,0,none⟩) ys.length cap) e sz ys)) w:=by
 have:=h.UO hi a hc hm
 grind [pP]
theorem St.G6(h:St bs L w)(hi:L[i]? = some (cL cf v e sz ys))(o:∀ x:α,(cf x).length=sz)(hm:m<=ys.length):St bs (L.set i (cL cf (jL sz v 0 m) e sz (ys.take m))) w:=by
 have p:w.ownsRow 0 e sz v ys.length (ys.flatMap cf):=h.own _ (zg hi)
 have d:(ys.take m).length=m:=by rw[zw];omega
 have l:(ys.take m).flatMap cf=(ys.flatMap cf).take (m*sz):=by
  have e1:ys.flatMap cf=(ys.take m).flatMap cf++(ys.drop m).flatMap cf:=by rw[<-List.flatMap_append,wA]
  grind [pP]
 rcases p.2 with ⟨rfl,q⟩|⟨c, b,cur,rfl,_,n,r,f,g,j⟩
 . have k:m=0:=by omega
   subst k
   refine h.iV hi (gE.refl _ _) (fun x a=>.inl (by simp[row,Value.ownBlock,jL]at a)) (by simp[row,Value.ownBlock,jL]) (fun x a=>by simp[row,Value.ownBlock,jL]at a) ?_
   exact⟨s_,.inl ⟨by simp[jL],s_⟩⟩
 . have hv:jL sz (.slice (some ⟨c, 0,none⟩) ys.length b) 0 m = .slice (some ⟨c, 0,none⟩) m b:=by
    simp only[jL,EM,Nat.zero_mul,CO,Addr.add_lit,sD]
    split<;>rfl
   rw[hv]
   refine h.iV hi (gE.refl _ _) (fun x a=>.inl (by simpa[row,Value.ownBlock]using a)) (by simp[row,Value.ownBlock]) (fun x a=>?_) ?_
   . simp[row,Value.ownBlock]at a
     grind
   . refine⟨by rw[pP o],.inr ⟨c, b,cur,by rw[d],ko _,n,by rw[d];omega,f,g,?_⟩⟩
     rw[d,l,<-j,List.take_take,uz (AS _ hm)]
end
section
variable[Inhabited α]{L':List fJ}{ys:List α}{k off:Nat}{u:Value}{e:TypeId}{f:α->α}
variable{r:Option Nat}{ops:Array Oper}{rest l:List Oper}{n:Nat}{s0:List (Nat×Value)}{ds:List Deferred}{Nx:Value->World->Prop}
variable{ty t:TypeId}{pos:String}{af:Array Edge}{g:Option (Nat×Bool)}{szt by_:Nat}{z:Value}
theorem afN(i:Nat)(C:ev n s x=j8 sz v k off)(E:ev n s y=u)(hvs:u.cells.toList=vs)(ht:TI P t szt by_ z)(B:vs.length=szt)(h1:vs.all (·.oneCell')=true)(A:St bs L w)(hi:L[i]? = some (cL cf v e sz ys))(a:∀ x:α,(cf x).length=sz)(hk:k<ys.length)(c:Nat.ble (off+vs.length) sz=true)(l:cf (f (cE ys k))=setAt (cf (cE ys k)) off vs)(h:L.set i (cL cf v e sz (cO ys k f))=L') :
 ∃ w', (execOp (ev n s) ⟨dd,.store t x y,ty,pos,af,g⟩).run P w = .ok .skip w' /\ St bs L' w' := by
 have c:=qV c
 have d:=(zp.1 hi).1
 obtain⟨b,cap,ex,rfl,j,hm,o,hs⟩:=A.aeM hi o_
 have D : ev n s x = .pointer (some ⟨b,k*sz+off,none⟩):=by rw[C];simp[j8]
 have m:=LK a hk (n:=vs.length) c
 have hb:(L.set i (blk b e (ys.flatMap cf++ex)))[i]? = some (blk b e (ys.flatMap cf++ex)):=by simp[d]
 obtain⟨w', q,r, _⟩:=TX (dd:=dd) (ty:=ty) (pos:=pos) (af:=af) (g:=g) (cs' := (cO ys k f).flatMap cf++ex) i D E hvs ht B h1 hs hb (by rw[zk];omega) (by rw[Me m,G3 a hk l c]) rfl
 refine⟨w', q,?_⟩
 have p : ((cO ys k f).flatMap cf++ex).length=cap*sz:=by rw[<-o,zk,zk,pP a,pP a,gd]
 have:=r.Pe (ys:=cO ys k f) (ex:=ex) (cap:=cap) (i:=i) (b:=b) (e:=e) (by simp[d]) a (by rw[gd];exact j) hm p
 subst h
 simpa[gd]using this
theorem afM(i:Nat)(h:gA ops n s g=true)(p:ev n s x=j8 sz v k off)(q:ev n s y=u)(hvs:u.cells.toList=vs)(ht:TI P t szt by_ z)(o:vs.length=szt)(h1:vs.all (·.oneCell')=true)(m:St bs L w)(hi:L[i]? = some (cL cf v e sz ys))(j:∀ x:α,(cf x).length=sz)(hk:k<ys.length)(l:Nat.ble (off+vs.length) sz=true)(d:cf (f (cE ys k))=setAt (cf (cE ys k)) off vs)(c:L.set i (cL cf v e sz (cO ys k f))=L')(K:∀ w', St bs L' w' -> WL r P ops Q rest (Fr n s ds) w'):WL r P ops Q (⟨none,.store t x y,ty,pos,af,g⟩ :: rest) (Fr n s ds) w:=by
 obtain⟨w', a,b⟩:=afN (dd:=none) (ty:=ty) (pos:=pos) (af:=af) (g:=g) i p q hvs ht o h1 m hi j hk l d c
 exact Ek h rfl a (K w' b)
end
section
def gO(cf:α->List Value)(T:TypeId)(B:Nat)(ps:List (Option Nat))(xs:List α):fJ where
 gq:=ps.filterMap id
 holds w:=∀ (j b:Nat),ps[j]? = some (some b)->w.heap[b]? = some (.cells (((xs.drop (B*j)).take B).flatMap cf).toArray T (0,0))
 loc w w' h hh j b hb:=by
  rw[h b (List.mem_filterMap.2 ⟨some b,zg hb,rfl⟩)]
  exact hh j b hb
def iT(p:Option Nat):List Value:=[.pointer (p.map fun b=>⟨b,0,none⟩)]
variable[Inhabited α]{B:Nat}{C:List α}{k off j:Nat}{f:α->α}{ps:List (Option Nat)}
theorem mem_some{ps:List (Option Nat)}{j b:Nat}(h:ps[j]? = some (some b)):b∈ps.filterMap id:=List.mem_filterMap.2 ⟨some b,zg h,rfl⟩
theorem JJ(a:0<B)(hk:k<xs.length):cE ((xs.drop (B*(k / B))).take B) (k%B)=cE xs k/\k%B<((xs.drop (B*(k / B))).take B).length:=by
 have b:=AZ k a
 have c:=Nat.div_add_mod k B
 constructor
 . grind [cE]
 . grind
theorem St.Xe(h:St bs L w)(hi:L[i]? = some (gO cf T B ps xs))(f:∀ x:α,(cf x).length=sz)(d:0<B)(hk:k<xs.length)(hp:ps[k / B]? = some (some b))(hc:(cf (cE xs k))[off]? = some v):w.cell? ⟨b,k%B*sz+off,none⟩=some v:=by
 have e:=h.own _ (zg hi) _ _ hp
 rw[cell_of_row w b _ _ T (0,0) e]
 obtain⟨a,c⟩:=JJ d hk
 have:=vL f _ (k%B) off _ v (fW c) (by rw[a];exact hc)
 simpa using this
theorem Xj(a:0<B)(hk:k<xs.length):((cO xs k f).drop (B*(k / B))).take B=cO ((xs.drop (B*(k / B))).take B) (k%B) f:=by
 obtain⟨b,c⟩:=JJ a hk
 have d:=AZ k a
 have e:=Nat.div_add_mod k B
 unfold cO
 rw[b,List.drop_set,if_neg o_,List.take_set]
 congr 1
 omega
theorem Xi(a:0<B){j:Nat}(d:j≠k / B):((cO xs k f).drop (B*j)).take B=(xs.drop (B*j)).take B:=by
 have b:=AZ k a
 have c:=Nat.div_add_mod k B
 unfold cO
 rw[List.drop_set]
 split
 . rfl
 . rename_i e
   rw[List.take_set_of_le]
   rcases CT j (k / B)with h|h
   . have:B*(j+1)<=B*(k / B):=CH _ h
     rw[Nat.mul_add]at this
     omega
   . have:B*(k / B+1)<=B*j:=CH _ o_
     rw[Nat.mul_add]at this
     omega
end
section
variable[Inhabited α]{B:Nat}{L':List fJ}{C:List α}{k off j:Nat}{u:Value}{f:α->α}{ps:List (Option Nat)}
variable{r:Option Nat}{ops:Array Oper}{rest l:List Oper}{n:Nat}{s0:List (Nat×Value)}{ds:List Deferred}{Nx:Value->World->Prop}
variable{ty t:TypeId}{pos:String}{af:Array Edge}{g:Option (Nat×Bool)}{szt by_:Nat}{z:Value}
theorem afL(i:Nat)(a:ev n s x = .pointer (some ⟨b,k%B*sz+off,none⟩))(V:ev n s y=u)(hvs:u.cells.toList=vs)(ht:TI P t szt by_ z)(U:vs.length=szt)(h1:vs.all (·.oneCell')=true)(l:St bs L w)(hi:L[i]? = some (gO cf T B ps xs))(D:∀ x:α,(cf x).length=sz)(o:0<B)(hk:k<xs.length)(hp:ps[k / B]? = some (some b))(d:Nat.ble (off+vs.length) sz=true)(K:cf (f (cE xs k))=setAt (cf (cE xs k)) off vs)(I:L.set i (gO cf T B ps (cO xs k f))=L') :
 ∃ w', (execOp (ev n s) ⟨dd,.store t x y,ty,pos,af,g⟩).run P w = .ok .skip w' /\ St bs L' w' := by
 have d:=qV d
 obtain⟨A,m⟩:=JJ (xs:=xs) o hk
 have F:=l.own _ (zg hi)
 have v:=F _ _ hp
 obtain⟨ch,C⟩:∃ ch,ch=(xs.drop (B*(k / B))).take B:=⟨_,rfl⟩
 rw[<-C]at A m v
 have M:=LK D m (n:=vs.length) d
 have G:=run_storeCells_at P b (k%B*sz+off) T vs 0 (ch.flatMap cf).toArray w v (by simpa using M) (by simpa using h1)
 have O:u.cells.size=szt:=by rw[<-U,<-hvs];simp
 have S:setAt (ch.flatMap cf) (k%B*sz+off) vs=(cO ch (k%B) f).flatMap cf:=G3 D m (by rw[A];exact K) d
 have N:∀ x∈(gO cf T B ps xs).gq,x<w.heap.size:=fun x a=>l.lt x (tc hi a)
 have E:(ps.filterMap id).Nodup:=sublist_nodup' l.sep (zg hi)
 refine⟨w.setRow b ((setAt (ch.flatMap cf) (k%B*sz+off) vs).toArray),?_,?_⟩
 . simp only[execOp,a,V,Instr.storeAt,Instr.sureAddr,storeVar,zt,kn,zn,ht.size,O,ne_eq,not_true,if_false,hvs]
   simp only[sD]at G
   simp[G,setAt]
 . subst I
   refine l.iV hi ((gE.setRow w b _).mono (fun x a=>?_)) (fun c r=>.inl r) E (fun c r=>?_) ?_
   . simp only[z8]at a
     subst a
     exact mem_some hp
   . have:=N c r
     simpa using this
   . intro q c e
     by_cases hqk:q=k / B
     . subst hqk
       rw[hp]at e
       cases e
       rw[Xj o hk,<-C,<-S]
       exact setRow_heap w b (ch.flatMap cf).toArray _ T (0,0) v
     . rw[Xi o hqk]
       have Q:c≠b:=by
        intro e'
        subst e'
        exact hqk (some_inj E e hp)
       have H:(w.setRow b ((setAt (ch.flatMap cf) (k%B*sz+off) vs).toArray)).heap[c]? = w.heap[c]? := setRow_other w b c _ Q
       rw[H]
       exact F q c e
where
 sublist_nodup' {L:List fJ} {R:fJ} (h:(jb L).Nodup) (J:R∈L):R.gq.Nodup:=Hs h J
 some_inj {ps:List (Option Nat)} {b:Nat}:∀ {i j:Nat},(ps.filterMap id).Nodup->ps[i]? = some (some b)->ps[j]? = some (some b)->i=j:=by
  induction ps with
  | nil=>intro i j _ h;simp at h
  | cons p ps W =>
   grind
theorem r9(i:Nat)(j:gA ops n s g=true)(q:ev n s x = .pointer (some ⟨b,k%B*sz+off,none⟩))(v:ev n s y=u)(hvs:u.cells.toList=vs)(ht:TI P t szt by_ z)(p:vs.length=szt)(h1:vs.all (·.oneCell')=true)(o:St bs L w)(hi:L[i]? = some (gO cf T B ps xs))(l:∀ x:α,(cf x).length=sz)(d:0<B)(hk:k<xs.length)(hp:ps[k / B]? = some (some b))(m:Nat.ble (off+vs.length) sz=true)(h:cf (f (cE xs k))=setAt (cf (cE xs k)) off vs)(e:L.set i (gO cf T B ps (cO xs k f))=L')(K:∀ w', St bs L' w' -> WL r P ops Q rest (Fr n s ds) w'):WL r P ops Q (⟨none,.store t x y,ty,pos,af,g⟩ :: rest) (Fr n s ds) w:=by
 obtain⟨w', a,c⟩:=afL (dd:=none) (ty:=ty) (pos:=pos) (af:=af) (g:=g) i q v hvs ht p h1 o hi l d hk hp m h e
 exact Ek j rfl a (K w' c)
end
section
variable{B:Nat}{C:List α}{j:Nat}{ps:List (Option Nat)}
theorem St.Q9{R a:fJ}(h:St bs (R :: R' :: L) w)(f:a.gq.Perm (R.gq++R'.gq))(e:R.holds w->R'.holds w->a.holds w):St bs (a :: L) w:=by
 have hp:(jb (a :: L)).Perm (jb (R :: R' :: L)):=by
  grind [nO]
 refine⟨fun p d => ⟨(h.base p d).gf,fun b hb=>(h.base p d).mine b (hp.mem_iff.1 hb)⟩,fun Q c=>?_,hp.nodup_iff.2 h.sep,fun b hb=>h.lt b (hp.mem_iff.1 hb)⟩
 rcases ze.1 c with rfl|c
 . exact e (h.own R s_) (h.own R' s_)
 . exact h.own Q (by simp[c])
theorem adg{ps:List (Option Nat)}{b:Nat}:∀ {j:Nat},ps[j]? = some none->((ps.set j (some b)).filterMap id).Perm (b :: ps.filterMap id):=by
 induction ps with
 | nil=>intro j h;simp at h
 | cons p ps a =>
  intro j h
  cases j with
  | zero =>
   simp at h
   subst h
   simp
  | succ j =>
   grind
theorem St.PG(h:St bs (blk b T cs :: gO cf T B ps xs :: L) w)(d:ps[j]? = some none)(g:cs=((xs.drop (B*j)).take B).flatMap cf):St bs (gO cf T B (ps.set j (some b)) xs :: L) w:=by
 have i:=(zp.1 d).1
 refine h.Q9 (by simpa[gO,blk]using adg d) fun e f q c a=>?_
 rw[wD]at a
 split at a
 . rename_i e'
   subst e'
   cases a
   rw[<-g]
   exact e
 . exact f q c a
theorem St.PI(h:St bs (blk b T cs :: gO cf T B ps xs :: L) w)(j:xs.length=B*ps.length)(l:C.length=B)(f:cs=C.flatMap cf):St bs (gO cf T B (ps++[some b]) (xs++C) :: L) w:=by
 refine h.Q9 (by simp only[gO,blk,Nu];exact qx) fun d e q c a=>?_
 rw[Ie]at a
 split at a
 . rename_i g
   have:B*(q+1)<=B*ps.length:=CH _ g
   rw[Nat.mul_add]at this
   rw[List.drop_append_of_le_length o_,Np (by rw[CM];omega)]
   exact e q c a
 . rename_i k
   have i : q=ps.length:=by
    grind
   subst i
   simp at a
   subst a
   rw[<-j,List.drop_left,AP o_,<-f]
   exact d
theorem St.FP(h:St bs L w)(m:Nat):St bs (gO cf T B (List.replicate m none) xs :: L) w:=by
 refine h.add (lo:=w.heap.size) (fun p hp=>(h.base p hp).gf.size) h.lt (fun b hb=>?_) ?_ (fun b hb=>?_) ?_
 . simp[gO]at hb
 . simp[gO]
 . simp[gO]at hb
 . intro j b hb
   grind
end
section
variable{z0:α}
theorem abW{sz:Nat}(k:v.cells.toList=cf z0)(a:∀ x:α,(cf x).length=sz)(f:0<sz)(c:Nat):madeCells v.cells (c*sz)=((List.replicate c z0).flatMap cf).toArray:=by
 have l:v.cells.size=sz:=by rw[<-ux,k,a]
 apply Array.ext'
 apply mS
 intro i
 by_cases hi:i<c*sz
 . have b:i / sz<c:=(zdt f).2 hi
   have d:i%sz<(cf z0).length:=by rw[a];exact AZ _ f
   obtain⟨u,j⟩:=oT d
   have e:=vL a (List.replicate c z0) (i / sz) (i%sz) z0 u (by rw[sw,if_pos b]) j
   rw[CN]at e
   have g:v.cells[i%v.cells.size]! = u:=by
    grind
   have h:(madeCells v.cells (c*sz)).toList[i]? = some (v.cells[i%v.cells.size]!):=by simp[madeCells,hi]
   rw[h,g]
   simpa using e.symm
 . have b:(madeCells v.cells (c*sz)).toList[i]? = none:=by rw[nW];simp[madeCells];omega
   have d:((List.replicate c z0).flatMap cf).length=c*sz:=by rw[pP a,oK]
   grind
end
section
variable{z0:α}
variable{r:Option Nat}{ops:Array Oper}{rest l:List Oper}{n:Nat}{s0:List (Nat×Value)}{ds:List Deferred}{Nx:Value->World->Prop}
variable{ty t e:TypeId}{pos:String}{af:Array Edge}{g:Option (Nat×Bool)}{by_:Nat}{z:Value}
theorem acf{c:Nat}(o:ev n s x = .int k (m:Int))(p:ev n s y = .int k' (c:Int))(ht:P.underlying t=some (.slice e))(hi:TI P e sz by_ z)(q:z.cells.toList=cf z0)(j:∀ x:α,(cf x).length=sz)(l:0<sz)(hm:m<=c)(hb:by_*c<=281474976710656)(r:c<=9223372036854775807) :
 (execOp (ev n s) ⟨dd,.makeSlice t x y,ty,pos,af,g⟩).run P w = .ok (.value (.slice (some ⟨w.heap.size,0,none⟩) m c)) (w.alloc (.cells ((List.replicate c z0).flatMap cf).toArray e)):=by
 obtain⟨i,h,b,d,f⟩:=hi.get
 subst d
 have a:=run_make (P:=P) w t e i z ht h f k k' m c o_ o_ (by rw[<-Int.natCast_mul];omega) o_
 simp only[nX,b]at a
 rw[abW q j l]at a
 simp only[execOp,o,p,zt,a,zn,kn]
theorem kA{c:Nat}(f:gA ops n s g=true)(l:ev n s x = .int k (m:Int))(o:ev n s y = .int k' (c:Int))(ht:P.underlying t=some (.slice e))(hi:TI P e sz by_ z)(p:z.cells.toList=cf z0)(h:∀ x:α,(cf x).length=sz)(j:0<sz)(hm:m<=c)(hb:by_*c<=281474976710656)(a:c<=9223372036854775807)(i:St bs L w)(K:∀ b w', w.heap.size<=b->gE [] w w' -> St bs (blk b e ((List.replicate c z0).flatMap cf) :: L) w' -> WL r P ops Q rest (Fr n ((d,.slice (some ⟨b,0,none⟩) m c) :: s) ds) w') :
 WL r P ops Q (⟨some d,.makeSlice t x y,ty,pos,af,g⟩ :: rest) (Fr n s ds) w :=
 pv f rfl (acf l o ht hi p h j hm hb a) (K _ _ (zh _) (gE.alloc [] w _) (GR i e _))
theorem St.Jr{c m i:Nat}(h:St bs L w)(hi:L[i]? = some (blk b e ((List.replicate c z0).flatMap cf)))(a:∀ x:α,(cf x).length=sz)(hm:m<=c)(hc:c<=maxLen):St bs (L.set i (cL cf (.slice (some ⟨b,0,none⟩) m c) e sz (List.replicate m z0))) w:=by
 have e1:(List.replicate c z0).flatMap cf=(List.replicate m z0).flatMap cf++(List.replicate (c-m) z0).flatMap cf:=by
  rw[<-List.flatMap_append,List.replicate_append_replicate]
  congr 2
  omega
 rw[e1]at hi
 have:=h.Pe (cf:=cf) (ys:=List.replicate m z0) (cap:=c) hi a (by simpa using hm) hc (by rw[<-e1,pP a,oK])
 simpa using this
end
theorem St.made{w':World}{bs:List (World×List Nat)}{L:List fJ}{R:fJ}(h:St bs L w)(ht:fP (fN []) w w' R):St bs (R :: L) w' :=
 h.tS (by simpa[fN,jb]using ht.gf) (fun b hb=>(ht.place b hb).elim (fun h=>by simp[fN,jb]at h) id) ht.nodup ht.lt ht.holds
theorem St.Qj{w':World}{bs:List (World×List Nat)}{L:List fJ}{R:fJ}(h:St bs (R :: L) w')(hb:(w,[])∈bs):fP (fN []) w w' R:=h.DD (R:=fN []) hb
theorem B9{e:Option Nat}(h:e=some b):Value.pointer (e.map fun b=>(⟨b,0,none⟩:Addr)) = .pointer (some ⟨b,0,none⟩):=by rw[h];rfl
def vT:Value->Bool
 | .slice none _ _=>true
 | _=>false
section
variable{r:Option Nat}{ops:Array Oper}{rest:List Oper}{n:Nat}{ds:List Deferred}{ty t t' e:TypeId}{pos:String}{af:Array Edge}{g:Option (Nat×Bool)}
theorem BJ{α:Type}{sz:Nat}{enc:World->α->List Value->Prop}{ys:List α}(f:gA ops n s g=true)(h:ev n s x=v)(i:ev n s y = .slice none 0 0)(ht:P.underlying t=some (.slice e))(b:Sl sz enc ok w0 v ys)(K:WL r P ops Q rest (Fr n ((d,.bool (vT v)) :: s) ds) w):WL r P ops Q (⟨some d,.binOp .eql t x y t', ty,pos,af,g⟩ :: rest) (Fr n s ds) w:=by
 obtain⟨a,c,rfl,_⟩:=b
 have:vT (.slice a ys.length c)=a.isNone:=by cases a<;>rfl
 rw[this]at K
 exact Yz f h i ht K
theorem B4{α:Type}{sz:Nat}{enc:World->α->List Value->Prop}{ys:List α}(h:vT v=true)(e:Sl sz enc ok w0 v ys):ys=[]:=by
 obtain⟨a,c,rfl,g,i,d⟩:=e
 cases ys with
 | nil=>rfl
 | cons y ys =>
  obtain⟨b,o,vs,f,_⟩:=d 0 y rfl
  subst f
  cases h
theorem pY.B3{α:Type}{sz:Nat}{cf:α->List Value}{e:TypeId}:pY sz cf w w' (.slice none 0 0) e ([]:List α):=⟨⟨s_,.inl ⟨rfl,rfl⟩⟩,fun b hb=>by simp[Value.ownBlock]at hb⟩
end
section
variable{j B:Nat}{ps:List (Option Nat)}
theorem St.PF(h:St bs L w)(hi:L[i]? = some (gO cf T B ps xs))(hp:ps[j]? = some (some b)):∀ q u,(((xs.drop (B*j)).take B).flatMap cf)[q]? = some u->w.cell? ⟨b,0+q,none⟩=some u:=by
 intro q u c
 have a:=h.own _ (zg hi) _ _ hp
 rw[cell_of_row w b _ _ T (0,0) a]
 simpa using c
theorem PM{sz:Nat}(b:∀ x:α,(cf x).length=sz)(c:xs.length=B*ps.length)(a:j<ps.length):(((xs.drop (B*j)).take B).flatMap cf).length=B*sz:=by
 rw[pP b,zw,CM]
 have:B*(j+1)<=B*ps.length:=CH _ a
 grind
theorem TH(h:vs.length=cs.length):setAt cs 0 vs=vs:=by
 grind [setAt]
end
theorem xd{α:Type}{cf:α->List Value}(h:∀ a,(cf a).all (·.oneCell')=true)(xs:List α):∀ x∈xs.flatMap cf,x.oneCell' = true:=by
 grind
structure rC (ps qs:List (Option Nat)) (k:Nat):Prop where
 len:qs.length=ps.length
 rest:∀ j,k<=j->j<ps.length->qs[j]? = some none
 done:∀ j,j<k->qs[j]? = some none->ps[j]? = some none
theorem rC.start(ps:List (Option Nat)):rC ps (List.replicate ps.length none) 0 :=
 ⟨s_,fun j _ a=>by rw[sw,if_pos a],fun j a=>absurd a o_⟩
theorem rC.skip{ps b:List (Option Nat)}{k:Nat}(h:rC ps b k)(hk:ps[k]? = some none):rC ps b (k+1) :=
 ⟨h.len,fun j c a=>h.rest j o_ a,fun j c a=>by
  by_cases e:j=k
  . subst e;exact hk
  . exact h.done j o_ a⟩
theorem rC.set{ps c:List (Option Nat)}{k:Nat}(h:rC ps c k)(hk:k<ps.length):rC ps (cO c k (fun _=>some b)) (k+1):=by
 have f:=h.len
 refine⟨by rw[gd];exact f,fun j d a=>?_,fun j d a=>?_⟩
 . unfold cO
   rw[List.getElem?_set_ne o_]
   exact h.rest j o_ a
 . unfold cO at a
   by_cases e:k=j
   . grind
   . rw[List.getElem?_set_ne e]at a
     exact h.done j o_ a
theorem rC.next{ps a:List (Option Nat)}{k:Nat}(h:rC ps a k)(hk:k<ps.length):a[k]? = some none:=h.rest k (zh _) hk
def lC(p:Prop)(R:fJ):fJ where
 gq:=R.gq
 holds w:=p/\R.holds w
 loc w w' h hh:=⟨hh.1,R.loc w w' h hh.2⟩
section
variable{R:fJ}{p p':Prop}
theorem Own.fact(h:Own (lC p R) w):p:=h.holds.1
theorem Own.un(h:Own (lC p R) w):Own R w:=⟨h.holds.2,h.nodup,h.lt⟩
theorem fP.qS(h:fP R w w' R')(hp:p'):fP (lC p R) w w' (lC p' R'):=⟨⟨hp,h.holds⟩,h.gf,h.place,h.nodup,h.lt⟩
theorem fP.M7(h:fP R w w' R')(hp:p'):fP R w w' (lC p' R'):=⟨⟨hp,h.holds⟩,h.gf,h.place,h.nodup,h.lt⟩
theorem fP.M0(h:fP R w w' R'):fP (lC p R) w w' R' := ⟨h.holds,h.gf,h.place,h.nodup,h.lt⟩
theorem St.un(h:St bs (lC p R :: L) w):St bs (R :: L) w :=
 ⟨fun q b=>⟨(h.base q b).gf,(h.base q b).mine⟩,fun Q a=>by
  rcases ze.1 a with rfl|a
  . exact(h.own (lC p Q) s_).2
  . exact h.own Q (by simp[a]),h.sep,h.lt⟩
theorem St.qS(h:St bs (R :: L) w)(hp:p):St bs (lC p R :: L) w :=
 ⟨fun q b=>⟨(h.base q b).gf,(h.base q b).mine⟩,fun Q a=>by
  rcases ze.1 a with rfl|a
  . exact⟨hp,h.own R s_⟩
  . exact h.own Q (by simp[a]),h.sep,h.lt⟩
theorem St.fact(h:St bs (lC p R :: L) w):p:=(h.own (lC p R) s_).1
theorem St.YL(h:St bs L w)(hi:L[i]? = some (lC p R)):p:=(h.own (lC p R) (zg hi)).1
theorem Own.of{L:List fJ}(h:Own (fN L) w):St [(w,(fN L).gq)] L w:=by
 have a:=(St.Kx h).unpack
 rwa [sC]at a
theorem St.Yq(h:St bs L w')(hb:(w,R.gq)∈bs):fP R w w' (fN L):=by
 have a:St bs (L++[]) w' := by rwa [sC]
 exact(St.pack L [] a).DD hb
theorem fP.F8{A B:List fJ}(h:fP R w w' (fN (A++B))):fP R w w' (fN [fN A,fN B]):=by
 have c:(fN [fN A,fN B]).gq=(fN (A++B)).gq:=by simp[fN,jb]
 refine⟨fun Q d=>?_,h.gf,fun b hb=>h.place b (c▸hb),c▸h.nodup,fun b hb=>h.lt b (c▸hb)⟩
 simp only[ze,pn,or_false]at d
 rcases d with rfl|rfl
 . exact fun S a=>h.holds S (sj _ a)
 . exact fun S a=>h.holds S (yC _ a)
theorem fP.GF{a:fJ}(h:fP R w w' R')(c:a.gq=R'.gq)(d:R'.holds w' -> a.holds w'):fP R w w' a :=
 ⟨d h.holds,h.gf,fun b hb=>h.place b (c▸hb),c▸h.nodup,fun b hb=>h.lt b (c▸hb)⟩
end
def D1(L:List fJ):List Nat->List fJ
 | []=>[]
 | i :: r=>match L[i]? with
  | some x=>x :: D1 L r
  | none=>D1 L r
theorem TF(L:List fJ):∀ ix,D1 L ix=ix.filterMap fun i=>L[i]?
 | []=>rfl
 | i :: r=>by
  simp only[D1,EF]
  cases L[i]? <;> simp[TF L r]
theorem ae8(L:List fJ):(List.range L.length).filterMap (fun i=>L[i]?)=L:=by
 apply mS
 intro j
 have h:∀ (n:Nat),n<=L.length->(List.range n).filterMap (fun i=>L[i]?)=L.take n:=by
  intro n
  induction n with
  | zero=>intro _;rfl
  | succ n a =>
   intro b
   rw[rA,Nu,a o_,nY]
   simp only[EF,List.filterMap_nil]
   cases L[n]? <;> simp
 rw[h _ (zh _),sB]
theorem Ma(L:List fJ):∀ ix:List Nat,(ix.filter fun i=>decide (i<L.length)).filterMap (fun i=>L[i]?)=ix.filterMap fun i=>L[i]?
 | []=>rfl
 | i :: r=>by
  by_cases h:i<L.length
  . rw[Ia (by simpa using h),EF,EF,Ma L r]
  . rw[List.filter_cons_of_neg (by simpa using h),EF,Ma L r,nW o_]
theorem St.re{w:World}(S:List Nat)(h:St bs L w)(f:S.Nodup:=by decide):St bs (D1 L S) w:=by
 have hp:((S.filter fun i=>decide (i<L.length))++((List.range L.length).filter fun i=>decide (i∉S))).Perm (List.range L.length):=by
  rw[List.perm_ext_iff_of_nodup]
  . intro a
    simp only[zj,z7,lV,decide_eq_true_eq]
    by_cases c:a∈S<;>simp[c]
  . rw[zo]
    refine⟨f.sublist pe,uy.sublist pe,fun a c b hb e=>?_⟩
    subst e
    simp only[z7,decide_eq_true_eq]at c hb
    exact hb.2 c.1
  . exact uy
 have d:=hp.filterMap fun i=>L[i]?
 rw[ae8,Nu,Ma,<-TF]at d
 exact(h.perm d.symm).sub (vp _ _)
end Go.Sx
namespace Go.Ex
open Go
variable{m:Nat}{Q:Exit->Act->World->Prop}
variable{P:Program}{w:World}
theorem ae4{F:Fence}{c:Code}{a:Act}(h:c.wpIn F m P (fun e a w=>(∀ l,e ≠ .goto l)/\Q e a w) a w):(Code.scope c).wpIn F m P Q a w:=by
 intro b k cs s hb o
 have d:(lone (b.atR a (.code (.scope c) :: k)) cs w).fenced P F:=fenced_calm hb o rfl
 have s0:Go.step P (lone (b.atR a (.code (.scope c) :: k)) cs w) = .next (lone (b.atR a (.code c :: .inScope c :: k)) cs w):=step_lone_go (by simp[stepG,stepG.exec,Frame.atR])
 have s1:∀ a w,Go.step P (lone (b.atR a (.inScope c :: k)) cs w) = .next (lone (b.atR a k) cs w):=fun a w=>step_lone_go (by simp[stepG,stepG.exec,Frame.atR])
 obtain⟨e,g,j,⟨q,i⟩,f⟩:=h b (.inScope c :: k) cs s hb o
 cases e with
 | normal=>exact⟨.normal,g,j,i,.head d s0 (StepsIn.trans f (.one (fenced_calm hb o rfl) (s1 _ _)))⟩
 | exit id =>
  have p:exitTo id (.inScope c :: k)=exitTo id k:=by simp[exitTo]
  exact⟨.exit id,g,j,i,fun k' n=>.head d s0 (f.1 k' (by rw[p];exact n)),
   fun r n=>let ⟨k₁,h1,h2⟩:=f.2 r (by rw[p];exact n);⟨k₁,h1,.head d s0 h2⟩⟩
 | goto l=>exact absurd rfl (q l)
 | ret=>exact⟨_,g,j,i,.of_steps (.one d s0) f⟩
 | panic ch=>exact⟨_,g,j,i,.of_steps (.one d s0) f⟩
 | outgrown=>exact⟨_,g,j,i,.of_steps (.one d s0) f⟩
end Go.Ex
namespace Go.Sx
open Go
def vU(Q:Exit->Act->World->Prop):Exit->Act->World->Prop:=fun e a w=>(∀ l,e ≠ .goto l)/\Q e a w
variable{r:Option Nat}{P:Program}{Q:Exit->Act->World->Prop}{c:Code}{a:Act}{w:World}{id:Nat}
theorem scp(h:WP r P c (vU Q) a w):WP r P (.scope c) Q a w:=Go.Ex.ae4 h
theorem L7(h:Q .normal a w):vU Q .normal a w:=⟨fun _ e=>(by cases e),h⟩
theorem L9(h:Q (.exit id) a w):vU Q (.exit id) a w:=⟨fun _ e=>(by cases e),h⟩
theorem L8(h:Q .ret a w):vU Q .ret a w:=⟨fun _ e=>(by cases e),h⟩
theorem KK{l:Nat}(h:Q .normal a w):WP r P (.label l) Q a w:=wpIn_label h
class NP (Q:Exit->Act->World->Prop):Prop where
 np:∀ c a w,¬ Q (.panic c) a w
 no:∀ a w,¬ Q .outgrown a w
instance NP.thn {K:Act->World->Prop} {Q:Exit->Act->World->Prop} [h:NP Q]:NP (Exit.then K Q):=⟨fun c a w=>h.np c a w,fun a w=>h.no a w⟩
instance NP.blk {i:Nat} {Q:Exit->Act->World->Prop} [h:NP Q]:NP (Exit.inBlock i Q):=⟨fun c a w=>h.np c a w,fun a w=>h.no a w⟩
instance NP.scp {Q:Exit->Act->World->Prop} [h:NP Q]:NP (vU Q):=⟨fun c a w x=>h.np c a w x.2,fun a w x=>h.no a w x.2⟩
instance NP.tq {P:Program} {l:Nat} {R:Ending->World->Prop}:NP (roundPost P l R):=⟨fun _ _ _ h=>h,fun _ _ h=>h⟩
instance NP.fls:NP (fun _ _ _=>False):=⟨fun _ _ _ h=>h,fun _ _ h=>h⟩
instance NP.bdy {P:Program} {fn:Func} {R:Value->World->Prop}:NP (bodyPost P fn (fun e w' => ∃ v,e = .returned v/\R v w')) where
 np c a w x:=by
  have x:a.defers=[]/\∃ v,Ending.panicked c = .returned v/\R v w:=x
  obtain⟨_,v,h,_⟩:=x
  cases h
 no a w x:=by
  have x:∃ v,Ending.outgrown = .returned v/\R v w:=x
  obtain⟨v,h,_⟩:=x
  cases h
variable{ops:Array Oper}{o x y:Oper}{K K':Act->World->Prop}{v u:Value}
def wn(ops:Array Oper)(o:Oper)(a:Act):Bool:=Region.wanted o (yielded ops a.tmps)
def iG(r:Option Nat)(P:Program)(ops:Array Oper)(Q:Exit->Act->World->Prop)(o:Oper)(K:Act->World->Prop)(a:Act)(w:World):Prop :=
 if wn ops o a=true then kQ r P Q o K a w else K (a.put o.dst undef) w
theorem M8{rest:List Oper}:wl r P ops Q (o :: rest) a w=iG r P ops Q o (wl r P ops Q rest) a w:=rfl
theorem iG.mono(h:∀ a w,K a w->K' a w)(b:iG r P ops Q o K a w):iG r P ops Q o K' a w:=by
 unfold iG at *
 split<;>rename_i c
 . rw[if_pos c]at b;exact b.mono h
 . rw[if_neg c]at b;exact h _ _ b
def Y0(P:Program)(ops:Array Oper)(o:Oper)(v:Value)(a:Act):Prop:=(wn ops o a=true/\cat o.op=0/\∀ w,(execOp a.eval o).run P w = .ok (.value v) w)\/(wn ops o a=false/\v=undef)
def Y1(P:Program)(ops:Array Oper)(o:Oper)(v:Value)(a:Act)(w:World):Prop:=wn ops o a=true/\cat o.op=1/\(execOp a.eval o).run P w = .ok (.value v) w
theorem iG.get(hc:cat o.op=0\/cat o.op=1)(h:iG r P ops Q o K a w):∃ v,(Y0 P ops o v a\/Y1 P ops o v a w)/\K (a.put o.dst v) w:=by
 unfold iG at h
 cases hw:wn ops o a with
 | false=>rw[if_neg (by rw[hw];decide)]at h;exact⟨undef,.inl (.inr ⟨hw,rfl⟩),h⟩
 | true =>
  rw[if_pos hw]at h
  unfold kQ at h
  rcases hc with hc|hc<;>rw[hc]at h<;>obtain⟨v,b,c⟩:=h
  . exact⟨v,.inl (.inl ⟨hw,hc,b⟩),c⟩
  . exact⟨v,.inr ⟨hw,hc,b⟩,c⟩
theorem iG.mk(h:Y0 P ops o v a\/Y1 P ops o v a w)(k:K (a.put o.dst v) w):iG r P ops Q o K a w:=by
 unfold iG
 rcases h with (⟨b,c,h⟩|⟨b,rfl⟩)|⟨b,c,h⟩
 . rw[if_pos b];unfold kQ;rw[c];exact⟨v,h,k⟩
 . rw[if_neg (by rw[b];decide)];exact k
 . rw[if_pos b];unfold kQ;rw[c];exact⟨v,h,k⟩
theorem Y0.w5(i:Y0 P ops o v a)(h:iG r P ops Q o K a w):K (a.put o.dst v) w:=by
 unfold iG at h
 rcases i with ⟨b,g,c⟩|⟨b,rfl⟩
 . rw[if_pos b]at h
   unfold kQ at h
   rw[g]at h
   obtain⟨u,d,f⟩:=h
   have e:=(c w).symm.trans (d w)
   simp only[Result.ok.injEq,Next.value.injEq,and_true]at e
   rw[e];exact f
 . rw[if_neg (by rw[b];decide)]at h;exact h
def rW:Op->Bool
 | .select _ _=>false
 | _=>true
theorem Ln{a:Op}(h:rW a=true):∀ cs b,a ≠ .select cs b:=by intro cs b e;subst e;cases h
structure Ap (ops:Array Oper) (x y:Oper):Prop where
 xy:∀ d,x.dst=some d->d∉y.looksAt ops
 ne:∀ d,x.dst=some d->y.dst≠some d
 yx:∀ d,y.dst=some d->d∉x.looksAt ops
 sx:rW x.op=true
 sy:rW y.op=true
 dx:ru x.op=true
 dy:ru y.op=true
theorem Ap.symm(h:Ap ops x y):Ap ops y x:=⟨h.yx,fun d hd e=>h.ne d e hd,h.xy,h.sy,h.sx,h.dy,h.dx⟩
theorem Ap.wn(h:Ap ops x y)(v:Value):wn ops y (a.put x.dst v)=wn ops y a:=by unfold Go.Sx.wn;rw[wanted_put y a x.dst v h.xy]
theorem Ap.ex(h:Ap ops x y)(v:Value):execOp (a.put x.dst v).eval y=execOp a.eval y:=execOp_put y (Ln h.sy) a x.dst v h.xy
theorem Ap.lS(h:Ap ops x y)(v u:Value):(a.put x.dst v).put y.dst u=(a.put y.dst u).put x.dst v:=Act.put_comm a v u h.ne
theorem Ap.y0(h:Ap ops x y):Y0 P ops y u (a.put x.dst v)↔Y0 P ops y u a:=by unfold Y0;rw[h.wn,h.ex]
theorem Ap.y1(h:Ap ops x y):Y1 P ops y u (a.put x.dst v) w↔Y1 P ops y u a w:=by unfold Y1;rw[h.wn,h.ex]
theorem Hh{ρ:Operand->Value}(h:ru o.op=true):o.semAt r ρ=execOp ρ o:=semAt_eq (GU h)
theorem FO(a:Op):cat a=0\/cat a=1\/cat a=2\/cat a=3:=by
 unfold cat
 split<;>simp
def EX(P:Program)(ops:Array Oper)(x:Oper)(a a' : Act):Prop:=(∀ v,Y0 P ops x v a↔Y0 P ops x v a')/\wn ops x a' = wn ops x a
theorem Ap.upon(h:Ap ops x y)(j:NP Q){z:Result Next}(b:y.uponIn (FW r) 0 P (a.put x.dst v) K Q z):y.uponIn (FW r) 0 P a (fun a' w' => K (a'.put x.dst v) w' /\ EX P ops x a a') Q z:=by
 have i:∀ u,EX P ops x a (a.put y.dst u):=fun u=>⟨fun v=>(h.symm.y0).symm,h.symm.wn u⟩
 cases z with
 | ok nx w' =>
  cases nx<;>simp only[Oper.uponIn]at b ⊢
  case value u=>exact⟨by rw[<-h.lS];exact b,i u⟩
  case skip=>exact⟨by rw[<-h.lS];exact b,i _⟩
  case defer d =>
   refine⟨?_,fun v=>?_,?_⟩
   . rw[Act.put_defers a x.dst v d]at b
     rw[<-h.lS];exact b
   . rw[h.symm.y0];exact Iff.rfl
   . rw[h.symm.wn];rfl
  case enter f args =>
   refine⟨b.1,CallsIn.mono b.2 fun e k g=>?_⟩
   cases e with
   | returned u=>exact⟨by rw[<-h.lS];exact g,i u⟩
   | panicked c=>exact absurd g (j.np _ _ _)
   | outgrown=>exact g
  case row row args=>exact⟨b.1,RowsIn.mono b.2 fun u k g=>⟨by rw[<-h.lS];exact g,i u⟩⟩
  case round l f tmps assign body =>
   refine⟨b.1,RoundIn.mono b.2 fun e k g=>?_⟩
   cases e with
   | returned u=>exact⟨by rw[<-h.lS];exact g,i u⟩
   | panicked c=>exact absurd g (j.np _ _ _)
   | outgrown=>exact g
 | halt z w' => cases z<;>simp only[Oper.uponIn]at b ⊢ <;> exact absurd b (j.np _ _ _)
theorem Ap.act(h:Ap ops x y)(g:cat y.op=2->NP Q)(b:cat y.op=2\/cat y.op=3)(c:kQ r P Q y K (a.put x.dst v) w):kQ r P Q y (fun a' w' => K (a'.put x.dst v) w' /\ EX P ops x a a') a w:=by
 have f:∀ u,EX P ops x a (a.put y.dst u):=fun u=>⟨fun v=>(h.symm.y0).symm,h.symm.wn u⟩
 unfold kQ at *
 rcases b with b|b<;>rw[b]at c<;>rw[b]
 . rw[Hh h.dy,h.ex]at c
   rw[Hh h.dy]
   exact h.upon (g b) c
 . rw[h.ex]at c
   obtain⟨z,w', e,⟨u,rfl,d⟩|⟨rfl,d⟩⟩:=c
   . exact⟨_,w', e,.inl ⟨u,rfl,by rw[<-h.lS];exact d,f u⟩⟩
   . exact⟨_,w', e,.inr ⟨rfl,by rw[<-h.lS];exact d,f _⟩⟩
theorem Ap.back(h:Ap ops x y)(k:cat y.op=2->NP Q)(j:cat y.op=2\/cat y.op=3)(o:Y0 P ops x v a)(b:kQ r P Q y (iG r P ops Q x K) a w):kQ r P Q y K (a.put x.dst v) w:=by
 have i:∀ u,Y0 P ops x v (a.put y.dst u):=fun u=>(h.symm.y0).2 o
 unfold kQ at *
 rcases j with j|j<;>rw[j]at b<;>rw[j]
 . rw[Hh h.dy]at b
   rw[Hh h.dy,h.ex]
   have k:=k j
   generalize (execOp a.eval y).run P w=z at *
   cases z with
   | ok nx w' =>
    cases nx<;>simp only[Oper.uponIn]at b ⊢
    case value u=>rw[h.lS];exact(i u).w5 b
    case skip=>rw[h.lS];exact(i _).w5 b
    case defer d =>
     rw[Act.put_defers a x.dst v d,h.lS]
     refine Y0.w5 ?_ b
     exact(h.symm.y0 (a:={ a with defers:=d :: a.defers })).2 o
    case enter f args =>
     refine⟨b.1,CallsIn.mono b.2 fun e p g=>?_⟩
     cases e with
     | returned u=>show K _ _;rw[h.lS];exact(i u).w5 g
     | panicked c=>exact absurd g (k.np _ _ _)
     | outgrown=>exact g
    case row row args=>exact⟨b.1,RowsIn.mono b.2 fun u p g=>by rw[h.lS];exact(i u).w5 g⟩
    case round l f tmps assign body =>
     refine⟨b.1,RoundIn.mono b.2 fun e p g=>?_⟩
     cases e with
     | returned u=>show K _ _;rw[h.lS];exact(i u).w5 g
     | panicked c=>exact absurd g (k.np _ _ _)
     | outgrown=>exact g
   | halt z w' => cases z<;>simp only[Oper.uponIn]at b ⊢ <;> exact absurd b (k.np _ _ _)
 . rw[h.ex]
   obtain⟨z,w', n,⟨u,rfl,m⟩|⟨rfl,m⟩⟩:=b
   . exact⟨_,w', n,.inl ⟨u,rfl,by rw[h.lS];exact(i u).w5 m⟩⟩
   . exact⟨_,w', n,.inr ⟨rfl,by rw[h.lS];exact(i _).w5 m⟩⟩
theorem kQ.ends(h:cat y.op=2->NP Q)(hd:ru y.op=true)(i:cat y.op=2\/cat y.op=3)(g:kQ r P Q y K a w):∃ a' w', K a' w' /\ (∃ u,a' = a.put y.dst u\/∃ d,a' = { a with defers:=d :: a.defers }.put y.dst u):=by
 unfold kQ at *
 rcases i with i|i<;>rw[i]at g
 . have h:=h i
   generalize (y.semAt r a.eval).run P w=z at *
   cases z with
   | ok nx w' =>
    cases nx<;>simp only[Oper.uponIn]at g
    case value u=>exact⟨_,_,g,u,.inl rfl⟩
    case skip=>exact⟨_,_,g,_,.inl rfl⟩
    case defer d=>exact⟨_,_,g,_,.inr ⟨d,rfl⟩⟩
    case enter f args =>
     obtain⟨e,k, fr,b,_⟩:=g.2.2 [] (It _ _)
     cases e with
     | returned u=>exact⟨_,_,b,u,.inl rfl⟩
     | panicked c=>exact absurd b (h.np _ _ _)
     | outgrown=>obtain⟨a,w,b⟩:=b;exact absurd b (h.no _ _)
    case row row args =>
     obtain⟨u,k, b,_⟩:=g.2 default [] (It _ _)
     exact⟨_,_,b,u,.inl rfl⟩
    case round l f tmps assign body =>
     obtain⟨e,k, b,_⟩:=g.2.2 default [] (It _ _)
     cases e with
     | returned u=>exact⟨_,_,b,u,.inl rfl⟩
     | panicked c=>exact absurd b (h.np _ _ _)
     | outgrown=>obtain⟨a,w,b⟩:=b;exact absurd b (h.no _ _)
   | halt z w' => cases z<;>simp only[Oper.uponIn]at g<;>exact absurd g (h.np _ _ _)
 . obtain⟨z,w', m,⟨u,rfl,j⟩|⟨rfl,j⟩⟩:=g
   . exact⟨_,_,j,u,.inl rfl⟩
   . exact⟨_,_,j,_,.inl rfl⟩
def zA(x y:Op):Bool:=bif Nat.ble (cat x) 1 then(Nat.ble (cat y) 1||Nat.beq (cat x) 0)else Nat.beq (cat y) 0
theorem swap(h:Ap ops x y)(hk:zA x.op y.op=true)(l:cat x.op=2->NP Q)(q:cat y.op=2->NP Q)(f:iG r P ops Q x (iG r P ops Q y K) a w):iG r P ops Q y (iG r P ops Q x K) a w:=by
 have s:∀ o:Oper,Nat.ble (cat o.op) 1=true->cat o.op=0\/cat o.op=1:=fun o h=>by have:=qV h;omega
 have j:∀ o:Oper,¬ (cat o.op=0\/cat o.op=1)->cat o.op=2\/cat o.op=3:=fun o h=>by rcases FO o.op with b|b|b|b<;>simp_all
 by_cases hx:cat x.op=0\/cat x.op=1
 . obtain⟨v,hv,c⟩:=f.get hx
   by_cases i:cat y.op=0\/cat y.op=1
   . obtain⟨u,e,k⟩:=c.get i
     refine iG.mk (v:=u) ?_ (iG.mk (v:=v) ?_ (by rw[<-h.lS];exact k))
     . rw[h.y0,h.y1]at e;exact e
     . rw[h.symm.y0,h.symm.y1];exact hv
   . have n:Y0 P ops x v a:=by
      rcases hv with hv|hv
      . exact hv
      . exfalso
        have b:=hv.2.1
        rcases j y i with c|c<;>simp[zA,b,c]at hk
     unfold iG at c
     rw[h.wn]at c
     unfold iG
     split<;>rename_i g
     . rw[if_pos g]at c
       refine(h.act q (j y i) c).mono fun a' w' ⟨k,p⟩=>?_
       exact iG.mk (.inl ((p.1 v).1 n)) k
     . rw[if_neg g]at c
       exact iG.mk (.inl ((h.symm.y0).2 n)) (by rw[<-h.lS];exact c)
 . have i:cat y.op=0:=by
    rcases j x hx with b|b<;>simpa[zA,b]using hk
   unfold iG at f
   cases g:wn ops x a with
   | false =>
    rw[if_neg (by rw[g];decide)]at f
    obtain⟨u,e,k⟩:=iG.get (.inl i) f
    rw[h.y0,h.y1]at e
    refine iG.mk e (iG.mk (v:=undef) (.inl (.inr ⟨?_,rfl⟩)) (by rw[<-h.lS];exact k))
    rw[h.symm.wn];exact g
   | true =>
    rw[if_pos g]at f
    obtain⟨a', w', b,t,c⟩:=f.ends l h.dx (j x hx)
    have b:iG r P ops Q y K a' w' := b
    obtain⟨u,e,_⟩:=b.get (.inl i)
    have m:Y0 P ops y u a:=by
     have:Y0 P ops y u a' := by
      rcases e with e|e
      . exact e
      . exact absurd (e.2.1.symm.trans i) d_
     rcases c with rfl|⟨d,rfl⟩
     . exact h.y0.1 this
     . exact(h.y0 (a:={ a with defers:=d :: a.defers })).1 this
    refine iG.mk (.inl m) ?_
    unfold iG
    rw[h.symm.wn,if_pos g]
    exact h.symm.back l (j x hx) m f
def VV(s t:List Nat):List Nat:=t.foldl (fun s i=>bif s.contains i then s else i :: s) s
def oZ:List Oper->List (List Nat)->List (List Nat)
 | [],acc=>acc
 | o :: l,acc=>oZ l (acc++[o.after.toList.foldl (fun s e=>bif Region.binds .any e then VV s (e.on :: acc.getD e.on [])else s) []])
variable{b o i m o' lo:Nat}{cs vs:List Value}{k k':IntKind}{e:Int}{c':List Nat}{bs:List (World×List Nat)}{s:List (Nat×Value)}{ok:Nat->Prop}{M:Act->World->Prop}{L:List fJ}{np:Bool}{l':List Oper}
section
variable{o:Oper}
def rZ(P:Program)(ops:Array Oper)(o:Oper)(a:Act)(w:World):Prop:=wn ops o a=false\/∃ v,(execOp a.eval o).run P w = .ok (.value v) w/\a.put o.dst v=a
theorem adU(a:Act)(d:Option Tmp)(v u:Value):(a.put d v).put d u=a.put d u:=by
 cases d with
 | none=>rfl
 | some d=>simp[Act.put]
theorem adT{a:Act}{d e:Option Tmp}{v u:Value}(h:∀ i,d=some i->e≠some i)(c:(a.put d v).put e u=a.put d v):a.put e u=a:=by
 cases e with
 | none=>rfl
 | some e =>
  cases d with
  | none=>exact c
  | some d =>
   have m:d≠e:=fun b=>h d rfl (b▸rfl)
   simp only[Act.put]at c ⊢
   have f:=congrArg Act.tmps c
   simp only at f
   have g:a.tmps.setIfInBounds e u=a.tmps:=by
    apply Array.ext
    . simp
    . intro i l j
      rw[Array.getElem_setIfInBounds (by simpa using j)]
      split
      . rename_i b
        subst b
        have k:=congrArg (fun t:Array Value=>t[e]?) f
        grind
      . rfl
   rw[g]
structure Aw (ops:Array Oper) (x k:Oper):Prop where
 xk:∀ d,x.dst=some d->d∉k.looksAt ops
 ne:∀ d,x.dst=some d->k.dst≠some d
 sk:rW k.op=true
theorem rZ.put(h:Aw ops x o):rZ P ops o (a.put x.dst v) w↔rZ P ops o a w:=by
 have e:wn ops o (a.put x.dst v)=wn ops o a:=by unfold Go.Sx.wn;rw[wanted_put o a x.dst v h.xk]
 have d:execOp (a.put x.dst v).eval o=execOp a.eval o:=execOp_put o (Ln h.sk) a x.dst v h.xk
 unfold rZ
 rw[e,d]
 constructor
 . rintro(b|⟨u,b,c⟩)
   . exact .inl b
   . exact .inr ⟨u,b,adT h.ne c⟩
 . rintro(b|⟨u,b,c⟩)
   . exact .inl b
   . exact .inr ⟨u,b,by rw[Act.put_comm a v u h.ne,c]⟩
def FF(ops:Array Oper)(x k:Oper):Bool:=rW k.op&&match x.dst with
 | none=>true
 | some d => !(k.looksAt ops).contains d && !(k.dst==some d)
theorem O8{x k:Oper}(h:FF ops x k=true):Aw ops x k:=by
 simp only[FF,nZ]at h
 refine⟨fun d hd=>?_,fun d hd=>?_,h.1⟩<;>rw[hd]at h<;>simp at h
 . exact h.2.1
 . exact h.2.2
def uM(ops:Array Oper)(x k:Nat):Bool:=match ops[x]?,ops[k]? with
 | some x,some k=>FF ops x k
 | _,_=>true
theorem O9{k:Nat}(h:uM ops i k=true)(hi:ops[i]? = some x)(hk:ops[k]? = some o):Aw ops x o:=by
 grind [uM,O8]
def jR(P:Program)(ops:Array Oper):List Nat->Act->World->Prop
 | [],_,_=>True
 | k :: ks,a,w=>(∀ o,ops[k]? = some o->rZ P ops o a w)/\jR P ops ks a w
theorem xG{b:List Nat}:jR P ops b a w↔∀ k∈b,∀ o,ops[k]? = some o->rZ P ops o a w:=by
 induction b with
 | nil=>simp[jR]
 | cons k b c=>simp[jR,c]
theorem jR.put{b:List Nat}(h:∀ k∈b,∀ o,ops[k]? = some o->Aw ops x o):jR P ops b (a.put x.dst v) w↔jR P ops b a w:=by
 grind [xG,rZ.put]
theorem afU{cs:List Nat}(h:Ap ops x y)(s:cat x.op=1)(hs:∀ d,x.dst=some d->d∉x.looksAt ops)(B:cat y.op=2\/cat y.op=3)(u:cat y.op=2->NP Q)(hi:ops[i]? = some x)(hc:i∈cs)(A:iG r P ops Q x (iG r P ops Q y (fun a w=>jR P ops cs a w/\K a w)) a w) :
 iG r P ops Q y (fun a w=>jR P ops (cs.filter fun k => !(k==i)&&uM ops i k) a w/\iG r P ops Q x K a w) a w:=by
 obtain⟨v,hv,f⟩:=A.get (.inr s)
 have z : ∀ k∈cs.filter (fun k => !(k==i)&&uM ops i k),∀ o,ops[k]? = some o->Aw ops x o:=fun k F o G=>by
  grind [O9]
 have sub:∀ a' w', jR P ops cs (a'.put x.dst v) w' -> jR P ops (cs.filter fun k => !(k==i)&&uM ops i k) a' w' := fun a' w' E => by
  rw[<-jR.put (v:=v) z, xG]
  grind [xG]
 have D:∀ a' : Act,wn ops x (a'.put x.dst v)=wn ops x a' := fun a' => by unfold Go.Sx.wn;rw[wanted_put x a' x.dst v hs]
 have C:∀ a' : Act,execOp (a'.put x.dst v).eval x=execOp a'.eval x:=fun a' => execOp_put x (Ln h.sx) a' x.dst v hs
 unfold iG at f
 rw[h.wn]at f
 have p:wn ops x a=false->Y0 P ops x v a:=fun e=>by
  rcases hv with hv|hv
  . exact hv
  . rw[hv.1]at e;cases e
 unfold iG
 split<;>rename_i q
 . rw[if_pos q]at f
   refine(h.act u B f).mono fun a' w' ⟨⟨l,g⟩,m⟩=>⟨sub a' w' l,?_⟩
   have c:=(xG.1 l) i hc x hi
   show iG r P ops Q x K a' w'
   rcases c with c|⟨v', c,n⟩
   . rw[D]at c
     have t:Y0 P ops x undef a' := .inr ⟨c,rfl⟩
     refine iG.mk (.inl t) ?_
     have b:wn ops x a=false:=m.2▸c
     rcases p b with ⟨j,_⟩|⟨_,rfl⟩
     . rw[j]at b;cases b
     . exact g
   . rw[C]at c
     cases b:wn ops x a' with
     | false =>
      refine iG.mk (v:=undef) (.inl (.inr ⟨b,rfl⟩)) ?_
      rw[m.2]at b
      rcases p b with ⟨j,_⟩|⟨_,rfl⟩
      . rw[j]at b;cases b
      . exact g
     | true =>
      refine iG.mk (v:=v') (.inr ⟨b,s,c⟩) ?_
      rw[adU]at n;rw[n];exact g
 . rw[if_neg q]at f
   refine⟨sub _ _ (by rw[<-h.lS];exact f.1),?_⟩
   refine iG.mk (v:=v) ?_ (by rw[<-h.lS];exact f.2)
   rw[h.symm.y0,h.symm.y1];exact hv
def mc(r:Option Nat)(P:Program)(ops:Array Oper)(Q:Exit->Act->World->Prop)(b:Nat×List Nat)(K:Act->World->Prop)(a:Act)(w:World):Prop :=
 match ops[b.1]? with
 | none=>K a w
 | some o=>iG r P ops Q o (fun a w=>jR P ops b.2 a w/\K a w) a w
def vk(r:Option Nat)(P:Program)(ops:Array Oper)(Q:Exit->Act->World->Prop):List (Nat×List Nat)->Act->World->Prop
 | [],a,w=>Q .normal a w
 | it :: l,a,w=>mc r P ops Q it (vk r P ops Q l) a w
theorem mc.mono{c:Nat×List Nat}(h:∀ a w,K a w->K' a w)(b:mc r P ops Q c K a w):mc r P ops Q c K' a w:=by
 unfold mc at *
 split<;>rename_i f<;>rw[f]at b
 . exact h _ _ b
 . exact b.mono fun a w ⟨d,e⟩=>⟨d,h _ _ e⟩
structure Cm (ops:Array Oper) (i:Nat) (ci:List Nat) (x:Oper) (c:List Nat) (y:Oper):Prop where
 ap:Ap ops x y
 k:(zA x.op y.op=true/\(Nat.ble (cat x.op) 1=true->ci=[])/\(Nat.ble (cat y.op) 1=true->c=[])/\(∀ k∈ci,∀ o,ops[k]? = some o->Aw ops y o)) \/
  (cat x.op=1/\(cat y.op=2\/cat y.op=3)/\i∈c/\(∀ d,x.dst=some d->d∉x.looksAt ops)/\ci=[])
theorem afT{l c:List Nat}(hc:Cm ops i l x c y)(hi:ops[i]? = some x)(t:cat x.op=2->NP Q)(q:cat y.op=2->NP Q)(s:iG r P ops Q x (fun a w=>jR P ops l a w/\iG r P ops Q y (fun a w=>jR P ops c a w/\K a w) a w) a w) :
 iG r P ops Q y (fun a w=>jR P ops (c.filter fun k => !(k==i)&&uM ops i k) a w/\iG r P ops Q x (fun a w=>jR P ops l a w/\K a w) a w) a w:=by
 obtain⟨h,j⟩:=hc
 rcases j with ⟨d,m,n,B⟩|⟨d,m,n,A,rfl⟩
 . have E:∀ o:Oper,Nat.ble (cat o.op) 1=true->cat o.op=0\/cat o.op=1:=fun o h=>by have:=qV h;omega
   by_cases hx:Nat.ble (cat x.op) 1=true
   . obtain rfl:=m hx
     have g:iG r P ops Q x (iG r P ops Q y (fun a w=>jR P ops c a w/\K a w)) a w:=s.mono fun a w h=>h.2
     refine(swap h d t q g).mono fun a w b=>?_
     obtain⟨v,hv,f,p⟩:=b.get (E x hx)
     refine⟨?_,iG.mk hv ⟨trivial,p⟩⟩
     rw[<-jR.put (x:=x) (v:=v) (fun k j o C=>O9 (Bool.and_eq_true_iff.1 (z7.1 j).2).2 hi C),xG]
     exact fun k j=>(xG.1 f) k (z7.1 j).1
   . have z:cat y.op=0:=by
      rcases FO x.op with e|e|e|e<;>simp[zA,e]at d hx<;>exact d
     obtain rfl:=n (by rw[z];rfl)
     have g:iG r P ops Q x (iG r P ops Q y (fun a w=>jR P ops l a w/\K a w)) a w:=s.mono fun a w ⟨b,f⟩=>by
      obtain⟨u,D,_,p⟩:=f.get (.inl z)
      exact iG.mk D ⟨(jR.put B).2 b,p⟩
     exact(swap h d t q g).mono fun a w b=>⟨trivial,b⟩
 . have g:iG r P ops Q x (iG r P ops Q y (fun a w=>jR P ops c a w/\K a w)) a w:=s.mono fun a w h=>h.2
   exact(afU h d A m q hi n g).mono fun a w ⟨b,f⟩=>⟨b,f.mono fun a w h=>⟨trivial,h⟩⟩
theorem Cm.sub{g c:List Nat}(h:Cm ops i g x c y)(hs:∀ k∈c', k∈c)(hi:cat x.op=1->i∈c->i∈c'):Cm ops i g x c' y:=by
 refine⟨h.ap,?_⟩
 rcases h.k with ⟨a,b,d,f⟩|⟨a,b,d,j,f⟩
 . refine .inl ⟨a,b,fun e=>?_,f⟩
   have:=d e
   subst this
   cases c' with
   | nil=>rfl
   | cons k c' => exact absurd (hs k za) pn
 . exact .inr ⟨a,b,hi a d,j,f⟩
def DJ(ops:Array Oper)(L:List (Nat×List Nat))(c:List Nat):List Nat:=c.filter fun k=>L.all fun z => !(k==z.1)&&uM ops z.1 k
theorem abg{a:Nat×List Nat}{L:List (Nat×List Nat)}{c:List Nat}:DJ ops (a :: L) c=(DJ ops L c).filter fun k => !(k==a.1)&&uM ops a.1 k:=by
 unfold DJ
 rw[EG]
 grind
def LH(ops:Array Oper)(x z:Nat×List Nat):Prop:=(∀ o,ops[x.1]? = some o->cat o.op=1->uM ops z.1 x.1=true)
end
def Jl(ops:Array Oper)(x y:Oper):Bool:=rW x.op&&rW y.op&&ru x.op&&ru y.op&&x.apart ops y
theorem V9{ops:Array Oper}{x y:Oper}(h:Jl ops x y=true):Ap ops x y:=by
 simp only[Jl,nZ]at h
 obtain⟨⟨⟨⟨d,e⟩,f⟩,g⟩,i⟩:=h
 obtain⟨a,b,c⟩:=Oper.apart_spec i
 exact⟨a,b,c,d,e,f,g⟩
def O7(ops:Array Oper)(x:Oper)(c:List Nat):Bool:=c.all fun k=>match ops[k]? with|some o=>FF ops x o|none=>true
theorem Wd{ops:Array Oper}{x:Oper}{c:List Nat}(h:O7 ops x c=true):∀ k∈c,∀ o,ops[k]? = some o->Aw ops x o:=fun k a o b=>by
 have:=zr.1 h k a
 rw[b]at this
 exact O8 this
def Mb(ops:Array Oper)(x:Oper):Bool:=match x.dst with|some d => !(x.looksAt ops).contains d|none=>true
theorem ae9{ops:Array Oper}{x:Oper}(h:Mb ops x=true):∀ d,x.dst=some d->d∉x.looksAt ops:=fun d hd=>by
 unfold Mb at h;rw[hd]at h;simpa using h
def JM(ops:Array Oper)(i:Nat)(a:List Nat)(x:Oper)(c:List Nat)(y:Oper):Bool:=Jl ops x y&&bif zA x.op y.op then(!Nat.ble (cat x.op) 1||a.isEmpty)&&(!Nat.ble (cat y.op) 1||c.isEmpty)&&O7 ops y a
 else Nat.beq (cat x.op) 1 && !Nat.ble (cat y.op) 1&&c.contains i&&Mb ops x&&a.isEmpty
theorem Xx{ops:Array Oper}{b c:List Nat}{x y:Oper}(h:JM ops i b x c y=true):Cm ops i b x c y:=by
 simp only[JM,nZ]at h
 obtain⟨d,h⟩:=h
 refine⟨V9 d,?_⟩
 cases hk:zA x.op y.op with
 | true =>
  grind [Wd]
 | false =>
  rw[hk]at h
  simp only[cond_false,nZ,CJ,List.isEmpty_iff]at h
  obtain⟨⟨⟨⟨f,a⟩,g⟩,j⟩,k⟩:=h
  refine .inr ⟨CE f,?_,by simpa using g,ae9 j,k⟩
  rcases FO y.op with e|e|e|e
  . rw[e]at a;cases a
  . rw[e]at a;cases a
  . exact .inl e
  . exact .inr e
def G1(ops:Array Oper):List (Nat×List Nat)->Bool
 | []=>true
 | x :: l=>(match ops[x.1]? with
  | some o => !Nat.beq (cat o.op) 1||l.all fun z=>uM ops z.1 x.1
  | none=>true)&&G1 ops l
theorem Th{ops:Array Oper}:∀ (l:List (Nat×List Nat)),G1 ops l=true->l.Pairwise (LH ops)
 | [],_=>List.Pairwise.nil
 | x :: l,h=>by
  simp only[G1,nZ]at h
  refine qz.2 ⟨fun z d o c b=>?_,Th l h.2⟩
  have a:=h.1
  rw[c]at a
  simp only[b,Bool.or_eq_true]at a
  rcases a with a|a
  . cases a
  . exact zr.1 a z d
theorem TZ{α:Type}{x y:α}:∀ (l:List α),List.Sublist [x,y] l->∃ A B,l=A++y :: B/\x∈A
 | [],h=>by cases h
 | z :: l,h=>by
  cases h with
  | cons _ h =>
   obtain⟨A,B,rfl,a⟩:=TZ l h
   exact⟨z :: A,B,rfl,zx _ a⟩
  | cons_cons _ h =>
   obtain⟨A,B,rfl⟩:=AU (uw.1 h)
   exact⟨x :: A,B,rfl,za⟩
section
variable{o:Oper}
def k7(r:Option Nat)(P:Program)(ops:Array Oper)(Q:Exit->Act->World->Prop):List (Nat×List Nat)->(Act->World->Prop)->Act->World->Prop
 | [],K=>K
 | it :: l,K=>mc r P ops Q it (k7 r P ops Q l K)
theorem k7.mono(h:∀ a w,K a w->K' a w):∀ (L:List (Nat×List Nat)) (a:Act) (w:World),k7 r P ops Q L K a w->k7 r P ops Q L K' a w
 | [],a,w,h1=>h a w h1
 | it :: L,a,w,h1=>mc.mono (k7.mono h L) h1
theorem tA(L2:List (Nat×List Nat)):∀ (a:List (Nat×List Nat)),k7 r P ops Q (a++L2) K=k7 r P ops Q a (k7 r P ops Q L2 K)
 | []=>rfl
 | it :: a=>by
  show mc r P ops Q it (k7 r P ops Q (a++L2) K)=mc r P ops Q it _
  rw[tA L2 a]
theorem xX:∀ (L:List (Nat×List Nat)),vk r P ops Q L=k7 r P ops Q L (Q .normal)
 | []=>rfl
 | it :: L=>by
  funext a w
  show mc r P ops Q it (vk r P ops Q L) a w=mc r P ops Q it _ a w
  rw[xX L]
theorem Ca{j:Nat}{c:List Nat}(A:ops[j]? = some y):∀ (b:List (Nat×List Nat)) (a:Act) (w:World),(b.map (·.1)).Nodup->(c=[]\/b.Pairwise (LH ops)) ->
 (∀ f∈b,∀ x,ops[f.1]? = some x->Cm ops f.1 f.2 x c y/\((cat x.op=2\/cat y.op=2)->NP Q)) ->
 k7 r P ops Q (b++[(j,c)]) K a w->iG r P ops Q y (fun a w=>jR P ops (DJ ops b c) a w/\k7 r P ops Q b K a w) a w:=by
 intro b
 induction b with
 | nil =>
  intro a w _ _ _ h
  simp only[pX]at h ⊢
  unfold k7 mc at h
  simp only[A]at h
  refine h.mono fun a w ⟨d,l⟩=>⟨?_,l⟩
  rw[xG]at d ⊢
  exact fun k g=>d k (z7.1 g).1
 | cons f b C =>
  intro a w o m p h
  rw[mh,zu]at o
  have t := fun k g=>p k (zx _ g)
  simp only[pW]at h ⊢
  unfold k7 at h
  have d:=h.mono fun a w h=>C a w o.2 (m.imp_right fun h=>(qz.1 h).2) t h
  rw[abg]
  unfold mc at d
  split at d<;>rename_i i
  . refine d.mono fun a w ⟨l,n⟩=>⟨?_,?_⟩
    . grind [xG]
    . unfold k7 mc;simp only[i];exact n
  . rename_i x
    obtain⟨v,q⟩:=p f za x i
    have u:=v.sub (c' := DJ ops b c) (fun k g=>(z7.1 g).1) (fun B hi=>z7.2 ⟨hi,zr.2 fun z s=>by
     have m:=m.resolve_left (fun e=>by rw[e]at hi;cases hi)
     rw[(qz.1 m).1 z s x i B,Bool.and_true]
     have:f.1≠z.1:=fun e=>o.1 (zq.2 ⟨z,s,e.symm⟩)
     simpa using this⟩)
    refine(afT u i (fun e=>q (.inl e)) (fun e=>q (.inr e)) d).mono fun a w ⟨l,n⟩=>⟨l,?_⟩
    unfold k7 mc;simp only[i];exact n
theorem VA(h:Y0 P ops o v a\/Y1 P ops o v a w)(b:Y0 P ops o u a\/Y1 P ops o u a w):v=u:=by
 have e:∀ {x y:Value},(Result.ok (Next.value x) w:Result Next) = .ok (.value y) w->x=y:=fun h=>by simpa using h
 rcases h with (⟨a1,a2,a3⟩|⟨a1,rfl⟩)|⟨a1,a2,a3⟩<;>rcases b with (⟨b1,b2,b3⟩|⟨b1,rfl⟩)|⟨b1,b2,b3⟩
 . exact e ((a3 w).symm.trans (b3 w))
 . rw[a1]at b1;cases b1
 . rw[a2]at b2;cases b2
 . rw[a1]at b1;cases b1
 . rfl
 . rw[a1]at b1;cases b1
 . rw[a2]at b2;cases b2
 . rw[a1]at b1;cases b1
 . exact e (a3.symm.trans b3)
theorem iG.all{ι:Type}{p:ι->Prop}{F:ι->Act->World->Prop}(hc:cat o.op=0\/cat o.op=1)(b:ι)(c:p b)(h:∀ t,p t->iG r P ops Q o (F t) a w):iG r P ops Q o (fun a w=>∀ t,p t->F t a w) a w:=by
 obtain⟨v,hv,_⟩:=(h b c).get hc
 refine iG.mk hv fun t ht=>?_
 obtain⟨u,e,d⟩:=(h t ht).get hc
 rw[VA hv e]
 exact d
def WA(r:Option Nat)(P:Program)(ops:Array Oper)(Q:Exit->Act->World->Prop)(C:Nat->List Nat)(pre:List (List Nat))(I1:List (Nat×List Nat)):Nat->List Nat->Act->World->Prop
 | 0,_=>vk r P ops Q I1
 | k+1,A=>fun a w=>∀ f,f∈A/\(∀ g∈A,(pre.getD f []).contains g=false)->mc r P ops Q (f,C f) (WA r P ops Q C pre I1 k (A.filter fun g => !(g==f))) a w
theorem S7{C:Nat->List Nat}{pre:List (List Nat)}{i:Nat}(hi:ops[i]? = some y)(p:cat y.op=0){c L2:List (Nat×List Nat)}(n:(c.map (·.1)).Nodup)
 (h1:∀ j∈c,∀ x,ops[j.1]? = some x->Cm ops j.1 j.2 x [] y/\((cat x.op=2\/cat y.op=2)->NP Q)) :
 ∀ (k:Nat) (A:List Nat) (a:Act) (w:World),A.length=k->A.Nodup->(∀ f∈A,∀ g∈(pre.getD f []),g<f)->(∀ f∈A,f≠i/\∀ x,ops[f]? = some x->Cm ops f (C f) x [] y/\((cat x.op=2\/cat y.op=2)->NP Q)) ->
 WA r P ops Q C pre (c++(i,[]) :: L2) k A a w->iG r P ops Q y (WA r P ops Q C pre (c++L2) k A) a w
 | 0,A,a,w,_,_,_,_,h=>by
  unfold WA at h ⊢
  rw[xX,show c++(i,[]) :: L2=(c++[(i,[])])++L2 by simp,tA]at h
  refine(Ca hi c a w n (.inl rfl) h1 h).mono fun a w h=>?_
  rw[xX,tA]
  exact h.2
 | k+1,A,a,w,hk,hA,hp,hc,h=>by
  unfold WA at h ⊢
  -- a least one
  obtain⟨d,m,B⟩:∃ d∈A,∀ g∈A,d<=g:=by
   have:∀ l:List Nat,l≠[]->∃ d∈l,∀ g∈l,d<=g:=by
    intro l
    induction l with
    | nil=>intro h;exact absurd rfl h
    | cons z l q =>
     intro _
     by_cases e:l=[]
     . subst e;exact⟨z,za,fun g b=>by rw[z8.1 b];exact zh _⟩
     . grind
   exact this A (fun e=>by rw[e]at hk;cases hk)
  refine iG.all (.inl p) d ⟨m,fun g b=>?_⟩ fun f u=>?_
  . cases hb:(pre.getD d []).contains g with
    | false=>rfl
    | true=>have:=hp d m g (by simpa using hb);have:=B g b;omega
  . have s:=h f u
    have v:(A.filter fun g => !(g==f)).length=k:=by
     have:(A.filter fun g => !(g==f))=A.erase f:=by rw[List.Nodup.erase_eq_filter hA];rfl
     grind
    have o:∀ g∈A.filter (fun g => !(g==f)),g∈A:=fun g b=>(z7.1 b).1
    have q:=fun a w=>S7 (L2:=L2) hi p n h1 k (A.filter fun g => !(g==f)) a w v (hA.sublist pe) (fun g b=>hp g (o g b)) (fun g b=>hc g (o g b))
    have t:=s.mono q
    have D:k7 r P ops Q ([(f,C f)]++[(i,[])]) (WA r P ops Q C pre (c++L2) k (A.filter fun g => !(g==f))) a w:=by
     refine t.mono fun a w h=>?_
     show mc r P ops Q (i,[]) _ a w
     unfold mc
     simp only[hi]
     exact h.mono fun a w h=>⟨trivial,h⟩
    refine(Ca hi [(f,C f)] a w s_ (.inl rfl) (fun j E x F=>?_) D).mono fun a w h=>h.2
    grind
end
def Gi(np:Bool)(ops:Array Oper)(pre:List (List Nat))(A:List Nat):List (Nat×List Nat)->List (Nat×List Nat)->Bool
 | _,[]=>true
 | before,it :: l=>(match ops[it.1]? with
  | none=>true
  | some y=>before.all fun a=>(A.contains a.1&&A.contains it.1)||(pre.getD it.1 []).contains a.1||match ops[a.1]? with
   | none=>true
   | some x=>JM ops a.1 a.2 x it.2 y&&(np || !(Nat.beq (cat x.op) 2||Nat.beq (cat y.op) 2)))&&Gi np ops pre A (before++[it]) l
theorem Q1{np:Bool}{ops:Array Oper}{pre:List (List Nat)}{A:List Nat}:∀ (l before:List (Nat×List Nat)),Gi np ops pre A before l=true->∀ c b g,l=c++b :: g->∀ a∈before++c,∀ x y,ops[a.1]? = some x->ops[b.1]? = some y ->
 ((a.1∈A/\b.1∈A)\/(pre.getD b.1 []).contains a.1=true)\/Cm ops a.1 a.2 x b.2 y/\((cat x.op=2\/cat y.op=2)->np=true)
 | [],before,_,c,b,g,e,a,hxi,x,y,hx,hy=>by simp at e
 | z :: l,before,h,c,b,g,e,a,hxi,x,y,hx,hy=>by
  simp only[Gi,nZ]at h
  cases c with
  | nil =>
   simp only[pX,List.cons.injEq]at e
   obtain⟨rfl,rfl⟩:=e
   have i:=h.1
   rw[hy]at i
   have j:=zr.1 i a (by simpa using hxi)
   rw[hx]at j
   rcases CF.1 j with d|d
   . rcases CF.1 d with f|f
     . rw[nZ]at f
       exact .inl (.inl ⟨by simpa using f.1,by simpa using f.2⟩)
     . exact .inl (.inr f)
   . rw[nZ]at d
     refine .inr ⟨Xx d.1,fun e=>?_⟩
     cases np with
     | true=>rfl
     | false=>rcases e with e|e<;>simp[e]at d
  | cons k c =>
   simp only[pW,List.cons.injEq]at e
   obtain⟨rfl,rfl⟩:=e
   exact Q1 _ (before++[z]) h.2 c b g rfl a (by simpa using hxi) x y hx hy
def DR(np:Bool)(l:List Oper)(b:List (Nat×List Nat))(A:List Nat)(C:Nat->List Nat)(I1:List (Nat×List Nat)):Bool :=
 let p:=oZ l [];let dQ:=b++(A.map fun f=>(f,C f))++I1
 S6 l p&&(l.zipIdx.all fun q=>q.1.after.toList.all fun e => !Region.binds .any e||decide (e.on<q.2))&&Gi np l.toArray p A [] dQ&&decide ((dQ.map (·.1)).Nodup)&&((List.range l.length).all fun i=>(dQ.map (·.1)).contains i)&&Nat.ble dQ.length l.length&&(dQ.all fun a=>decide (a.1<l.length))&&((dQ.all fun a=>a.2.isEmpty)||G1 l.toArray (b++I1)) &&
  (A.all fun f=>(p.getD f []).all fun g=>decide (g<f))&&(I1.all fun a=>A.isEmpty||(A.all fun f=>(p.getD a.1 []).contains f)||(a.2.isEmpty&&match l[a.1]? with|some o=>Nat.beq (cat o.op) 0|none=>false))
variable{l:List Oper}
theorem LQ{id:Nat}(s:List (Nat×List Nat))(A:List Nat)(C:Nat->List Nat)(I1:List (Nat×List Nat))(hm:P.follows .mixedOrders=true)(aG:DR np l s A C I1=true)(hN:np=false\/NP Q)(h:k7 r P l.toArray Q s (WA r P l.toArray Q C (oZ l []) I1 A.length A) a w.drew):WP r P (.region id l.toArray true) Q a w:=by
 simp only[DR,nZ]at aG
 obtain⟨⟨⟨⟨⟨⟨⟨⟨⟨ba,aU⟩,a9⟩,ah⟩,aV⟩,aW⟩,am⟩,bc⟩,bk⟩,aQ⟩:=aG
 have ah:=of_decide_eq_true ah
 have aR : np=true->NP Q:=fun e=>hN.elim (fun h=>by rw[h]at e;cases e) fun h=>h
 have aN:∀ (j:Nat) (o:Oper),l[j]? = some o->∀ e∈o.after,Region.binds .any e=true->e.on<j:=by
  intro j o O e V hb
  have u:=zr.1 aU (o,j) (by rw[List.mem_zipIdx_iff_getElem?];exact O)
  grind
 have aI:∀ f∈A,∀ g∈(oZ l []).getD f [],g<f:=fun f G g hg=>by
  grind
 have aO:(s++(A.map fun f=>(f,C f))++I1).map (·.1)=s.map (·.1)++A++I1.map (·.1):=by
  rw[ni,ni,yF]
  congr 2
  exact List.map_id'' (fun _=>rfl) A
 generalize ab:s++(A.map fun f=>(f,C f))++I1=dQ at *
 rw[aO]at ah
 have ad:=zo.1 ah
 have ag:=zo.1 ad.1
 have nA:=ag.2.1
 have aa:∀ m∈s,m.1∉A:=fun m t hA=>ag.2.2 m.1 (zq.2 ⟨m,t,rfl⟩) m.1 hA rfl
 have ay:∀ m∈I1,m.1∉A:=fun m t hA=>ad.2.2 m.1 (zj.2 (.inr hA)) m.1 (zq.2 ⟨m,t,rfl⟩) rfl
 have ae:∀ x∈s,∀ z∈I1,x.1≠z.1:=fun x E z J=>ad.2.2 x.1 (zj.2 (.inl (zq.2 ⟨x,E,rfl⟩))) z.1 (zq.2 ⟨z,J,rfl⟩)
 have s0:List.Sublist s dQ:=ab▸(vp s _).trans (vp _ I1)
 have au:List.Sublist (s++I1) dQ:=ab▸(vp s _).append (List.Sublist.refl I1)
 have av:List.Sublist (s++A.map fun f=>(f,C f)) dQ:=ab▸vp _ I1
 have bj:List.Sublist ((A.map fun f=>(f,C f))++I1) dQ:=by rw[<-ab,z6];exact No _ _
 refine wpIn_region_any hm ?_
 have bl:l.toArray.size=l.length:=by simp
 let B:Array Bool->Nat->Bool:=fun b i=>b.getD i false
 let n:Array Bool->List (Nat×List Nat)->List (Nat×List Nat):=fun b L=>L.filter fun m => !B b m.1
 let y:Array Bool->List Nat:=fun b=>A.filter fun f => !B b f
 have bg:∀ (fuel:Nat) (b:Array Bool) (a:Act) (w:World),b.size=l.length->(n b dQ).length<=fuel->Down l (B b) ->
  k7 r P l.toArray Q (n b s) (WA r P l.toArray Q C (oZ l []) (n b I1) (y b).length (y b)) a w ->
  wpAnyIn (FW r) 0 P .any l.toArray Q fuel b a w:=by
  intro fuel
  have has:∀ (b:Array Bool),b.size=l.length->∀ i,i∈Region.ready .any l.toArray b->B b i=false/\∃ c,(i,c)∈n b dQ:=by
   intro b hs i hi
   obtain⟨u,o,I,_⟩:=mem_ready.1 hi
   have al:i<l.length:=by simpa using(su.1 I).1
   have F:=zr.1 aV i (lV.2 al)
   obtain⟨m,H,h4⟩:=zq.1 (show i∈dQ.map (·.1) by simpa using F)
   have a1 : i<b.size:=by omega
   have hS:B b i=false:=by
    simp only[B]
    simp[a1]at u ⊢
    exact u
   refine⟨hS,m.2,?_⟩
   subst h4
   exact z7.2 ⟨H,by rw[hS];rfl⟩
  have bi:∀ (b:Array Bool),b.size=l.length->Region.ready .any l.toArray b=[]->∀ i,i<l.length->B b i=true:=by
   intro b hs M i
   induction i using Nat.strongRecOn with
   | _ i ih =>
    intro hi
    cases S:B b i with
    | true=>rfl
    | false =>
     exfalso
     have:i∈Region.ready .any l.toArray b:=by
      rw[mem_ready]
      refine⟨?_,l[i],by simp[hi],fun e V hb=>?_⟩
      . have:i<b.size:=by omega
        simp only[B]at S
        simp[this]at S ⊢
        exact S
      . have F:=aN i l[i] (zy hi) e V hb
        exact ih e.on F o_
     rw[M]at this
     cases this
  have az:∀ (b:Array Bool) (a:Act) (w:World),b.size=l.length->Region.ready .any l.toArray b=[] ->
   k7 r P l.toArray Q (n b s) (WA r P l.toArray Q C (oZ l []) (n b I1) (y b).length (y b)) a w->Q .normal a w:=by
   intro b a w hs M h
   have u:=bi b hs M
   have lt:∀ m∈dQ,m.1<l.length:=fun m t=>of_decide_eq_true (zr.1 am m t)
   have e0:n b s=[]:=EB.2 fun m t=>by rw[u m.1 (lt m (s0.subset t))];decide
   have e1:n b I1=[]:=EB.2 fun m t=>by rw[u m.1 (lt m (au.subset (zj.2 (.inr t))))];decide
   have eA:y b=[]:=EB.2 fun f G=>by rw[u f (lt (f,C f) (av.subset (zj.2 (.inr (zq.2 ⟨f,G,rfl⟩)))))];decide
   rw[e0,e1,eA]at h
   exact h
  induction fuel with
  | zero =>
   intro b a w hs S hd h
   have V:n b dQ=[]:=wo o_
   have M:Region.ready .any l.toArray b=[]:=by
    cases M:Region.ready .any l.toArray b with
    | nil=>rfl
    | cons i rs =>
     exfalso
     obtain⟨_,c,S⟩:=has b hs i (by rw[M];simp)
     rw[V]at S
     cases S
   exact⟨M,az b a w hs M h⟩
  | succ fuel ih =>
   intro b a w hs S hd h
   refine⟨fun M=>az b a w hs M h,fun i hi=>?_⟩
   obtain⟨ai,c,aE⟩:=has b hs i hi
   obtain⟨bm,o,I,aY⟩:=mem_ready.1 hi
   have aq : l[i]? = some o:=by simpa using I
   have al:i<l.length:=(zp.1 aq).1
   have a3 : i<b.size:=by omega
   have R : ∀ j,B (b.setIfInBounds i true) j=(B b j||j==i):=fun j=>ZF b i j a3
   have aB : Down l (B (b.setIfInBounds i true)):=⟨fun j oj O aA e V hb=>by
    rw[R]at aA ⊢
    rcases CF.1 aA with h|h
    . rw[show B b e.on=true from hd.closed j oj O h e V hb];rfl
    . have:j=i:=by simpa using h
      subst this
      have:oj=o:=Option.some.inj (O.symm.trans aq)
      subst this
      rw[show B b e.on=true from aY e V hb];rfl⟩
   have a8:(n (b.setIfInBounds i true) dQ).length<=fuel:=by
    obtain⟨v,L2,D⟩:=AU aE
    have e1:n (b.setIfInBounds i true) dQ=(n b dQ).filter fun m => !(m.1==i):=by
     simp only[n,EG]
     refine AN fun m _=>?_
     rw[R]
     cases B b m.1<;>cases (m.1==i)<;>rfl
    have:(n (b.setIfInBounds i true) dQ).length<(n b dQ).length:=by
     rw[e1,D,qy,CL]
     simp only[BEq.rfl,Bool.not_true,Ig,if_false,zk,zb]
     have u:=qU (fun m:Nat×List Nat => !(m.1==i)) v
     have F:=qU (fun m:Nat×List Nat => !(m.1==i)) L2
     omega
    omega
   -- what is ahead of m must not be b
   have free:∀ j,(oZ l []).getD i [] |>.contains j->j≠i->B b j=true:=fun j O a6=>by
    have:=adM ba aB i (by rw[R];simp) al j O
    rw[R]at this
    rcases CF.1 this with h|h
    . exact h
    . exact absurd (by simpa using h) a6
   have lS:∀ (N:Nat×List Nat) (d:List Nat),List.Sublist [N,(i,d)] dQ->B b N.1=false->¬ (N.1∈A/\i∈A)->N.1≠i->∀ x,l.toArray[N.1]? = some x->Cm l.toArray N.1 N.2 x d o/\((cat x.op=2\/cat o.op=2)->NP Q):=by
    intro N d bd aS aP bf x E
    obtain⟨X,Y,aT,am⟩:=TZ dQ bd
    rcases Q1 dQ [] a9 X (i,d) Y aT N (by simpa using am) x o E I with (u|u)|u
    . exact absurd u aP
    . have:=free N.1 u bf
      rw[aS]at this
      cases this
    . exact⟨u.1,fun e=>aR (u.2 e)⟩
   have pw:∀ (d:List Nat) (L:List (Nat×List Nat)),(i,d)∈dQ->List.Sublist L (s++I1)->d=[]\/L.Pairwise (LH l.toArray):=fun d L hd D=>by
    rcases CF.1 bc with h0|h0
    . exact .inl (by simpa using zr.1 h0 (i,d) hd)
    . exact .inr ((Th (s++I1) h0).sublist D)
   have key:iG r P l.toArray Q o (k7 r P l.toArray Q (n (b.setIfInBounds i true) s) (WA r P l.toArray Q C (oZ l []) (n (b.setIfInBounds i true) I1) (y (b.setIfInBounds i true)).length (y (b.setIfInBounds i true)))) a w:=by
    have same:∀ L:List (Nat×List Nat),(∀ m∈L,m.1≠i)->n (b.setIfInBounds i true) L=n b L:=fun L D=>AN fun m t=>by
     rw[R]
     have:(m.1==i)=false:=by simpa using D m t
     rw[this,Bool.or_false]
    have aM:i∉A->y (b.setIfInBounds i true)=y b:=fun hA=>AN fun f G=>by
     rw[R]
     have:(f==i)=false:=by simpa using fun e:f=i=>hA (e▸G)
     rw[this,Bool.or_false]
    have cut:∀ (L v L2:List (Nat×List Nat)) (d:List Nat),(L.map (·.1)).Nodup->n b L=v++(i,d) :: L2->n (b.setIfInBounds i true) L=v++L2/\∀ m∈v,m.1≠i:=fun L v L2 d hn D=>by
     have ao:((n b L).map (·.1)).Nodup:=(pe.map _).nodup hn
     rw[D]at ao
     simp only[ni,mh]at ao
     have aF:=zo.1 ao
     have aD:∀ m∈v,m.1≠i:=fun m t e=>aF.2.2 m.1 (zq.2 ⟨m,t,rfl⟩) i za e
     have a2:∀ m∈L2,m.1≠i:=fun m t e=>(zu.1 aF.2.1).1 (zq.2 ⟨m,t,e⟩)
     refine⟨?_,aD⟩
     have e1:n (b.setIfInBounds i true) L=(n b L).filter fun m => !(m.1==i):=by
      simp only[n,EG]
      refine AN fun m _=>?_
      rw[R]
      cases B b m.1<;>cases (m.1==i)<;>rfl
     rw[e1,D,qy,CL]
     simp only[BEq.rfl,Bool.not_true,Ig,if_false]
     rw[vq.2 (fun m t=>by have:=aD m t;simpa using this),vq.2 (fun m t=>by have:=a2 m t;simpa using this)]
    have U:∀ {L:List (Nat×List Nat)} {m:Nat×List Nat},m∈n b L->m∈L/\B b m.1=false:=fun h=>⟨(z7.1 h).1,by simpa using(z7.1 h).2⟩
    have qi:((n b s).map (·.1)).Nodup:=(pe.map _).nodup ag.1
    have aJ:((n b I1).map (·.1)).Nodup:=(pe.map _).nodup ad.2.1
    have af:=(U aE).1
    rw[<-ab]at af
    rcases zj.1 af with af|T
    . rcases zj.1 af with ac|an
      . -- ahead of all
        have G:(i,c)∈n b s:=z7.2 ⟨ac,by rw[ai];rfl⟩
        obtain⟨v,L2,D⟩:=AU G
        obtain⟨aj,ap⟩:=cut s v L2 c ag.1 D
        have aH:List.Sublist (v++(i,c) :: L2) s:=D▸pe
        rw[D,show v++(i,c) :: L2=(v++[(i,c)])++L2 by simp,tA]at h
        refine(Ca I v a w ?_ (pw c v (s0.subset ac) (((vp v _).trans aH).trans (vp s I1))) (fun m t x E=>?_) h).mono fun a w h=>?_
        . rw[D]at qi
          rw[ni]at qi
          exact(zo.1 qi).1
        . have a4:m∈n b s:=by rw[D];exact sj _ t
          refine lS m c (List.Sublist.trans ?_ (aH.trans s0)) (U a4).2 (fun e=>aa (i,c) ac e.2) (ap m t) x E
          exact List.Sublist.append (uw.2 t) (uw.2 za)
        . rw[aj,same I1 (fun z J=>(ae (i,c) ac z J).symm),aM (aa (i,c) ac),tA]
          exact h.2
      . -- one of those in any order
        obtain⟨f,K,aZ⟩:=zq.1 an
        obtain⟨rfl,rfl⟩:f=i/\C f=c:=by simpa using aZ
        have ak:f∈y b:=z7.2 ⟨K,by rw[ai];rfl⟩
        obtain⟨k,hk⟩:∃ k,(y b).length=k+1:=⟨(y b).length-1,by have:=Ic ak;omega⟩
        have eA:y (b.setIfInBounds f true)=(y b).filter fun g => !(g==f):=by
         simp only[y,EG]
         refine AN fun g _=>?_
         rw[R]
         cases B b g<;>cases (g==f)<;>rfl
        have a7:((y b).filter fun g => !(g==f)).length=k:=by
         have e:((y b).filter fun g => !(g==f))=(y b).erase f:=by rw[List.Nodup.erase_eq_filter (nA.sublist pe)];rfl
         rw[e,H9 ak,hk]
         rfl
        rw[hk]at h
        have F:k7 r P l.toArray Q (n b s++[(f,C f)]) (WA r P l.toArray Q C (oZ l []) (n b I1) k ((y b).filter fun g => !(g==f))) a w:=by
         rw[tA]
         refine k7.mono (fun a w h=>?_) _ _ _ h
         unfold WA at h
         refine h f ⟨ak,fun g hg=>?_⟩
         cases hb:((oZ l []).getD f []).contains g with
         | false=>rfl
         | true =>
          have u:=aI f K g (by simpa using hb)
          have F:=free g hb o_
          have H:=(z7.1 hg).2
          rw[F]at H
          cases H
        refine(Ca I (n b s) a w qi (pw (C f) _ (av.subset (zj.2 (.inr an))) (pe.trans (vp s I1))) (fun m t x E=>?_) F).mono fun a w h=>?_
        . have Z:=(U t).1
          refine lS m (C f) (List.Sublist.trans ?_ av) (U t).2 (fun e=>aa m Z e.1) (fun e=>aa m Z (e▸K)) x E
          exact List.Sublist.append (uw.2 Z) (uw.2 an)
        . rw[same s (fun z J e=>aa z J (e▸K)),same I1 (fun z J e=>ay z J (e▸K)),eA,a7]
          exact h.2
    . -- behind them
      have G:(i,c)∈n b I1:=z7.2 ⟨T,by rw[ai];rfl⟩
      obtain⟨v,L2,D⟩:=AU G
      obtain⟨aj,ap⟩:=cut I1 v L2 c ad.2.1 D
      have W:i∉A:=ay (i,c) T
      have ar:List.Sublist (v++(i,c) :: L2) I1:=D▸pe
      have aK:(v.map (·.1)).Nodup:=by
       rw[D,ni]at aJ
       exact(zo.1 aJ).1
      have aL:List.Sublist I1 dQ:=(No s I1).trans au
      have ax:∀ m∈v,∀ x,l.toArray[m.1]? = some x->Cm l.toArray m.1 m.2 x c o/\((cat x.op=2\/cat o.op=2)->NP Q):=fun m t x E=>by
       have a5:m∈n b I1:=by rw[D];exact sj _ t
       refine lS m c (List.Sublist.trans ?_ (ar.trans aL)) (U a5).2 (fun e=>W e.2) (ap m t) x E
       exact List.Sublist.append (uw.2 t) (uw.2 za)
      have aw:∀ m∈n b s,∀ x,l.toArray[m.1]? = some x->Cm l.toArray m.1 m.2 x c o/\((cat x.op=2\/cat o.op=2)->NP Q):=fun m t x E=>by
       have Z:=(U t).1
       refine lS m c (List.Sublist.trans ?_ au) (U t).2 (fun e=>W e.2) (ae m Z (i,c) T) x E
       exact List.Sublist.append (uw.2 Z) (uw.2 T)
      rw[same s (fun z J=>ae z J (i,c) T),aM W,aj]
      by_cases hA0:y b=[]
      . rw[hA0]at h ⊢
        change k7 r P l.toArray Q (n b s) (vk r P l.toArray Q (n b I1)) a w at h
        show iG r P l.toArray Q o (k7 r P l.toArray Q (n b s) (vk r P l.toArray Q (v++L2))) a w
        rw[D,xX,<-tA,show n b s++(v++(i,c) :: L2)=((n b s++v)++[(i,c)])++L2 by simp,tA]at h
        refine(Ca I (n b s++v) a w ?_ (pw c _ (aL.subset T) (pe.append ((vp v _).trans ar))) (fun m t x E=>(zj.1 t).elim (fun h=>aw m h x E) fun h=>ax m h x E) h).mono fun a w h=>?_
        . rw[ni]
          refine zo.2 ⟨qi,aK,fun x E z J e=>?_⟩
          obtain⟨p,hp,rfl⟩:=zq.1 E
          obtain⟨q,hq,rfl⟩:=zq.1 J
          exact ae p (U hp).1 q (ar.subset (sj _ hq)) e
        . rw[xX,<-tA,<-z6,tA]
          exact h.2
      . obtain⟨f,aC⟩:=H8 _ hA0
        have K:=(z7.1 aC).1
        have bb:c=[]/\cat o.op=0:=by
         have u:=zr.1 aQ (i,c) T
         simp only[Bool.or_eq_true]at u
         rcases u with (u|u)|u
         . rw[List.isEmpty_iff]at u
           rw[u]at K
           cases K
         . exfalso
           have F:=zr.1 u f K
           have H:=free f F (fun e=>W (e▸K))
           have h4:=(z7.1 aC).2
           rw[H]at h4
           cases h4
         . rw[nZ]at u
           have F:=u.2
           simp only[aq]at F
           exact⟨by simpa using u.1,CE F⟩
        obtain⟨rfl,aX⟩:=bb
        rw[D]at h
        have F:k7 r P l.toArray Q (n b s++[(i,[])]) (WA r P l.toArray Q C (oZ l []) (v++L2) (y b).length (y b)) a w:=by
         rw[tA]
         refine k7.mono (fun a w h=>?_) _ _ _ h
         show mc r P l.toArray Q (i,[]) _ a w
         unfold mc
         simp only[I]
         refine(S7 (L2:=L2) I aX aK ax (y b).length (y b) a w rfl (nA.sublist pe) (fun f G=>aI f (z7.1 G).1) (fun f G=>⟨fun e=>W (e▸(z7.1 G).1),fun x E=>?_⟩) h).mono fun a w h=>⟨trivial,h⟩
         have a0:(f,C f)∈A.map fun f=>(f,C f):=zq.2 ⟨f,(z7.1 G).1,rfl⟩
         refine lS (f,C f) [] (List.Sublist.trans ?_ bj) (by simpa using(z7.1 G).2) (fun e=>W e.2) (fun e=>W (e▸(z7.1 G).1)) x E
         exact List.Sublist.append (uw.2 a0) (uw.2 T)
        exact(Ca I (n b s) a w qi (.inl rfl) aw F).mono fun a w h=>h.2
   have H:iG r P l.toArray Q o (wpAnyIn (FW r) 0 P .any l.toArray Q fuel (b.setIfInBounds i true)) a w :=
    key.mono fun a' w' h=>ih (b.setIfInBounds i true) a' w' (by simpa using hs) a8 aB h
   unfold wpOpIn
   rw[I]
   unfold iG at H
   show if Region.wanted o (yielded l.toArray a.tmps)=true then _ else _
   split<;>rename_i hw
   . rw[if_pos (show wn l.toArray o a=true from hw)]at H
     exact⟨fun _ _=>trivial,H.upon⟩
   . rw[if_neg (show ¬ wn l.toArray o a=true from hw)]at H
     exact⟨fun _ _=>trivial,H⟩
 have none:∀ L:List (Nat×List Nat),n (Array.replicate l.toArray.size false) L=L:=fun L=>by
  simp only[n,vq]
  grind [Kb]
 have bh:y (Array.replicate l.toArray.size false)=A:=by
  simp only[y,vq]
  grind [Kb]
 refine bg _ _ a _ s_ (by rw[none];simpa using qV aW) ⟨fun j o _ O=>?_⟩ (by rw[none,none,bh];exact h)
 simp only[B,Kb]at O
 cases O
abbrev okF(np:Bool)(l:List Oper)(dQ:List (Nat×List Nat)):Bool:=DR np l dQ [] (fun _=>[]) []
section
def vV:List Oper->Nat->Option Oper
 | [],_=>none
 | o :: _,0=>some o
 | _ :: l,n+1=>vV l n
theorem GV:∀ (l:List Oper) (n:Nat),vV l n=l[n]?
 | [],n=>by simp[vV]
 | o :: l,0=>rfl
 | o :: l,n+1=>by simpa[vV]using GV l n
def pick(l:List Oper):List Nat->List Oper
 | []=>[]
 | i :: is=>match vV l i with
  | some o=>o :: pick l is
  | none=>pick l is
def nC(c:List Nat):List Nat->List (Nat×List Nat)
 | []=>[]
 | [i]=>[(i,c)]
 | i :: is=>(i,[]) :: nC c is
def Af(last:List Nat):List (List Nat×List Nat)->List (Nat×List Nat)
 | []=>nC [] last
 | (is,c) :: rest=>nC c is++Af last rest
def WS(r:Option Nat)(P:Program)(l:List Oper)(Q:Exit->Act->World->Prop)(last:List Nat):List (List Nat×List Nat)->Act->World->Prop
 | [],a,w=>WL r P l.toArray Q (pick l last) a w
 | (is,c) :: rest,a,w=>WL r P l.toArray (Exit.then (fun a w=>jR P l.toArray c a w/\WS r P l Q last rest a w) Q) (pick l is) a w
theorem TY{ops:Array Oper}{o:Oper}(h:kQ r P (Exit.then M Q) o K a w):kQ r P Q o K a w:=by
 unfold kQ at h ⊢
 split<;>rename_i f<;>simp only[f]at h
 . exact h
 . exact h
 . exact h
 . revert h
   generalize (o.semAt r a.eval).run P w=res
   intro b
   have d:LetsOut (Exit.then M Q)->LetsOut Q:=fun⟨a,w,h⟩=>⟨a,w,h⟩
   cases res with
   | ok nx w' =>
    cases nx<;>simp only[Oper.uponIn]at b ⊢ <;> first
     | exact b
     | exact⟨b.1,CallsIn.mono b.2 (fun e g c=>by cases e<;>first|exact c|exact d c)⟩
     | exact⟨b.1,RoundIn.mono b.2 (fun e g c=>by cases e<;>first|exact c|exact d c)⟩
   | halt x w' => cases x<;>simp only[Oper.uponIn]at b ⊢ <;> exact b
theorem Hg{c:List Nat}:∀ (is:List Nat) (a:Act) (w:World),wl r P l.toArray (Exit.then (fun a w=>jR P l.toArray c a w/\M a w) Q) (pick l is) a w->k7 r P l.toArray Q (nC c is) M a w:=by
 intro is
 induction is with
 | nil=>intro a w h;exact h.2
 | cons i is d =>
  intro a w h
  have e:l.toArray[i]? = vV l i:=by rw[GV];simp
  cases is with
  | nil =>
   simp only[nC]
   unfold k7 mc
   simp only[e]
   unfold pick at h
   cases ho:vV l i with
   | none=>rw[ho]at h;exact h.2
   | some o =>
    simp only[ho]at h
    rw[M8]at h
    show iG r P l.toArray Q o _ a w
    unfold iG at h ⊢
    split<;>rename_i b
    . rw[if_pos b]at h
      exact(TY (ops:=l.toArray) h).mono fun a w h=>⟨h.1,h.2⟩
    . rw[if_neg b]at h
      exact⟨h.1,h.2⟩
  | cons f is =>
   simp only[nC]
   unfold k7 mc
   simp only[e]
   unfold pick at h
   cases ho:vV l i with
   | none=>rw[ho]at h;exact d a w h
   | some o =>
    simp only[ho]at h
    rw[M8]at h
    show iG r P l.toArray Q o _ a w
    unfold iG at h ⊢
    split<;>rename_i b
    . rw[if_pos b]at h
      exact(TY (ops:=l.toArray) h).mono fun a w h=>⟨trivial,d a w h⟩
    . rw[if_neg b]at h
      exact⟨trivial,d _ w h⟩
theorem TE{c:List Nat}{rest:List (Nat×List Nat)}(b:∀ a w,M a w->vk r P l.toArray Q rest a w)(is:List Nat)(a:Act)(w:World)(h:wl r P l.toArray (Exit.then (fun a w=>jR P l.toArray c a w/\M a w) Q) (pick l is) a w):vk r P l.toArray Q (nC c is++rest) a w:=by
 rw[xX,tA]
 exact k7.mono (fun a w h=>by have:=b a w h;rw[xX]at this;exact this) _ _ _ (Hg is a w h)
theorem T6{r:Option Nat}{ops:Array Oper}:∀ (l:List Oper) (a:Act) (w:World),wl r P ops Q l a w->wl r P ops (Exit.then (fun a w=>jR P ops [] a w/\Q .normal a w) Q) l a w
 | [],a,w,h=>⟨trivial,h⟩
 | o :: l,a,w,h=>by
  rw[M8]at h ⊢
  have h:=h.mono (T6 l)
  unfold iG at h ⊢
  split<;>rename_i f
  . rw[if_pos f]at h
    unfold kQ at h ⊢
    split<;>rename_i g<;>simp only[g]at h
    . exact h
    . exact h
    . exact h
    . revert h
      generalize (o.semAt r a.eval).run P w=res
      intro b
      have d:LetsOut Q->LetsOut (Exit.then (fun a w=>jR P ops [] a w/\Q .normal a w) Q):=fun⟨a,w,h⟩=>⟨a,w,h⟩
      cases res with
      | ok nx w' =>
       cases nx<;>simp only[Oper.uponIn]at b ⊢ <;> first
        | exact b
        | exact⟨b.1,CallsIn.mono b.2 (fun e i c=>by cases e<;>first|exact c|exact d c)⟩
        | exact⟨b.1,RoundIn.mono b.2 (fun e i c=>by cases e<;>first|exact c|exact d c)⟩
      | halt x w' => cases x<;>simp only[Oper.uponIn]at b ⊢ <;> exact b
  . rw[if_neg f]at h
    exact h
theorem Iw(last:List Nat):∀ (b:List (List Nat×List Nat)) (a:Act) (w:World),WS r P l Q last b a w->vk r P l.toArray Q (Af last b) a w
 | [],a,w,h=>by
  have:=TE (r:=r) (P:=P) (Q:=Q) (l:=l) (M:=fun a w=>Q .normal a w) (c:=[]) (rest:=[]) (fun a w h=>h) last a w (T6 _ _ _ h.out)
  simpa[Af]using this
 | (is,c) :: rest,a,w,h=>TE (Iw last rest) is a w h.out
theorem jS{id n:Nat}{ds:List Deferred}(hm:P.follows .mixedOrders=true)(a:List (List Nat×List Nat))(last:List Nat)(d:St bs L w)(K:∀ w', St bs L w' -> WS r P l Q last a (Fr n s ds) w')(b:∃ np,(np=false\/NP Q)/\okF np l (Af last a)=true:=by first|exact⟨true,.inr inferInstance,by kernel_rfl⟩|exact⟨false,.inl rfl,by kernel_rfl⟩) :
 WP r P (.region id l.toArray true) Q (Fr n s ds) w:=b.elim fun _ ⟨c,b⟩=>LQ (Af last a) [] (fun _=>[]) [] hm b c (by have:=Iw last a _ _ (K _ (d.grow (gE.drew [] w)));rw[xX]at this;exact this)
theorem SO:∀ (a l1:List Oper),pick (l1++a) (List.range' l1.length a.length)=a
 | [],l1=>rfl
 | o :: a,l1=>by
  rw[zb,List.range'_succ]
  unfold pick
  rw[GV,Nk (zh _)]
  have:=SO a (l1++[o])
  simpa using this
theorem LR{id n:Nat}{ds:List Deferred}(hm:P.follows .mixedOrders=true)(b:St bs L w)(K:∀ w', St bs L w' -> WL r P l.toArray Q l (Fr n s ds) w')(a:∃ np,(np=false\/NP Q)/\okF np l (Af (List.range' 0 l.length) [])=true) :
 WP r P (.region id l.toArray true) Q (Fr n s ds) w:=jS hm [] (List.range' 0 l.length) b (fun w' h=>by
 have:=SO l []
 show WL r P l.toArray Q (pick l (List.range' 0 l.length)) _ _
 rw[show pick l (List.range' 0 l.length)=l from this]
 exact K w' h) a
variable{n:Nat}{ds:List Deferred}{is c last:List Nat}{rest:List (List Nat×List Nat)}
theorem iY(h:WL r P l.toArray (Exit.then (fun a w=>jR P l.toArray c a w/\WS r P l Q last rest a w) Q) l' (Fr n s ds) w)(b:pick l is=l' := by rfl):WS r P l Q last ((is,c) :: rest) (Fr n s ds) w:=by subst b;exact h
theorem jX(h:WL r P l.toArray Q l' (Fr n s ds) w)(a:pick l last=l' := by rfl):WS r P l Q last [] (Fr n s ds) w:=by subst a;exact h
theorem nF{ops:Array Oper}(hc:jR P ops c (Fr n s ds) w)(h:M (Fr n s ds) w):Exit.then (fun a w=>jR P ops c a w/\M a w) Q .normal (Fr n s ds) w:=⟨hc,h⟩
theorem mZ{ops:Array Oper}{o:Oper}{d:Nat}(h:(execOp (ev n s) o).run P w = .ok (.value v) w)(hd:o.dst=some d)(hv:look s d=v):rZ P ops o (Fr n s ds) w:=by
 refine .inr ⟨v,by rw[tK, h],?_⟩
 rw[hd,vu]
 refine EV ds fun t=>?_
 rw[uV]
 split
 . rename_i e;subst e;exact hv.symm
 . rfl
theorem ku{ops:Array Oper}{k:Nat}{b:List Nat}{o:Oper}(hk:vV ops.toList k=some o)(h:rZ P ops o (Fr n s ds) w)(hs:jR P ops b (Fr n s ds) w):jR P ops (k :: b) (Fr n s ds) w :=
 ⟨fun c a=>by rw[GV]at hk;simp at hk;rw[hk]at a;cases a;exact h,hs⟩
def zO:List (Nat×List Nat)->Nat->List Nat
 | [],_=>[]
 | (i,c) :: l,f=>bif Nat.beq i f then c else zO l f
theorem xI{id:Nat}(hm:P.follows .mixedOrders=true)(b A:List Nat)(C:List (Nat×List Nat))(last:List Nat)(e:St bs L w)(K:∀ w', St bs L w' -> WL r P l.toArray (Exit.then (fun a w=>jR P l.toArray [] a w/\WA r P l.toArray Q (zO C) (oZ l []) (nC [] last) A.length A a w) Q) (pick l b) (Fr n s ds) w')
 (c:∃ np,(np=false\/NP Q)/\DR np l (nC [] b) A (zO C) (nC [] last)=true:=by first|exact⟨true,.inr inferInstance,by kernel_rfl⟩|exact⟨false,.inl rfl,by kernel_rfl⟩):WP r P (.region id l.toArray true) Q (Fr n s ds) w :=
 c.elim fun _ ⟨d,c⟩=>LQ (nC [] b) A (zO C) (nC [] last) hm c d (Hg b _ _ (K _ (e.grow (gE.drew [] w))).out)
theorem xY(h:WL r P l.toArray (Exit.then M Q) l' (Fr n s ds) w)(a:pick l is=l' := by rfl):WL r P l.toArray (Exit.then M Q) (pick l is) (Fr n s ds) w:=by subst a;exact h
theorem stI{f:Nat}(h:WL r P l.toArray (Exit.then (fun a w=>jR P l.toArray c a w/\M a w) Q) l' (Fr n s ds) w)(b:pick l [f]=l' := by rfl):mc r P l.toArray Q (f,c) M (Fr n s ds) w:=by
 subst b
 exact Hg [f] _ _ h.out
theorem U2{C:Nat->List Nat}{pre:List (List Nat)}{A:List Nat}(h:WL r P l.toArray Q l' (Fr n s ds) w)(a:pick l last=l' := by rfl):WA r P l.toArray Q C pre (nC [] last) 0 A (Fr n s ds) w:=by
 subst a
 exact Iw (r:=r) (P:=P) (Q:=Q) (l:=l) last [] (Fr n s ds) w h
end
section
variable{rest:List Oper}{n:Nat}{ds:List Deferred}
variable{d:Nat}{dd:Option Nat}{ty t:TypeId}{pos:String}{af:Array Edge}{g:Option (Nat×Bool)}{x:Operand}{cs:Array Value}{u:TypeDesc}
theorem Y5{a:Array Field}{f:Field}(e:ev n s x = .agg cs)(ht:P.underlying t=some (.struct a))(c:a[i]? = some f)(b:P.underlying f.type=some u)(d:kJ u=false)(hv:cs[f.offset]? = some v) :
 (execOp (ev n s) ⟨dd,.field t x i,ty,pos,af,g⟩).run P w = .ok (.value v) w:=by
 simp[execOp,e,Instr.field,asAgg,run_underlying ht,c,part,vZ b,d,hv]
theorem J8{a:Array Field}{f:Field}(e:gA ops n s g=true)(j:ev n s x = .agg cs)(ht:P.underlying t=some (.struct a))(c:a[i]? = some f)(b:P.underlying f.type=some u)(h:kJ u=false)(hv:cs[f.offset]? = some v)(K:WL r P ops Q rest (Fr n ((d,v) :: s) ds) w):WL r P ops Q (⟨some d,.field t x i,ty,pos,af,g⟩ :: rest) (Fr n s ds) w:=pw e (fun _=>Y5 j ht c b h hv) K
end
section
variable{rest:List Oper}{n:Nat}{ds:List Deferred}
variable{d:Nat}{dd:Option Nat}{ty t t' e:TypeId}{pos:String}{af:Array Edge}{g:Option (Nat×Bool)}{x y:Operand}{a:Option Addr}{c:Bool}
theorem TA(k:Nat)(ht:P.underlying t=some (.pointer e)):(Op.equalIn (k+1) t (.pointer a) (.pointer none)).run P w = .ok a.isNone w:=by
 cases a<;>simp[Op.equalIn,run_underlying ht]
theorem YD(b:ev n s x = .pointer a)(d:ev n s y = .pointer none)(ht:P.underlying t=some (.pointer e))(hc:a.isNone=c) :
 (execOp (ev n s) ⟨dd,.binOp .eql t x y t', ty,pos,af,g⟩).run P w = .ok (.value (.bool c)) w:=by
 subst hc
 simp[execOp,b,d,eqGuard,binOp,Op.equal,Op.maxDepth,TA 9999 ht]
theorem mG(b:gA ops n s g=true)(f:ev n s x = .pointer a)(h:ev n s y = .pointer none)(ht:P.underlying t=some (.pointer e))(hc:a.isNone=c)(K:WL r P ops Q rest (Fr n ((d,.bool c) :: s) ds) w):WL r P ops Q (⟨some d,.binOp .eql t x y t', ty,pos,af,g⟩ :: rest) (Fr n s ds) w:=pw b (fun _=>YD f h ht hc) K
theorem acE(b:ev n s x = .pointer a)(d:ev n s y = .pointer none)(ht:P.underlying t=some (.pointer e))(hc:(!a.isNone)=c) :
 (execOp (ev n s) ⟨dd,.binOp .neq t x y t', ty,pos,af,g⟩).run P w = .ok (.value (.bool c)) w:=by
 subst hc
 simp[execOp,b,d,eqGuard,binOp,Op.equal,Op.maxDepth,TA 9999 ht]
theorem lF(b:gA ops n s g=true)(f:ev n s x = .pointer a)(h:ev n s y = .pointer none)(ht:P.underlying t=some (.pointer e))(hc:(!a.isNone)=c)(K:WL r P ops Q rest (Fr n ((d,.bool c) :: s) ds) w):WL r P ops Q (⟨some d,.binOp .neq t x y t', ty,pos,af,g⟩ :: rest) (Fr n s ds) w:=pw b (fun _=>acE f h ht hc) K
end
section
variable{n:Nat}{w0:World}{fn:Func}{x:ResultVar}{T:TypeId}
theorem St.LS(h:St bs L w)(hb:(w0,[])∈bs)(a:(blk b T cs).holds w0):(blk b T cs).holds w :=
 (h.keep hb (su.1 a).1 s_).trans a
end
def Jk(P:Program):List (Nat×TypeDesc)->Prop
 | []=>True
 | p :: l=>P.underlying p.1=some p.2/\Jk P l
def allI(P:Program):List (Nat×Nat×Nat×Value)->Prop
 | []=>True
 | p :: l=>TI P p.1 p.2.1 p.2.2.1 p.2.2.2/\allI P l
class TT (P:Program) where
 mx:P.follows .mixedOrders=true
 u:List (Nat×TypeDesc)
 i:List (Nat×Nat×Nat×Value)
 mA:Jk P u
 oC:allI P i
def jt{α:Type}:List (Nat×α)->Nat->Option α
 | [],_=>none
 | p :: l,t=>bif Nat.beq p.1 t then some p.2 else jt l t
theorem l8{P:Program}:∀ {l:List (Nat×TypeDesc)} {t:Nat} {u:TypeDesc},Jk P l->jt l t=some u->P.underlying t=some u
 | [],_,_,_,h=>by simp[jt]at h
 | p :: l,t,u,hl,h=>by
  simp only[jt]at h
  cases hb:Nat.beq p.1 t with
  | true=>rw[hb]at h;simp at h;rw[<-CE hb,<-h];exact hl.1
  | false=>rw[hb]at h;exact l8 hl.2 h
theorem nQ{P:Program}:∀ {l:List (Nat×Nat×Nat×Value)} {t a b:Nat} {z:Value},allI P l->jt l t=some (a,b,z)->TI P t a b z
 | [],_,_,_,_,_,h=>by simp[jt]at h
 | p :: l,t,a,b,z,hl,h=>by
  simp only[jt]at h
  cases hb:Nat.beq p.1 t with
  | true=>rw[hb]at h;simp at h;have c:=hl.1;rw[h,CE hb]at c;exact c
  | false=>rw[hb]at h;exact nQ hl.2 h
section
structure SL (T:TT P) (J:World->Prop) (bs:List (World×List Nat)) (L:List fJ) (N:Nat) (r:Option Nat) (ops:Array Oper) (Q:Exit->Act->World->Prop) (l:List Oper) (a:Act):Prop where
 out:∀ w,J w->St bs L w->WL r P ops Q l a w
structure SP (T:TT P) (J:World->Prop) (bs:List (World×List Nat)) (L:List fJ) (N:Nat) (r:Option Nat) (Q:Exit->Act->World->Prop) (c:Code) (a:Act):Prop where
 out:∀ w,J w->St bs L w->WP r P c Q a w
structure SQ (T:TT P) (J:World->Prop) (bs:List (World×List Nat)) (L:List fJ) (N:Nat) (r:Option Nat) (Q:Exit->Act->World->Prop) (e:Exit) (a:Act):Prop where
 out:∀ w,J w->St bs L w->Q e a w
def Kc(r:Option Nat)(P:Program)(Y:Code)(Q:Exit->Act->World->Prop):Act->World->Prop:=fun a w=>WP r P Y Q a w
variable{T:TT P}{J:World->Prop}{L':List fJ}{rest:List Oper}{n:Nat}{ds:List Deferred}{w' w0:World}
variable{N d j:Nat}{ty t:TypeId}{pos:String}{af:Array Edge}{g:Option (Nat×Bool)}{x y z:Operand}{X Y:Code}
theorem SP.sq(K:SP T J bs L N r (Exit.then (Kc r P Y Q) Q) X a):SP T J bs L (N+1) r Q (.seq X Y) a:=⟨fun w j h=>wpIn_seq (K.out w j h)⟩
theorem SP.rg{id:Nat}(K:SL T J bs L N r l.toArray Q l (Fr n s ds)):SP T J bs L (N+1) r Q (.region id l.toArray false) (Fr n s ds):=⟨fun w j h=>Go.Sx.rg (K.out w j h)⟩
theorem SP.LR{id:Nat}(K:SL T (fun _=>True) bs L N r l.toArray Q l (Fr n s ds))(a:∃ np,(np=false\/NP Q)/\okF np l (Af (List.range' 0 l.length) [])=true:=by first|exact⟨true,.inr inferInstance,by kernel_rfl⟩|exact⟨false,.inl rfl,by kernel_rfl⟩):SP T (fun _=>True) bs L (N+1) r Q (.region id l.toArray true) (Fr n s ds):=⟨fun w _ h=>Go.Sx.LR T.mx h (fun w' hs=>K.out w' trivial hs) a⟩
theorem SP.cT{c:Operand}(K:SP T J bs L N r Q X (Fr n s ds))(hc:ev n s c = .bool true:=by exact rfl):SP T J bs L (N+1) r Q (.cond c X Y) (Fr n s ds):=⟨fun w j h=>Xa hc (K.out w j h)⟩
theorem SP.cF{c:Operand}(K:SP T J bs L N r Q Y (Fr n s ds))(hc:ev n s c = .bool false:=by exact rfl):SP T J bs L (N+1) r Q (.cond c X Y) (Fr n s ds):=⟨fun w j h=>W9 hc (K.out w j h)⟩
theorem SP.bk{id:Nat}(K:SP T J bs L N r (Exit.inBlock id Q) X (Fr n s ds)):SP T J bs L (N+1) r Q (.block id X) (Fr n s ds):=⟨fun w j h=>Go.Sx.bk (K.out w j h)⟩
theorem SP.sp(K:SQ T J bs L N r Q .normal (Fr n s ds)):SP T J bs L (N+1) r Q .skip (Fr n s ds):=⟨fun w j h=>Go.Sx.sp (K.out w j h)⟩
theorem SP.xt{id:Nat}(K:SQ T J bs L N r Q (.exit id) (Fr n s ds)):SP T J bs L (N+1) r Q (.exit id) (Fr n s ds):=⟨fun w j h=>Go.Sx.xt (K.out w j h)⟩
theorem SP.rt(K:SQ T J bs L N r Q .ret (Fr n s ds)):SP T J bs L (N+1) r Q .ret (Fr n s ds):=⟨fun w j h=>Go.Sx.rt (K.out w j h)⟩
theorem SQ.tN(K:SP T J bs L N r Q Y a):SQ T J bs L (N+1) r (Exit.then (Kc r P Y Q) Q) .normal a:=⟨fun w j h=>K.out w j h⟩
theorem SQ.tX(K:SQ T J bs L N r Q (.exit j) a):SQ T J bs L (N+1) r (Exit.then K' Q) (.exit j) a:=⟨fun w j h=>K.out w j h⟩
theorem SQ.tR(K:SQ T J bs L N r Q .ret a):SQ T J bs L (N+1) r (Exit.then K' Q) .ret a:=⟨fun w j h=>K.out w j h⟩
theorem SQ.bN(K:SQ T J bs L N r Q .normal a):SQ T J bs L (N+1) r (Exit.inBlock i Q) .normal a:=⟨fun w j h=>K.out w j h⟩
theorem SQ.bR(K:SQ T J bs L N r Q .ret a):SQ T J bs L (N+1) r (Exit.inBlock i Q) .ret a:=⟨fun w j h=>K.out w j h⟩
theorem SQ.bX(K:SQ T J bs L N r Q .normal a):SQ T J bs L (N+1) r (Exit.inBlock i Q) (.exit i) a:=⟨fun w j h=>Go.Sx.bX (K.out w j h)⟩
theorem SQ.Jn(K:SQ T J bs L N r Q (.exit j) a)(b:Nat.beq j i=false:=by exact rfl):SQ T J bs L (N+1) r (Exit.inBlock i Q) (.exit j) a:=⟨fun w j h=>Go.Sx.Jn b (K.out w j h)⟩
theorem SQ.L7(K:SQ T J bs L N r Q .normal a):SQ T J bs L (N+1) r (vU Q) .normal a:=⟨fun w j h=>Go.Sx.L7 (K.out w j h)⟩
theorem SQ.L9(K:SQ T J bs L N r Q (.exit j) a):SQ T J bs L (N+1) r (vU Q) (.exit j) a:=⟨fun w j h=>Go.Sx.L9 (K.out w j h)⟩
theorem SQ.L8(K:SQ T J bs L N r Q .ret a):SQ T J bs L (N+1) r (vU Q) .ret a:=⟨fun w j h=>Go.Sx.L8 (K.out w j h)⟩
theorem SP.scp(K:SP T J bs L N r (vU Q) X a):SP T J bs L (N+1) r Q (.scope X) a:=⟨fun w j h=>Go.Sx.scp (K.out w j h)⟩
theorem SP.KK{l:Nat}(K:SQ T J bs L N r Q .normal a):SP T J bs L (N+1) r Q (.label l) a:=⟨fun w j h=>Go.Sx.KK (K.out w j h)⟩
theorem SL.nil(K:SQ T J bs L N r Q .normal (Fr n s ds)):SL T J bs L (N+1) r ops Q [] (Fr n s ds):=⟨fun w j h=>ahI (K.out w j h)⟩
theorem SL.sk{b:Op}{g:Nat×Bool}(K:SL T J bs L N r ops Q rest (Fr n ((d,undef) :: s) ds))(a:gA ops n s (some g)=false:=by exact rfl):SL T J bs L (N+1) r ops Q (⟨some d,b,ty,pos,af,some g⟩ :: rest) (Fr n s ds):=⟨fun w j h=>Go.Sx.sk a (K.out w j h)⟩
theorem sO{R:fJ}{L:List fJ}:(R :: L)[0]? = some R:=rfl
theorem sP{R a:fJ}{L:List fJ}:(a :: R :: L)[1]? = some R:=rfl
theorem oO{R a b:fJ}{L:List fJ}:(a :: b :: R :: L)[2]? = some R:=rfl
theorem oP{R a b c:fJ}{L:List fJ}:(a :: b :: c :: R :: L)[3]? = some R:=rfl
theorem sQ{R a b c d:fJ}{L:List fJ}:(a :: b :: c :: d :: R :: L)[4]? = some R:=rfl
theorem sR{R a b c d e:fJ}{L:List fJ}:(a :: b :: c :: d :: e :: R :: L)[5]? = some R:=rfl
theorem Pz{a:Int}:(Value.int k a).cells.toList=[Value.int k a]:=rfl
theorem Py{a:Bool}:(Value.bool a).cells.toList=[Value.bool a]:=rfl
theorem PA{a:Option Addr}:(Value.pointer a).cells.toList=[Value.pointer a]:=rfl
theorem PB{a:Option Addr}{c:Nat}:(Value.slice a m c).cells.toList=[Value.slice a m c]:=rfl
theorem Px{l:List Value}:(Value.agg l.toArray).cells.toList=l:=by simp[Value.cells]
theorem sS{R a b c d e f:fJ}{L:List fJ}:(a :: b :: c :: d :: e :: f :: R :: L)[6]? = some R:=rfl
theorem sU{R a b c d e f g:fJ}{L:List fJ}:(a :: b :: c :: d :: e :: f :: g :: R :: L)[7]? = some R:=rfl
def Ci:List Value->Nat->(List Value->Option (List Value))->Option (List Value)
 | _,0,k=>k []
 | v :: l,m+1,k=>Ci l m fun r=>k (v :: r)
 | [],_+1,_=>none
def sub' (l:List Value)(o m:Nat):Option (List Value):=Ci (l.drop o) m some
theorem Mz:∀ (l:List Value) (m:Nat) (k:List Value->Option (List Value)),Ci l m k=if m<=l.length then k (l.take m)else none
 | l,0,k=>by simp[Ci]
 | v :: l,m+1,k=>by simp[Ci,Mz l m]
 | [],m+1,k=>by simp[Ci]
theorem xP{l:List Value}(h:sub' l o m=some vs):vs.length=m:=by
 unfold sub' at h
 rw[Mz]at h
 split at h
 . rename_i a
   simp at h
   rw[<-h,zw]
   omega
 . cases h
theorem Aj{l:List Value}(h:sub' l o m=some vs):(l.drop o).take vs.length=vs:=by
 rw[xP h]
 unfold sub' at h
 rw[Mz]at h
 split at h
 . simpa using h
 . cases h
theorem SL.mv(K:SL T J bs L N r ops Q rest (Fr n ((d,v) :: s) ds)) (b:ev n s x=v:=by conv=>lhs;whnf) (a:gA ops n s g=true:=by exact rfl):SL T J bs L (N+1) r ops Q (⟨some d,.move x,ty,pos,af,g⟩ :: rest) (Fr n s ds):=⟨fun w j h=>pw a (fun _=>Sf b) (K.out w j h)⟩
theorem SL.ixW{α:Type}{cf:α->List Value}{xs:List α}{e e':TypeId}{kk:IntKind}{k sz by_ i:Nat}{m:Value}(K:SL T J bs L N r ops Q rest (Fr n ((d,j8 sz v k 0) :: s) ds))(f:ev n s x=v:=by conv=>lhs;whnf)(l:ev n s y = .int kk (k:Nat):=by exact rfl)(a:jt T.u t=some (.slice e):=by exact rfl)(ht:jt T.i e=some (sz,by_,m):=by exact rfl)(hi:L[i]? = some (cL cf v e' sz xs):=by first|exact sO|exact sP|exact oO|exact oP|exact sQ|exact sR|exact sS|exact sU)(o:Inhabited α:=by infer_instance)(c:∀ x:α,(cf x).length=sz:=by exact fun _=>rfl)(hk:k<xs.length:=by first|omega|(simp only[gd];omega))(b:gA ops n s g=true:=by exact rfl):SL T J bs L (N+1) r ops Q (⟨some d,.indexAddr t x y,ty,pos,af,g⟩ :: rest) (Fr n s ds):=⟨fun w j h=>pw b (fun _=>KA f l (l8 T.mA a) (nQ T.oC ht) (St.Ae h hi c) o_ o_ (fW hk)) (K.out w j h)⟩
theorem SL.YK{α:Type}{cf:α->List Value}{xs:List α}{e':TypeId}{i q k sz off off' byf:Nat}{zf:Value}{fields:Array Field}{f:Field}(K:SL T J bs L N r ops Q rest (Fr n ((d,j8 sz v k off') :: s) ds))(m:ev n s x=j8 sz v k off:=by exact rfl)(a:jt T.u t=some (.struct fields):=by exact rfl)(b:fields[i]? = some f:=by exact rfl)(ht:jt T.i f.type=some (lo+1,byf,zf):=by exact rfl)(l:off+f.offset=off' := by conv=>lhs;whnf)(hi:L[q]? = some (cL cf v e' sz xs):=by first|exact sO|exact sP|exact oO|exact oP|exact sQ|exact sR|exact sS|exact sU)(o:Inhabited α:=by infer_instance)(e:∀ x:α,(cf x).length=sz:=by exact fun _=>rfl)(hk:k<xs.length:=by first|omega|(simp only[gd];omega))(c:gA ops n s g=true:=by exact rfl):SL T J bs L (N+1) r ops Q (⟨some d,.fieldAddr t x i,ty,pos,af,g⟩ :: rest) (Fr n s ds):=⟨fun w j h=>pw c (fun _=>Qn m (l8 T.mA a) b (nQ T.oC ht) l (St.Ae h hi e) (fW hk)) (K.out w j h)⟩
theorem SL.KM{α:Type}{cf:α->List Value}{xs:List α}{e':TypeId}{q k sz off:Nat}{ud:TypeDesc}{u:Value}(K:SL T J bs L N r ops Q rest (Fr n ((d,v) :: s) ds))(f:ev n s x=j8 sz u k off:=by exact rfl)(a:jt T.u t=some ud:=by exact rfl)(e:kJ ud=false:=by exact rfl)(hi:L[q]? = some (cL cf u e' sz xs):=by first|exact sO|exact sP|exact oO|exact oP|exact sQ|exact sR|exact sS|exact sU)(i:Inhabited α:=by infer_instance)(c:∀ x:α,(cf x).length=sz:=by exact fun _=>rfl)(hk:k<xs.length:=by first|omega|(simp only[gd];omega))(hv:(cf (cE xs k))[off]? = some v:=by exact rfl)(b:gA ops n s g=true:=by exact rfl):SL T J bs L (N+1) r ops Q (⟨some d,.load t x,ty,pos,af,g⟩ :: rest) (Fr n s ds):=⟨fun w j h=>pv b rfl (BW f (l8 T.mA a) e (St.Ae h hi c) (fW hk) hv) (K.out w j h)⟩
theorem SL.YI{i k sz off off' byf:Nat}{zf:Value}{fields:Array Field}{f:Field}(K:SL T J bs L N r ops Q rest (Fr n ((d,.pointer (some ⟨b,k*sz+off', none⟩)) :: s) ds))(m:ev n s x = .pointer (some ⟨b,k*sz+off,none⟩):=by exact rfl)(a:jt T.u t=some (.struct fields):=by exact rfl)(c:fields[i]? = some f:=by exact rfl)(ht:jt T.i f.type=some (lo+1,byf,zf):=by exact rfl)(l:off+f.offset=off' := by conv=>lhs;whnf)(e:gA ops n s g=true:=by exact rfl):SL T J bs L (N+1) r ops Q (⟨some d,.fieldAddr t x i,ty,pos,af,g⟩ :: rest) (Fr n s ds):=⟨fun w j h=>pw e (fun _=>F7 m (l8 T.mA a) c (nQ T.oC ht) (by rw[<-l,lW])) (K.out w j h)⟩
theorem SL.fa{i szf:Nat}{zf:Value}{fields:Array Field}{f:Field}(K:SL T J bs L N r ops Q rest (Fr n ((d,.pointer (some ⟨b,o', none⟩)) :: s) ds))(l:ev n s x = .pointer (some ⟨b,o,none⟩):=by exact rfl)(a:jt T.u t=some (.struct fields):=by exact rfl)(c:fields[i]? = some f:=by exact rfl)(ht:jt T.i f.type=some (szf+1,m,zf):=by exact rfl)(k:o+f.offset=o' := by conv=>lhs;whnf)(e:gA ops n s g=true:=by exact rfl):SL T J bs L (N+1) r ops Q (⟨some d,.fieldAddr t x i,ty,pos,af,g⟩ :: rest) (Fr n s ds):=⟨fun w j h=>pw e (fun _=>F7 l (l8 T.mA a) c (nQ T.oC ht) k) (K.out w j h)⟩
theorem SL.ld{i:Nat}{a:TypeId}{ud:TypeDesc}(K:SL T J bs L N r ops Q rest (Fr n ((d,v) :: s) ds))(k:ev n s x = .pointer (some ⟨b,o,none⟩):=by exact rfl)(c:jt T.u t=some ud:=by exact rfl)(f:kJ ud=false:=by exact rfl)(hi:L[i]? = some (blk b a cs):=by first|exact sO|exact sP|exact oO|exact oP|exact sQ|exact sR|exact sS|exact sU)(hv:cs[o]? = some v:=by exact rfl)(e:gA ops n s g=true:=by exact rfl):SL T J bs L (N+1) r ops Q (⟨some d,.load t x,ty,pos,af,g⟩ :: rest) (Fr n s ds):=⟨fun w j h=>pv e rfl (s8 k (l8 T.mA c) f (h.tZ hi hv)) (K.out w j h)⟩
theorem SL.Rn{α:Type}{cf:α->List Value}{xs:List α}{k sz off i:Nat}{a:TypeId}{ud:TypeDesc}(K:SL T J bs L N r ops Q rest (Fr n ((d,v) :: s) ds))(m:ev n s x = .pointer (some ⟨b,k*sz+off,none⟩):=by exact rfl)(c:jt T.u t=some ud:=by exact rfl)(l:kJ ud=false:=by exact rfl)(hi:L[i]? = some (blk b a (xs.flatMap cf)):=by first|exact sO|exact sP|exact oO|exact oP|exact sQ|exact sR|exact sS|exact sU)(o:Inhabited α:=by infer_instance)(f:∀ x:α,(cf x).length=sz:=by exact fun _=>rfl)(hk:k<xs.length:=by first|omega|(simp only[gd];omega))(hv:(cf (cE xs k))[off]? = some v:=by exact rfl)(e:gA ops n s g=true:=by exact rfl):SL T J bs L (N+1) r ops Q (⟨some d,.load t x,ty,pos,af,g⟩ :: rest) (Fr n s ds):=⟨fun w j h=>pv e rfl (s8 m (l8 T.mA c) l (St.LJ h hi f hk hv)) (K.out w j h)⟩
theorem SL.Rq{a:TypeId}{ud:TypeDesc}(K:SL T J bs L N r ops Q rest (Fr n ((d,v) :: s) ds))(i:ev n s x = .pointer (some ⟨b,o,none⟩):=by exact rfl)(c:jt T.u t=some ud:=by exact rfl)(f:kJ ud=false:=by exact rfl)(hi:(blk b a cs).holds w0:=by assumption)(hb:(w0,[])∈bs:=by simp)(hv:cs[o]? = some v:=by exact rfl)(e:gA ops n s g=true:=by exact rfl):SL T J bs L (N+1) r ops Q (⟨some d,.load t x,ty,pos,af,g⟩ :: rest) (Fr n s ds):=⟨fun w j h=>pv e rfl (s8 i (l8 T.mA c) f (St.LU h hb hi hv)) (K.out w j h)⟩
theorem SL.Rs{α:Type}{cf:α->List Value}{xs:List α}{k sz off:Nat}{a:TypeId}{ud:TypeDesc}(K:SL T J bs L N r ops Q rest (Fr n ((d,v) :: s) ds))(l:ev n s x = .pointer (some ⟨b,k*sz+off,none⟩):=by exact rfl)(c:jt T.u t=some ud:=by exact rfl)(i:kJ ud=false:=by exact rfl)(hi:(blk b a (xs.flatMap cf)).holds w0:=by assumption)(m:Inhabited α:=by infer_instance)(hb:(w0,[])∈bs:=by simp)(f:∀ x:α,(cf x).length=sz:=by exact fun _=>rfl)(hk:k<xs.length:=by first|omega|(simp only[gd];omega))(hv:(cf (cE xs k))[off]? = some v:=by exact rfl)(e:gA ops n s g=true:=by exact rfl):SL T J bs L (N+1) r ops Q (⟨some d,.load t x,ty,pos,af,g⟩ :: rest) (Fr n s ds):=⟨fun w j h=>pv e rfl (s8 l (l8 T.mA c) i (St.Tu h hb hi f hk hv)) (K.out w j h)⟩
theorem SL.kq(K:SL T J bs L N r ops Q rest (Fr n ((d,v) :: s) ds)) (b:ev n s x=v:=by conv=>lhs;whnf) (a:gA ops n s g=true:=by exact rfl):SL T J bs L (N+1) r ops Q (⟨some d,.assign x,ty,pos,af,g⟩ :: rest) (Fr n s ds):=⟨fun w j h=>pw a (fun _=>O4 b) (K.out w j h)⟩
theorem SL.xB{p:Addr}(K:SL T J bs L N r ops Q rest (Fr n ((d,.pointer (some p)) :: s) ds))(b:ev n s x = .pointer (some p):=by exact rfl)(a:gA ops n s g=true:=by exact rfl):SL T J bs L (N+1) r ops Q (⟨some d,.nilCheck x,ty,pos,af,g⟩ :: rest) (Fr n s ds):=⟨fun w j h=>pw a (fun _=>Lm b) (K.out w j h)⟩
theorem SL.cmp{e:BinOp}{t':TypeId}{a b:Int}{c:Bool}(K:SL T J bs L N r ops Q rest (Fr n ((d,.bool c) :: s) ds))(i:ev n s x = .int k a:=by exact rfl)(l:ev n s y = .int k b:=by exact rfl)(hc:lg e a b=some c:=by first|exact sW (by first|assumption|exact rfl|decide)|exact uO (by first|assumption|exact rfl|decide)|exact pL (by first|assumption|exact rfl|decide)|exact kT (by first|assumption|exact rfl|decide)|exact vH (by first|assumption|exact rfl|decide)|exact JA (by first|assumption|exact rfl|decide)|exact Jz (by first|assumption|exact rfl|decide)|exact q7 (by first|assumption|exact rfl|decide)|exact PC (by first|assumption|exact rfl|decide)|exact ow (by first|assumption|exact rfl|decide)|exact ot (by first|assumption|exact rfl|decide)|exact p9 (by first|assumption|exact rfl|decide))(f:gA ops n s g=true:=by exact rfl):SL T J bs L (N+1) r ops Q (⟨some d,.binOp e t x y t', ty,pos,af,g⟩ :: rest) (Fr n s ds):=⟨fun w j h=>pw f (fun _=>PW i l hc) (K.out w j h)⟩
theorem SL.ar{f:BinOp}{t':TypeId}{a b c:Int}(K:SL T J bs L N r ops Q rest (Fr n ((d,.int k e) :: s) ds))(m:ev n s x = .int k a:=by exact rfl)(o:ev n s y = .int k b:=by exact rfl)(hc:Bx f a b=some c:=by exact rfl)(l:k.wrap c=e:=by first|exact kX o_|exact Ej o_|exact U1 o_|exact w32u o_)(i:gA ops n s g=true:=by exact rfl):SL T J bs L (N+1) r ops Q (⟨some d,.binOp f t x y t', ty,pos,af,g⟩ :: rest) (Fr n s ds):=⟨fun w j h=>pw i (fun _=>O2 m o hc l) (K.out w j h)⟩
theorem SL.ex{i:Nat}{vs:Array Value}(K:SL T J bs L N r ops Q rest (Fr n ((d,v) :: s) ds))(b:ev n s x = .tuple vs:=by exact rfl)(hv:vs[i]? = some v:=by exact rfl)(a:gA ops n s g=true:=by exact rfl):SL T J bs L (N+1) r ops Q (⟨some d,.extract x i,ty,pos,af,g⟩ :: rest) (Fr n s ds):=⟨fun w j h=>pw a (fun _=>YH b hv) (K.out w j h)⟩
theorem SL.ixK{e:TypeId}{kk:IntKind}{c k sz:Nat}{q:Value}(K:SL T J bs L N r ops Q rest (Fr n ((d,.pointer (some ⟨b,k*sz+0,none⟩)) :: s) ds))(o:ev n s x = .slice (some ⟨b,0,none⟩) m c:=by exact rfl)(p:ev n s y = .int kk (k:Nat):=by exact rfl)(f:jt T.u t=some (.slice e):=by exact rfl)(ht:jt T.i e=some (sz,lo,q):=by exact rfl)(a:(k:Int)<m:=by first|omega|(simp only[gd];omega))(l:gA ops n s g=true:=by exact rfl):SL T J bs L (N+1) r ops Q (⟨some d,.indexAddr t x y,ty,pos,af,g⟩ :: rest) (Fr n s ds):=⟨fun w j h=>pw l (fun _=>KB o p (l8 T.mA f) (nQ T.oC ht) ⟨o_,a⟩ s_) (K.out w j h)⟩
theorem SL.iH{α:Type}{cf:α->List Value}{xs:List α}{c:α}{e:TypeId}{kk:IntKind}{k sz by_:Nat}{m:Value}(K:SL T J bs L N r ops Q rest (Fr n ((d,j8 sz v k 0) :: s) ds))(f:ev n s x=v:=by conv=>lhs;whnf)(l:ev n s y = .int kk (k:Nat):=by exact rfl)(a:jt T.u t=some (.slice e):=by exact rfl)(ht:jt T.i e=some (sz,by_,m):=by exact rfl)(hi:gV sz cf ok w0 v xs:=by assumption)(hk:xs[k]? = some c:=by first|assumption|exact rfl|exact fW (by first|omega|(simp only[gd];omega)))(b:gA ops n s g=true:=by exact rfl):SL T J bs L (N+1) r ops Q (⟨some d,.indexAddr t x y,ty,pos,af,g⟩ :: rest) (Fr n s ds):=⟨fun w j h=>pw b (fun _=>KA f l (l8 T.mA a) (nQ T.oC ht) hi o_ o_ hk) (K.out w j h)⟩
theorem SL.YJ{α:Type}{cf:α->List Value}{xs:List α}{c:α}{i k sz off off':Nat}{zf:Value}{fields:Array Field}{f:Field}(K:SL T J bs L N r ops Q rest (Fr n ((d,j8 sz v k off') :: s) ds))(m:ev n s x=j8 sz v k off:=by exact rfl)(a:jt T.u t=some (.struct fields):=by exact rfl)(b:fields[i]? = some f:=by exact rfl)(ht:jt T.i f.type=some (o'+1,lo,zf):=by exact rfl)(l:off+f.offset=off' := by conv=>lhs;whnf)(hi:gV sz cf ok w0 v xs:=by assumption)(hk:xs[k]? = some c:=by first|assumption|exact rfl|exact fW (by first|omega|(simp only[gd];omega)))(e:gA ops n s g=true:=by exact rfl):SL T J bs L (N+1) r ops Q (⟨some d,.fieldAddr t x i,ty,pos,af,g⟩ :: rest) (Fr n s ds):=⟨fun w j h=>pw e (fun _=>Qn m (l8 T.mA a) b (nQ T.oC ht) l hi hk) (K.out w j h)⟩
theorem SL.jf{α:Type}{cf:α->List Value}{xs:List α}{c:α}{k sz off:Nat}{ud:TypeDesc}{u:Value}(K:SL T J bs L N r ops Q rest (Fr n ((d,v) :: s) ds))(f:ev n s x=j8 sz u k off:=by exact rfl)(a:jt T.u t=some ud:=by exact rfl)(e:kJ ud=false:=by exact rfl)(hi:gV sz cf ok w0 u xs:=by assumption)(hb:(w0,[])∈bs:=by simp)(i:0<sz:=by decide)(hk:xs[k]? = some c:=by first|assumption|exact rfl|exact fW (by first|omega|(simp only[gd];omega)))(hv:(cf c)[off]? = some v:=by exact rfl)(b:gA ops n s g=true:=by exact rfl):SL T J bs L (N+1) r ops Q (⟨some d,.load t x,ty,pos,af,g⟩ :: rest) (Fr n s ds):=⟨fun w j h=>pv b rfl (BW f (l8 T.mA a) e (St.DX h hb i hi) hk hv) (K.out w j h)⟩
theorem SL.uT{i sz:Nat}{l:Value}{a:TypeId}{ud:TypeDesc}(K:SL T J bs L N r ops Q rest (Fr n ((d,.agg vs.toArray) :: s) ds))(k:ev n s x = .pointer (some ⟨b,o,none⟩):=by exact rfl)(c:jt T.u t=some ud:=by exact rfl)(f:kJ ud=true:=by exact rfl)(ht:jt T.i t=some (sz,m,l):=by exact rfl)(hi:L[i]? = some (blk b a cs):=by first|exact sO|exact sP|exact oO|exact oP|exact sQ|exact sR|exact sS|exact sU)(hv:sub' cs o sz=some vs:=by exact rfl)(e:gA ops n s g=true:=by exact rfl):SL T J bs L (N+1) r ops Q (⟨some d,.load t x,ty,pos,af,g⟩ :: rest) (Fr n s ds):=⟨fun w j h=>pv e rfl (xu k (l8 T.mA c) f (nQ T.oC ht) (xP hv) (h.Jq hi (Aj hv))) (K.out w j h)⟩
theorem SL.Rr{sz:Nat}{l:Value}{a:TypeId}{ud:TypeDesc}(K:SL T J bs L N r ops Q rest (Fr n ((d,.agg vs.toArray) :: s) ds))(k:ev n s x = .pointer (some ⟨b,o,none⟩):=by exact rfl)(c:jt T.u t=some ud:=by exact rfl)(f:kJ ud=true:=by exact rfl)(ht:jt T.i t=some (sz,m,l):=by exact rfl)(hi:(blk b a cs).holds w0:=by assumption)(hb:(w0,[])∈bs:=by simp)(hv:sub' cs o sz=some vs:=by exact rfl)(e:gA ops n s g=true:=by exact rfl):SL T J bs L (N+1) r ops Q (⟨some d,.load t x,ty,pos,af,g⟩ :: rest) (Fr n s ds):=⟨fun w j h=>pv e rfl (xu k (l8 T.mA c) f (nQ T.oC ht) (xP hv) (St.aew h hb hi (Aj hv))) (K.out w j h)⟩
theorem SL.Ro{α:Type}{cf:α->List Value}{xs:List α}{k sz off i a:Nat}{p:Value}{c:TypeId}{ud:TypeDesc}(K:SL T J bs L N r ops Q rest (Fr n ((d,.agg vs.toArray) :: s) ds))(o:ev n s x = .pointer (some ⟨b,k*sz+off,none⟩):=by exact rfl)(e:jt T.u t=some ud:=by exact rfl)(m:kJ ud=true:=by exact rfl)(ht:jt T.i t=some (a, o',p):=by exact rfl)(hi:L[i]? = some (blk b c (xs.flatMap cf)):=by first|exact sO|exact sP|exact oO|exact oP|exact sQ|exact sR|exact sS|exact sU)(q:Inhabited α:=by infer_instance)(l:∀ x:α,(cf x).length=sz:=by exact fun _=>rfl)(hk:k<xs.length:=by first|omega|(simp only[gd];omega))(hv:sub' (cf (cE xs k)) off a = some vs:=by exact rfl)(f:gA ops n s g=true:=by exact rfl):SL T J bs L (N+1) r ops Q (⟨some d,.load t x,ty,pos,af,g⟩ :: rest) (Fr n s ds):=⟨fun w j h=>pv f rfl (xu o (l8 T.mA e) m (nQ T.oC ht) (xP hv) (St.ad5 h hi l hk (Aj hv))) (K.out w j h)⟩
theorem SL.Rt{α:Type}{cf:α->List Value}{xs:List α}{k sz off a:Nat}{p:Value}{c:TypeId}{ud:TypeDesc}(K:SL T J bs L N r ops Q rest (Fr n ((d,.agg vs.toArray) :: s) ds))(o:ev n s x = .pointer (some ⟨b,k*sz+off,none⟩):=by exact rfl)(e:jt T.u t=some ud:=by exact rfl)(m:kJ ud=true:=by exact rfl)(ht:jt T.i t=some (a, o',p):=by exact rfl)(hi:(blk b c (xs.flatMap cf)).holds w0:=by assumption)(q:Inhabited α:=by infer_instance)(hb:(w0,[])∈bs:=by simp)(l:∀ x:α,(cf x).length=sz:=by exact fun _=>rfl)(hk:k<xs.length:=by first|omega|(simp only[gd];omega))(hv:sub' (cf (cE xs k)) off a = some vs:=by exact rfl)(f:gA ops n s g=true:=by exact rfl):SL T J bs L (N+1) r ops Q (⟨some d,.load t x,ty,pos,af,g⟩ :: rest) (Fr n s ds):=⟨fun w j h=>pv f rfl (xu o (l8 T.mA e) m (nQ T.oC ht) (xP hv) (St.aex h hb hi l hk (Aj hv))) (K.out w j h)⟩
theorem SL.Rp{α:Type}{cf:α->List Value}{xs:List α}{e':TypeId}{q k sz off a:Nat}{m:Value}{ud:TypeDesc}{u:Value}(K:SL T J bs L N r ops Q rest (Fr n ((d,.agg vs.toArray) :: s) ds))(l:ev n s x=j8 sz u k off:=by exact rfl)(b:jt T.u t=some ud:=by exact rfl)(f:kJ ud=true:=by exact rfl)(ht:jt T.i t=some (a, o',m):=by exact rfl)(hi:L[q]? = some (cL cf u e' sz xs):=by first|exact sO|exact sP|exact oO|exact oP|exact sQ|exact sR|exact sS|exact sU)(o:Inhabited α:=by infer_instance)(e:∀ x:α,(cf x).length=sz:=by exact fun _=>rfl)(hk:k<xs.length:=by first|omega|(simp only[gd];omega))(hv:sub' (cf (cE xs k)) off a = some vs:=by exact rfl)(c:gA ops n s g=true:=by exact rfl):SL T J bs L (N+1) r ops Q (⟨some d,.load t x,ty,pos,af,g⟩ :: rest) (Fr n s ds):=⟨fun w j h=>pv c rfl (Gt l (l8 T.mA b) f (nQ T.oC ht) (St.Ae h hi e) (fW hk) (xP hv) (Aj hv)) (K.out w j h)⟩
theorem SL.Gs{α:Type}{cf:α->List Value}{xs:List α}{c:α}{k sz off a by_:Nat}{o:Value}{ud:TypeDesc}{u:Value}(K:SL T J bs L N r ops Q rest (Fr n ((d,.agg vs.toArray) :: s) ds))(l:ev n s x=j8 sz u k off:=by exact rfl)(b:jt T.u t=some ud:=by exact rfl)(f:kJ ud=true:=by exact rfl)(ht:jt T.i t=some (a, by_,o):=by exact rfl)(hi:gV sz cf ok w0 u xs:=by assumption)(hb:(w0,[])∈bs:=by simp)(m:0<sz:=by decide)(hk:xs[k]? = some c:=by first|assumption|exact rfl|exact fW (by first|omega|(simp only[gd];omega)))(hv:sub' (cf c) off a = some vs:=by exact rfl)(e:gA ops n s g=true:=by exact rfl):SL T J bs L (N+1) r ops Q (⟨some d,.load t x,ty,pos,af,g⟩ :: rest) (Fr n s ds):=⟨fun w j h=>pv e rfl (Gt l (l8 T.mA b) f (nQ T.oC ht) (St.DX h hb m hi) hk (xP hv) (Aj hv)) (K.out w j h)⟩
theorem SL.cv{ud:TypeDesc}{a:Int}{t':TypeId}(K:SL T J bs L N r ops Q rest (Fr n ((d,.int k' e) :: s) ds))(l:ev n s x = .int k a:=by exact rfl)(b:jt T.u t=some ud:=by exact rfl)(c:jt T.u t' = some (.int k'):=by exact rfl)(i:k'.wrap a=e:=by first|exact kX o_|exact Ej o_|exact U1 o_|exact w32u o_)(f:gA ops n s g=true:=by exact rfl):SL T J bs L (N+1) r ops Q (⟨some d,.convert t t' x,ty,pos,af,g⟩ :: rest) (Fr n s ds):=⟨fun w j h=>pw f (fun _=>X0 l (l8 T.mA b) (l8 T.mA c) i) (K.out w j h)⟩
theorem SL.not{b:Bool}(K:SL T J bs L N r ops Q rest (Fr n ((d,.bool !b) :: s) ds))(c:ev n s x = .bool b:=by exact rfl)(a:gA ops n s g=true:=by exact rfl):SL T J bs L (N+1) r ops Q (⟨some d,.unOp .not t x,ty,pos,af,g⟩ :: rest) (Fr n s ds):=⟨fun w j h=>pw a (fun _=>acN c rfl) (K.out w j h)⟩
theorem SL.pT(K:SL T J bs L N r ops Q rest (Fr n ((d,v) :: s) ds)) (hc:ev n s x = .bool true:=by exact rfl) (b:ev n s y=v:=by conv=>lhs;whnf) (a:gA ops n s g=true:=by exact rfl):SL T J bs L (N+1) r ops Q (⟨some d,.pick x y z,ty,pos,af,g⟩ :: rest) (Fr n s ds):=⟨fun w j h=>pw a (fun _=>adi hc b) (K.out w j h)⟩
theorem SL.pF(K:SL T J bs L N r ops Q rest (Fr n ((d,v) :: s) ds)) (hc:ev n s x = .bool false:=by exact rfl) (b:ev n s z=v:=by conv=>lhs;whnf) (a:gA ops n s g=true:=by exact rfl):SL T J bs L (N+1) r ops Q (⟨some d,.pick x y z,ty,pos,af,g⟩ :: rest) (Fr n s ds):=⟨fun w j h=>pw a (fun _=>adh hc b) (K.out w j h)⟩
theorem SL.Hq{i sz by_:Nat}{p:Value}{a:TypeId}{cs':List Value}(K:SL T (fun _=>True) bs L' N r ops Q rest (Fr n s ds))(l:ev n s x = .pointer (some ⟨b,o,none⟩):=by exact rfl)
 (hv:ev n s y=v:=by conv=>lhs;whnf) (m:v.cells.toList=vs:=by first|exact Pz|exact Py|exact PA|exact PB|exact Px|exact cNilF|exact cMap|exact rfl) (ht:jt T.i t=some (sz,by_,p):=by exact rfl) (k:vs.length=sz:=by exact rfl) (h1:vs.all (·.oneCell')=true:=by exact rfl) (hi:L[i]? = some (blk b a cs):=by first|exact sO|exact sP|exact oO|exact oP|exact sQ|exact sR|exact sS|exact sU)
 (e:Nat.ble (o+vs.length) cs.length=true:=by exact rfl) (hcs:setAt cs o vs=cs' := by dsimp only[setAt,List.take,List.drop,List.length,List.append,HAppend.hAppend,Append.append]<;>exact rfl) (d:L.set i (blk b a cs')=L' := by dsimp only[List.set]<;>exact rfl) (f:gA ops n s g=true:=by exact rfl) :
 SL T (fun _=>True) bs L (N+1) r ops Q (⟨none,.store t x y,ty,pos,af,g⟩ :: rest) (Fr n s ds):=⟨fun w j h=>Go.Sx.Hq i f l hv m (nQ T.oC ht) k h1 h hi e hcs d fun w' c => K.out w' trivial c⟩
theorem run{p q:Prop} (h:p->q:=by
 intro h
 repeat (first
  | refine SP.sq ?_|refine SP.rg ?_|refine SP.LR ?_|refine SL.mv ?_|refine SL.nil ?_|refine SQ.tN ?_|refine SL.ixW ?_|refine SL.YK ?_|refine SL.KM ?_|refine SL.YI ?_|refine SL.fa ?_|refine SL.ld ?_|refine SL.Rn ?_|refine SL.Rq ?_|refine SL.Rs ?_|refine SL.kq ?_|refine SL.xB ?_|refine SL.cmp ?_|refine SP.cT ?_|refine SP.cF ?_|refine SL.ar ?_|refine SL.ex ?_|refine SL.ixK ?_|refine SL.iH ?_|refine SL.YJ ?_|refine SL.jf ?_|refine SL.uT ?_|refine SL.Rr ?_|refine SL.Ro ?_|refine SL.Rt ?_|refine SL.Rp ?_|refine SL.Gs ?_|refine SL.cv ?_|refine SL.not ?_|refine SL.pT ?_|refine SL.pF ?_|refine SL.ia ?_|refine SL.ixG ?_|refine SL.fldG ?_|refine SL.len ?_|refine SL.nP ?_|refine SL.eP ?_|refine SL.Hq ?_|refine SL.sk ?_|refine SL.skN ?_|refine SP.bk ?_|refine SP.sp ?_|refine SP.xt ?_|refine SP.rt ?_|refine SQ.tX ?_|refine SQ.tR ?_|refine SQ.bN ?_|refine SQ.bR ?_|refine SQ.bX ?_|refine SQ.Jn ?_|refine SP.scp ?_|refine SQ.L7 ?_|refine SQ.L9 ?_|refine SQ.L8 ?_|refine SP.KK ?_)
 exact h):p->q:=h
variable{ops':Array Oper}{Q':Exit->Act->World->Prop}{a':Act}{c':Code}{e e':Exit}
theorem gh[T:TT P](b:St bs L w)(N:Nat)(k:∀ w', St bs L' w' -> WL r P ops' Q' l' a' w')(h:SL T (fun _=>True) bs L' 0 r ops' Q' l' a' -> SL T (fun _=>True) bs L N r ops Q l a:=by exact run):WL r P ops Q l a w:=(h ⟨fun w' _ hs=>k w' hs⟩).out w trivial b
theorem cH[T:TT P](b:St bs L w)(N:Nat)(k:WL r P ops' Q' l' a' w)(h:SL T (fun x=>x=w) bs L 0 r ops' Q' l' a' -> SL T (fun x=>x=w) bs L N r ops Q l a:=by exact run):WL r P ops Q l a w:=(h ⟨fun w' j _=>by subst j;exact k⟩).out w rfl b
theorem r7[T:TT P](b:St bs L w)(N:Nat)(k:∀ w', St bs L' w' -> WP r P c' Q' a' w')(h:SP T (fun _=>True) bs L' 0 r Q' c' a' -> SL T (fun _=>True) bs L N r ops Q l a:=by exact run):WL r P ops Q l a w:=(h ⟨fun w' _ hs=>k w' hs⟩).out w trivial b
theorem fZ[T:TT P](b:St bs L w)(N:Nat)(k:WP r P c' Q' a' w)(h:SP T (fun x=>x=w) bs L 0 r Q' c' a' -> SL T (fun x=>x=w) bs L N r ops Q l a:=by exact run):WL r P ops Q l a w:=(h ⟨fun w' j _=>by subst j;exact k⟩).out w rfl b
theorem jI[T:TT P](b:St bs L w)(N:Nat)(k:∀ w', St bs L' w' -> Q' e' a' w')(h:SQ T (fun _=>True) bs L' 0 r Q' e' a' -> SL T (fun _=>True) bs L N r ops Q l a:=by exact run):WL r P ops Q l a w:=(h ⟨fun w' _ hs=>k w' hs⟩).out w trivial b
theorem fK[T:TT P](b:St bs L w)(N:Nat)(k:Q' e' a' w)(h:SQ T (fun x=>x=w) bs L 0 r Q' e' a' -> SL T (fun x=>x=w) bs L N r ops Q l a:=by exact run):WL r P ops Q l a w:=(h ⟨fun w' j _=>by subst j;exact k⟩).out w rfl b
theorem ny[T:TT P](b:St bs L w)(N:Nat)(k:∀ w', St bs L' w' -> WL r P ops' Q' l' a' w')(h:SL T (fun _=>True) bs L' 0 r ops' Q' l' a' -> SP T (fun _=>True) bs L N r Q c a:=by exact run):WP r P c Q a w:=(h ⟨fun w' _ hs=>k w' hs⟩).out w trivial b
theorem fM[T:TT P](b:St bs L w)(N:Nat)(k:WL r P ops' Q' l' a' w)(h:SL T (fun x=>x=w) bs L 0 r ops' Q' l' a' -> SP T (fun x=>x=w) bs L N r Q c a:=by exact run):WP r P c Q a w:=(h ⟨fun w' j _=>by subst j;exact k⟩).out w rfl b
theorem sPP[T:TT P](b:St bs L w)(N:Nat)(k:∀ w', St bs L' w' -> WP r P c' Q' a' w')(h:SP T (fun _=>True) bs L' 0 r Q' c' a' -> SP T (fun _=>True) bs L N r Q c a:=by exact run):WP r P c Q a w:=(h ⟨fun w' _ hs=>k w' hs⟩).out w trivial b
theorem oW[T:TT P](b:St bs L w)(N:Nat)(k:WP r P c' Q' a' w)(h:SP T (fun x=>x=w) bs L 0 r Q' c' a' -> SP T (fun x=>x=w) bs L N r Q c a:=by exact run):WP r P c Q a w:=(h ⟨fun w' j _=>by subst j;exact k⟩).out w rfl b
theorem jh[T:TT P](b:St bs L w)(N:Nat)(k:Q' e' a' w)(h:SQ T (fun x=>x=w) bs L 0 r Q' e' a' -> SP T (fun x=>x=w) bs L N r Q c a:=by exact run):WP r P c Q a w:=(h ⟨fun w' j _=>by subst j;exact k⟩).out w rfl b
theorem TC(T:TT P)(r:Option Nat)(b:St bs L w)(N:Nat)(k:∀ w', St bs L' w' -> WL r P ops' Q' l' a' w')(h:SL T (fun _=>True) bs L' 0 r ops' Q' l' a' -> SQ T (fun _=>True) bs L N r Q e a:=by exact run):Q e a w:=(h ⟨fun w' _ hs=>k w' hs⟩).out w trivial b
theorem zX(T:TT P)(r:Option Nat)(b:St bs L w)(N:Nat)(k:WL r P ops' Q' l' a' w)(h:SL T (fun x=>x=w) bs L 0 r ops' Q' l' a' -> SQ T (fun x=>x=w) bs L N r Q e a:=by exact run):Q e a w:=(h ⟨fun w' j _=>by subst j;exact k⟩).out w rfl b
theorem sQP(T:TT P)(r:Option Nat)(b:St bs L w)(N:Nat)(k:∀ w', St bs L' w' -> WP r P c' Q' a' w')(h:SP T (fun _=>True) bs L' 0 r Q' c' a' -> SQ T (fun _=>True) bs L N r Q e a:=by exact run):Q e a w:=(h ⟨fun w' _ hs=>k w' hs⟩).out w trivial b
theorem SE(T:TT P)(r:Option Nat)(b:St bs L w)(N:Nat)(k:WP r P c' Q' a' w)(h:SP T (fun x=>x=w) bs L 0 r Q' c' a' -> SQ T (fun x=>x=w) bs L N r Q e a:=by exact run):Q e a w:=(h ⟨fun w' j _=>by subst j;exact k⟩).out w rfl b
theorem sQQ(T:TT P)(r:Option Nat)(b:St bs L w)(N:Nat)(k:∀ w', St bs L' w' -> Q' e' a' w')(h:SQ T (fun _=>True) bs L' 0 r Q' e' a' -> SQ T (fun _=>True) bs L N r Q e a:=by exact run):Q e a w:=(h ⟨fun w' _ hs=>k w' hs⟩).out w trivial b
theorem rX(T:TT P)(r:Option Nat)(b:St bs L w)(N:Nat)(k:Q' e' a' w)(h:SQ T (fun x=>x=w) bs L 0 r Q' e' a' -> SQ T (fun x=>x=w) bs L N r Q e a:=by exact run):Q e a w:=(h ⟨fun w' j _=>by subst j;exact k⟩).out w rfl b
end
end Go.Sx
