/- Plain lemmas: rules for walking through code, one for each operation, over any program; an evaluator of closed calls with its soundness; and plain mathematics. No conditions. -/
import Derived.Test.YtoceanggliccgaaGreatDoorFc
import Derived.Test.YtoceanggliccgaaGreatDoorFa
import Derived.Test.YtoceanggliccgaaGreatDoorFb
import Derived.Sort.Grow
import Derived.Deep.Draws
import Derived.Shelf.GgSortFunc.InsertionK
import Derived.Shelf.SlSortCmp.Whole1
import Derived.KernelRfl
import Derived.ProofKit
import Derived.Deep.Slices
set_option linter.unusedVariables false
set_option linter.unusedSectionVars false
set_option linter.unusedSimpArgs false
namespace Go.Sx
open Go
def rY(g:Nat->Nat)(i b:Nat):Nat->Nat:=fun j=>if j=i then b else g j
def qT(i7:List (Nat×(Nat->fU)))(c:Nat->Bool)(g:Nat->Nat):List fU:=i7.filterMap fun p=>if c p.1 then some (p.2 (g p.1))else none
theorem QT{g:Nat->Nat}:∀ i7:List (Nat×(Nat->fU)),qT i7 (fun _=>false) g=[]
 | []=>rfl
 | p :: i7=>by rw[qT,oW];exact QT i7
theorem QN{c:Nat->Bool}{g:Nat->Nat}:∀ i7:List (Nat×(Nat->fU)),(∀ p∈i7,c p.1=true)->qT i7 c g=i7.map fun p=>p.2 (g p.1)
 | [],_=>rfl
 | p :: i7,h=>by
  have:=QN i7 (g:=g) fun x a=>h x (by simp[a])
  unfold qT at *
  rw[oW,h p s_]
  simp[this]
theorem QU{c c' : Nat->Bool}{g:Nat->Nat}{i b:Nat}:∀ i7:List (Nat×(Nat->fU)),(∀ p∈i7,p.1≠i)->(∀ p∈i7,c' p.1=(c p.1||p.1==i))->qT i7 c' (rY g i b)=qT i7 c g
 | [],_,_=>rfl
 | p :: i7,h,hc=>by
  have e:=QU (g:=g) (b:=b) i7 (fun x a=>h x (by simp[a])) (fun x a=>hc x (by simp[a]))
  have d:=h p s_
  have f:c' p.1=c p.1:=by rw[hc p s_];simp[d]
  unfold qT at *
  rw[oW,oW,e,f]
  simp[rY,d]
theorem QO{c c' : Nat->Bool}{g:Nat->Nat}{i b:Nat}{R:Nat->fU}:∀ i7:List (Nat×(Nat->fU)),(i,R)∈i7->(i7.map (·.1)).Nodup->c i=false->(∀ p∈i7,c' p.1=(c p.1||p.1==i))->(R b :: qT i7 c g).Perm (qT i7 c' (rY g i b))
 | [],h,_,_,_=>by simp at h
 | p :: i7,h,hn,hi,hc=>by
  rw[jV,zu]at hn
  rcases zb.1 h with rfl|h
  . have d:=QU (g:=g) (b:=b) i7 (fun x a e=>hn.1 (by rw[show (i,R).1=x.1 from e.symm];exact List.mem_map_of_mem a)) (fun x a=>hc x (by simp[a]))
    have j:c' i=true:=by rw[hc (i,R) s_];simp
    unfold qT at *
    rw[oW,oW,d]
    simp only[hi,j]
    simp[rY]
  . have d:=QO (g:=g) (b:=b) i7 h hn.2 hi fun x a=>hc x (by simp[a])
    have k:p.1≠i:=fun e=>hn.1 (e▸List.mem_map_of_mem (f:=(·.1)) h)
    have j:c' p.1=c p.1:=by rw[hc p s_];simp[k]
    unfold qT at *
    rw[oW,oW,j]
    cases c p.1 with
    | false=>simpa using d
    | true =>
     simp only[if_true,rY,k,if_false]
     exact(List.Perm.swap _ _ _).trans (d.cons _)
section
variable {r:Option Nat} {P:Program} {ops:Array Oper} {Q:Exit->Act->World->Prop} {n:Nat} {ds:List Deferred} {s0:List (Nat×Value)} {l0 l:List Oper} {pre:List (List Nat)} {mem:List Nat} {V vs:List ((Nat->Nat)->Value)} {v:(Nat->Nat)->Value}
variable {bs:List (World×List Nat)} {i q:Nat} {s:(Nat->Nat)->List (Nat×Value)} {o:Oper} {L0:List fU} {LE:(Nat->Nat)->List fU} {i7:List (Nat×(Nat->fU))} {R:Nat->fU} {val:Nat->Value}
def rz(bs:List (World×List Nat))(i7:List (Nat×(Nat->fU)))(L0:List fU)(q:Nat)(LE:(Nat->Nat)->List fU)(d:List Nat)(g:Nat->Nat)(w:World):Prop :=
 if d.contains q=true then St bs (LE g) w else St bs (qT i7 (fun j=>d.contains j) g++L0) w
def AF(pre:List (List Nat))(mem:List Nat)(i7:List (Nat×(Nat->fU)))(q:Nat):Prop:=(i7.map (·.1)).Nodup/\(∀ p∈i7,mem.contains p.1=true/\(pre.getD q []).contains p.1=true/\p.1≠q)/\mem.contains q=true
theorem JP{is:List Nat}(h:i7.map (·.1)=is)(h1:(decide is.Nodup&&is.all (fun j=>mem.contains j&&(pre.getD q []).contains j && !(j==q))&&mem.contains q)=true):AF pre mem i7 q:=by
 simp only[lW,decide_eq_true_eq,zn]at h1
 refine⟨h▸h1.1.1,fun p hp=>?_,h1.2⟩
 have:=h1.1.2 p.1 (h▸List.mem_map_of_mem hp)
 exact⟨this.1.1,this.1.2,by simpa using this.2⟩
theorem J4{M:List Nat->(Nat->Nat)->World->Prop}:mq P ops Q n ds s0 l0 pre mem V M i s [] []:=trivial
theorem mF{M:List Nat->(Nat->Nat)->World->Prop}(hm:mem.contains i=false)(h:∀ g w C,mu P ops n o (s g) (v g) C w)(K:mq P ops Q n ds s0 l0 pre mem V M (i+1) (fun g=>kj o.dst (v g) (s g)) l vs) :
 mq P ops Q n ds s0 l0 pre mem V M i s (o :: l) (v :: vs):=by
 refine⟨?_,K⟩
 rw[hm]
 intro d _ g w e
 rcases h g w (M d g)with ⟨b,c,a|a⟩|a
 . exact .inl ⟨b,c,.inl a⟩
 . exact .inl ⟨b,c,.inr a⟩
 . exact .inr a
theorem Jj{d:List Nat}{j:Nat}(h:mem.contains j=true):(tD mem d i).contains j=(d.contains j||j==i):=by
 unfold tD
 exact contains_filter (S:=fun j=>d.contains j||j==i) (by simpa using h)
theorem J6{d:List Nat}{m:Nat}(h:okD pre mem i d=true)(hm:mem.contains m=true):d.contains i=false/\((pre.getD i []).contains m=true->d.contains m=true)/\((pre.getD m []).contains i=true->d.contains m=false):=by
 unfold okD at h
 simp only[lW,zn,zB,GO]at h
 have b:=h.2 m (by simpa using hm)
 refine⟨h.1,fun e=>?_,fun e=>?_⟩
 . rcases b.1 with a|a
   . rw[e]at a;cases a
   . exact a
 . rcases b.2 with a|a
   . exact a
   . rw[e]at a;cases a
theorem sQ(hk:AF pre mem i7 q)(hp:(i,R)∈i7)(hv:∀ g b,v (rY g i b)=val b)(h:∀ g w L,St bs L w->∀ N,(∀ b w', St bs (R b :: L) w' -> N (val b) w')->ni P ops Q n ds s0 l0 o (s g) N w)
 (hs:∀ g b,lX pre i g (rY g i b) 0 V) (K:mq P ops Q n ds s0 l0 pre mem V (rz bs i7 L0 q LE) (i+1) (fun g=>kj o.dst (v g) (s g)) l vs) :
 mq P ops Q n ds s0 l0 pre mem V (rz bs i7 L0 q LE) i s (o :: l) (v :: vs):=by
 obtain⟨m,r,t⟩:=hk.2.1 _ hp
 refine⟨?_,K⟩
 rw[m]
 intro d hd g w a
 have f:=J6 hd hk.2.2
 have k:=f.2.2 r
 unfold rz at a
 rw[if_neg (by rw[k];decide)]at a
 refine h g w _ a _ fun b w' x => ⟨rY g i b,?_,(hv g b).symm,hs g b⟩
 unfold rz
 rw[if_neg (by rw[Jj hk.2.2,k];simp;exact fun e=>t e.symm)]
 exact x.perm ((QO (c:=fun j=>d.contains j) (c' := fun j=>(tD mem d i).contains j) i7 hp hk.1 f.1 fun p u => Jj (hk.2.1 p u).1).append_right L0)
theorem J3(hk:AF pre mem i7 q)(hv:∀ g b,v (rY g q b)=val b)(h:∀ g w,St bs ((i7.map fun p=>p.2 (g p.1))++L0) w->∀ N,(∀ b w', St bs (LE (rY g q b)) w' -> N (val b) w')->ni P ops Q n ds s0 l0 o (s g) N w)
 (hs:∀ g b,lX pre q g (rY g q b) 0 V) (K:mq P ops Q n ds s0 l0 pre mem V (rz bs i7 L0 q LE) (q+1) (fun g=>kj o.dst (v g) (s g)) l vs) :
 mq P ops Q n ds s0 l0 pre mem V (rz bs i7 L0 q LE) q s (o :: l) (v :: vs):=by
 refine⟨?_,K⟩
 rw[hk.2.2]
 intro d hd g w a
 have e:=(J6 hd hk.2.2).1
 unfold rz at a
 rw[if_neg (by rw[e];decide),QN (c:=fun j=>d.contains j) i7 fun p hp=>(J6 hd (hk.2.1 p hp).1).2.1 (hk.2.1 p hp).2.1]at a
 refine h g w a _ fun b w' f => ⟨rY g q b,?_,(hv g b).symm,hs g b⟩
 unfold rz
 rw[if_pos (by rw[Jj hk.2.2];simp)]
 exact f
theorem Kr{id:Nat}{w:World}(hm:P.follows .mixedOrders=true)(pre:List (List Nat))(mem:List Nat)(i7:List (Nat×(Nat->fU)))(q:Nat)(e:FI l pre mem=true)(f:mem.contains q=true)(V:List ((Nat->Nat)->Value))(LE:(Nat->Nat)->List fU)(sE:(Nat->Nat)->List (Nat×Value))
 (i:St bs L0 w) (c:mq P l.toArray Q n ds s0 l pre mem V (rz bs i7 L0 q LE) 0 (fun _=>s0) l V) (b:∀ g,iM (fun _=>true) 0 l (V.map (· g)) s0=sE g)
 (d:∀ g w', St bs (LE g) w' -> Q .normal (Fr n (sE g) ds) w'):WP r P (.region id l.toArray true) Q (Fr n s0 ds) w :=
 R8 hm pre mem e V (rz bs i7 L0 q LE) (fun _=>0) sE (by unfold rz;rw[if_neg s_];have a:qT i7 (fun j=>([]:List Nat).contains j) (fun _=>0)=[]:=QT (g:=fun _=>0) i7;rw[a];exact i.grow (gx.drew [] w)) c b fun g w' h=>by
  unfold rz at h
  rw[if_pos f]at h
  exact d g w' h
end
end Go.Sx
namespace Go.Sx
open Go
def Gw(w w' : World):Prop:=∃ q os,w' = Go.Sort.grow (w.drewN q) os
theorem Gw.drew(w:World):Gw w w.drew:=⟨1,#[],by rw[Go.Sort.grow_empty];rfl⟩
theorem Gw.alloc{w w' : World}(h:Gw w w')(o:Obj):Gw w (w'.alloc o):=by
 obtain⟨q,os,rfl⟩:=h
 exact⟨q,os ++ #[o],by rw[Go.Sort.alloc_eq_grow,Go.Sort.grow_grow]⟩
section
variable {Γ:Type} {r:Option Nat} {P:Program} {ops:Array Oper} {Q:Exit->Act->World->Prop} {n:Nat} {ds:List Deferred} {s0 s:List (Nat×Value)} {l:List Oper} {bs:List (World×List Nat)} {L:List fU} {w w0:World} {dd:Option Nat} {t e:TypeId} {ty:TypeId} {pos:String} {af:Array Edge} {g:Option (Nat×Bool)} {Nx:Value->World->Prop} {z:Value} {sz by_:Nat}
variable {L0 L' : Γ->List fU} {F F' : Γ->World->Prop}
theorem adp{id:Nat}{w:World}(hm:P.follows .mixedOrders=true)(pre:List (List Nat))(mem:List Nat)(j:AS l pre mem=true)(V:List (Γ->Value))(Ls:List ((Γ->List fU)×(Γ->World->Prop)))(a:Γ)
 (sE:Γ->List (Nat×Value)) (e:Ls[0]? = some (L0,F)) (k:St bs (L0 a) w) (d:F a w.drew) (f:lE P l.toArray Q n ds s0 l pre mem V (jx bs Ls) 0 (fun _=>s0) l V)
 (c:∀ g,iM (fun _=>true) 0 l (V.map (· g)) s0=sE g) (b:Ls[mem.length]? = some (L', F'))
 (i:∀ g w', St bs (L' g) w' -> F' g w' -> Q .normal (Fr n (sE g) ds) w'):WP r P (.region id l.toArray true) Q (Fr n s0 ds) w :=
 Kq hm pre mem j V (jx bs Ls) a sE ((jx.at e).2 ⟨k.grow (gx.drew [] w),d⟩) f c fun g w' h=>i g w' ((jx.at b).1 h).1 ((jx.at b).1 h).2
theorem aa9{len:Nat}{ps:List (Nat×Operand)}{vs cs:List Value}(d:Gw w0 w)(h:gB ops n s g=true)(hp:ps.map (fun q=>(q.1,ev n s q.2))=idx 0 vs)(k:P.underlying t=some (.slice e))(hi:TI P e sz by_ z)
 (i:vs.length=len) (hv:∀ v∈vs,v.cells.size=sz) (hcs:vs.flatMap (·.cells.toList)=cs) (c:Nat.ble (len*sz) 16777216=true) (a:Nat.ble len 16777216=true) (j:St bs L w)
 (K:∀ b w', St bs (row (.slice (some ⟨b,0,none⟩) len len) e sz len cs :: L) w' -> Gw w0 w' -> Nx (.slice (some ⟨b,0,none⟩) len len) w') :
 ni P ops Q n ds s0 l ⟨dd,.buildSlice t len ps.toArray,ty,pos,af,g⟩ s Nx w:=by
 subst i hcs
 have f:(vs.flatMap (·.cells.toList)).length=vs.length*sz:=by
  clear hp c a K
  induction vs with
  | nil=>simp
  | cons v vs o=>simp only[zy,zq,ze,r8,hv v s_,o (fun u m=>hv u (by simp[m])),sn];omega
 refine Fs h rfl (Nq hp k hi ?_ (oV c)) (K _ _ (Q1 j e sz _ _ f (by have:=oV a;simp only[maxLen];omega)) (d.alloc _))
 rw[Pu sz vs 0 _ hv s_]
 simp
end
end Go.Sx
namespace Go.Sx
open Go
def yA(b:Bool)(rc:Loop):Loop:=if b then { rc with state:=.done,pending:=some .ret } else rc
section
variable {P:Program} {ops:Array Oper} {Q:Exit->Act->World->Prop} {rest:List Oper} {n:Nat} {s:List (Nat×Value)} {ds:List Deferred} {w:World}
variable {x:Operand} {l:Nat} {bs:List (World×List Nat)} {L LL:List fU} {i:Nat} {rc:Loop}
theorem Of{R:Ending->World->Prop}{a:Act}(i:Nat)(b:St bs L w)(hi:L[i]? = some (iR l { rc with state:=.busy }))(c:L.set i (iR l (yA true rc))=LL)(K:∀ w', St bs LL w' -> R (.returned (.bool false)) w'):roundPost P l R .ret a w:=by
 refine⟨_,_,run_endRound (some .ret) (b.xR hi),K _ ?_⟩
 subst c
 exact b.CT hi _
theorem rfx{f:FuncId}{fi ca:List Value}{ps:List Nat}{a c:Code}{α:Type}(j:α->List fU)(C:α->Prop)(stop:α->Bool)(A:St bs L w)(B:ev n s x = .func (.func f) fi.toArray ca.toArray)(t:gi P f)
 (h1:∀ fn dd l o rc,rc=(⟨.ready,none,fn,(Fr n s ds).tmps,ps.toArray,a,c,dd⟩:Loop)->St bs (iR l rc :: jW dd (some []) :: L) o ->
  CR P f (fi++[Value.func (.yield l) #[] #[]]++ca).toArray o (fun _ p=>∃ z,C z/\St bs (iR l (yA (stop z) rc) :: jW dd (some []) :: j z) p))
 (q:∀ z dd g,C z->stop z=false->St bs (jW dd (some []) :: j z) g->Q .normal (Fr n s (⟨.collected dd,#[]⟩ :: ds)) g)
 (r:∀ z dd g,C z->stop z=true->St bs (jW dd (some []) :: j z) g->Q .ret (Fr n s (⟨.collected dd,#[]⟩ :: ds)) g):WP none P (.rangeFunc x ps.toArray a c) Q (Fr n s ds) w:=by
 refine wpIn_rangeFunc fun fn _=>?_
 have u:St bs (jW w.heap.size (some []) :: L) (w.alloc (.deferred (some []))) :=
  A.sK (gx.alloc [] w _) (fun b hb=>by simp[jW]at hb;omega) (by simp[jW]) (fun b hb=>by simp[jW]at hb;simp;omega) (World.alloc_heap_new w _)
 have y:St bs (iR (w.heap.size+1) ⟨.ready,none,fn,(Fr n s ds).tmps,ps.toArray,a,c,w.heap.size⟩ :: jW w.heap.size (some []) :: L) ((w.alloc (.deferred (some []))).alloc (.loop ⟨.ready,none,fn,(Fr n s ds).tmps,ps.toArray,a,c,w.heap.size⟩)) :=
  u.sK (gx.alloc [] _ _) (fun b hb=>by simp[iR]at hb;simp;omega) (by simp[iR]) (fun b hb=>by simp[iR]at hb;simp;omega) (by have:=World.alloc_heap_new (w.alloc (.deferred (some []))) (.loop ⟨.ready,none,fn,(Fr n s ds).tmps,ps.toArray,a,c,w.heap.size⟩);simpa[iR]using this)
 refine⟨w.heap.size+1,_,_,⟨.fn (.func f) ca.toArray,(fi++[Value.func (.yield (w.heap.size+1)) #[] #[]]).toArray⟩,((w.alloc (.deferred (some []))).alloc (.loop ⟨.ready,none,fn,(Fr n s ds).tmps,ps.toArray,a,c,w.heap.size⟩)),f,(fi++[Value.func (.yield (w.heap.size+1)) #[] #[]]++ca).toArray,((w.alloc (.deferred (some []))).alloc (.loop ⟨.ready,none,fn,(Fr n s ds).tmps,ps.toArray,a,c,w.heap.size⟩)),run_enterLoop_outer fn _ _ _ _,?_,fun _ _=>trivial,?_,fun h=>by simp[FW]at h,?_⟩
 . rw[o7]
   simp only[resolve,rangeCall,Deferred.ofValue,B]
   simp[ev]
 . have:=t ((fi++[Value.func (.yield (w.heap.size+1)) #[] #[]]++ca).toArray) ((w.alloc (.deferred (some []))).alloc (.loop ⟨.ready,none,fn,(Fr n s ds).tmps,ps.toArray,a,c,w.heap.size⟩))
   simp only[invoke]
   simpa using this
 . refine uw.2 (Calls.mono (h1 fn w.heap.size (w.heap.size+1) _ _ rfl y) ?_)
   rintro e p ⟨v,rfl,z,k,d⟩
   have m:=fun D => (d.CT (i:=0) rfl D).sub (LH _ _)
   cases hz:stop z with
   | false =>
    rw[hz]at d
    refine⟨none,_,run_endLoop (d.xR (i:=0) rfl) (by simp[yA]),?_⟩
    exact q z w.heap.size _ k hz (m _)
   | true =>
    rw[hz]at d
    refine⟨some .ret,_,run_endLoop (d.xR (i:=0) rfl) (by simp[yA]),?_⟩
    exact wpIn_ret (r z w.heap.size _ k hz (m _))
end
end Go.Sx
namespace Go.Sx
open Go
section
variable {α:Type} {sz:Nat} {cf:α->List Value} {w w' : World} {v u:Value} {xs:List α} {bs:List (World×List Nat)} {L:List fU} {R:fU}
theorem St.rr{e:TypeId}(h:St bs L w)(i:Nat)(hi:L[i]? = some (fL cf v e sz xs))(a:∀ x:α,(cf x).length=sz:=by exact fun _=>rfl):iw sz cf (fun b=>v.ownBlock=some b) w v xs:=St.yF h hi a
theorem St.oR(h:St bs L w)(i:Nat)(hi:L[i]? = some R):Own R w:=St.Rn h hi
theorem St.bc{b o:Nat}{T:TypeId}{cs:List Value}(h:St bs L w)(i:Nat)(hi:L[i]? = some (blk b T cs))(hv:cs[o]? = some v):w.cell? ⟨b,o,none⟩=some v:=St.rH h hi hv
theorem rO{p:Prop}(h:p:=by first|rfl|omega):p:=h
theorem iT{p:Prop}(h:p:=by rw[oT o_];omega):p:=h
theorem sT{p:Prop}(h:p:=by repeat (first|exact aex|refine kC rfl ?_|refine kC trivial ?_)):p:=h
end
end Go.Sx
namespace Go.Sx
open Go
section
variable {α:Type} [Inhabited α] {cf:α->List Value} {k:Nat}
theorem Px(a:∀ x:α,(cf x).length=k)(hk:0<k)(d:Array α):(Go.Sort.flatK cf k d).toList=d.toList.flatMap cf:=by
 apply mM
 intro t
 by_cases ht:t<d.size*k
 . have c:t / k<d.size:=(zdt hk).2 ht
   have b:t%k<k:=Bz _ hk
   have h:d.toList[t / k]? = some d[t / k]:=by simp[c]
   have i:(cf d[t / k])[t%k]? = some ((cf d[t / k])[t%k]'(by rw[a];exact b)):=zj (by rw[a];exact b)
   have e:=vW a d.toList (t / k) (t%k) _ _ h i
   have j:t / k*k+t%k=t:=Bx t k
   rw[j]at e
   rw[e]
   have f:=Go.Sort.get_flatK cf k d t ht
   have g:t<(Go.Sort.flatK cf k d).size:=by simpa using ht
   rw[wV,tU g]
   rw[getElem!_pos _ t g]at f
   rw[f,getElem!_pos d _ c,getElem!_pos _ _ (by rw[a];exact b)]
 . rw[zt (by simp;omega),zt (by rw[rK a];simp;omega)]
variable {P:Program} {w:World} {v:Value} {xs:List α} {e:TypeId} {f:FuncId} {fv:Value} {lt:α->α->Bool}
theorem ZI{b:Nat}{cur:Array Value}(h:∀ x:α,(cf x).length=k)(hk:0<k)(d:w.heap[b]? = some (.cells cur e (0,0)))(f:cur.toList.take (xs.length*k)=xs.flatMap cf):Go.Sort.HoldsK cf k w b 0 xs.toArray:=by
 intro j a
 have g : j<xs.length*k:=by simpa using a
 have c:(cur.toList.take (xs.length*k))[j]? = (Go.Sort.flatK cf k xs.toArray).toList[j]? := by rw[f,Px h hk]
 rw[LA g, wV,wV,tU a]at c
 refine⟨?_,?_⟩
 . simp only[World.cell?,d]
   rw[getElem!_pos _ j a]
   simpa using c
 . simp[World.frozen?,d]
theorem aeq(u:∀ x:α,(cf x).length=k)(hk:0<k)(z:Own (fL cf v e k xs) w)(I:xs.length<4611686018427387904)
 (C:Calls P f #[.slice none 0 0,fv] w fun e w' => e = .returned (.tuple #[])/\w' = w)
 (F:∀ blk m (d:Array α),Go.Sort.HoldsK cf k w blk 0 d->blk<w.heap.size->d.size<4611686018427387904->Calls P f #[.slice (some ⟨blk,0,none⟩) d.size m,fv] w fun e w' =>
  e = .returned (.tuple #[])/\∃ c n os,Go.Sort.PermIn 0 d.size d c /\ Go.Sort.SortedIn lt 0 d.size c /\ w' = Go.Proofs.sortWorldK cf k w blk 0 n c os) :
 CR P f #[v,fv] w (fun r w' => r = .tuple #[]/\∃ ys:List α,ys.Perm xs/\ys.Pairwise (fun a b=>lt b a=false)/\fZ (fL cf v e k xs) w w' (fL cf v e k ys)):=by
 have M:w.ownsRow 0 e k v xs.length (xs.flatMap cf):=z.holds
 rcases M.2 with ⟨rfl,o⟩|⟨g, m,cur,rfl,hb,s,o,D,y,E⟩
 . obtain rfl:xs=[]:=GI.1 o
   refine Calls.mono C ?_
   rintro en w' ⟨rfl,rfl⟩
   exact⟨_,rfl,rfl,[],List.Perm.refl _,List.Pairwise.nil,fZ.refl z⟩
 . have A:g < w.heap.size:=(nW.1 s).1
   have hs:=F g m xs.toArray (ZI u hk s E) A (by simpa using I)
   rw[List.size_toArray]at hs
   refine Calls.mono hs ?_
   rintro en w' ⟨rfl,c, n,os,hp,Q,rfl⟩
   have h:c.size=xs.length:=by simpa using hp.1
   have N:c.toList.Perm xs:=by
    have p:=hp.2.2
    have e1:c.extract 0 xs.length=c := by rw[<-h];exact GF
    have B:xs.toArray.extract 0 xs.length=xs.toArray:=by rw[show xs.length=xs.toArray.size by simp];exact GF
    rwa [e1,B]at p
   have K:(Go.Proofs.sortWorldK cf k w g 0 n c os).heap[g]? = some (.cells (Go.Sort.putCells id 0 (Go.Sort.flatK cf k c) cur) e (0,0)):=by
    simp only[Go.Proofs.sortWorldK,Go.Sort.grow,Go.Sort.putRowK,Go.Sort.putRow,Go.Sort.mapBlock,Go.Sort.ahead]
    rw[Dr (by simpa using A),yZ,if_pos rfl,s]
    rfl
   have L:∀ b,b<w.heap.size->b≠g -> (Go.Proofs.sortWorldK cf k w g 0 n c os).heap[b]? = w.heap[b]? := by
    intro b hb J
    simp only[Go.Proofs.sortWorldK,Go.Sort.grow,Go.Sort.putRowK,Go.Sort.putRow,Go.Sort.mapBlock,Go.Sort.ahead]
    rw[Dr (by simpa using hb),yZ,if_neg (fun e=>J e.symm)]
   have R:w.heap.size<=(Go.Proofs.sortWorldK cf k w g 0 n c os).heap.size:=by simp[Go.Proofs.sortWorldK,Go.Sort.grow,Go.Sort.putRowK,Go.Sort.putRow,Go.Sort.mapBlock,Go.Sort.ahead]
   have O:(Go.Sort.putCells id 0 (Go.Sort.flatK cf k c) cur).size=cur.size:=by simp[Go.Sort.putCells]
   have S:(Go.Sort.putCells id 0 (Go.Sort.flatK cf k c) cur).toList.take (c.toList.length*k)=c.toList.flatMap cf:=by
    rw[<-Px u hk]
    have U:(Go.Sort.flatK cf k c).size=xs.length*k:=by simp[h]
    have V:xs.length*k<=cur.size:=by rw[y];exact DB _ o
    apply mM
    intro j
    rw[r9,r8,h]
    split
    . rename_i l
      have H:j<cur.size:=by omega
      have t:j<(Go.Sort.flatK cf k c).size:=by omega
      simp only[Go.Sort.putCells,wV,LI,mZ,true_and,lD,Nat.sub_zero]
      rw[tU H,tU t]
      simp only[w5]
      rw[if_pos t,getElem!_pos _ j t]
      rfl
    . rename_i l
      rw[zt (by simp;rw[h];omega)]
   refine⟨_,rfl,rfl,c.toList,N,?_,⟨?_,⟨rfl,rfl,rfl,R,fun b hb T=>L b hb (fun e=>T (by simp[row,Value.ownBlock,e]))⟩,fun b q => .inl (by simpa[row,Value.ownBlock]using q),by simp[row,Value.ownBlock],fun b q => ?_⟩⟩
   . rw[u5]
     intro i j hi l G
     have p:=Q i j (mZ _) G (by simp at l ⊢;omega)
     simp only[r8]at hi l
     rw[getElem!_pos _ i hi,getElem!_pos _ j l]at p
     simpa using p
   . refine⟨by rw[rK u],.inr ⟨g, m,_,by simp[h],hb,K,by simp[h];exact o,D,by rw[O];exact y,S⟩⟩
   . simp[row,Value.ownBlock]at q
     subst q
     omega
end
end Go.Sx
namespace Go.Sx
open Go
section
variable {P:Program} {w:World} {v:Value} {e:TypeId} {f:FuncId} {fv:Value} {m:Nat}
def qO(x:Fin m):Value:=.int .i64 ((x.val:Nat):Int)
theorem YO(hm:0<m):((List.finRange m).map fun x=>x.val)=List.range m:=by
 apply mM
 intro i
 rw[kR]
 by_cases h:i<m
 . rw[pX h,zj (by simpa using h)]
   simp
 . rw[zt (by simpa using h),zt (by simpa using h)]
   rfl
theorem IY(xs:List Nat):xs.flatMap fR=xs.map fun x=>Value.int .i64 ((x:Nat):Int):=by
 induction xs with
 | nil=>rfl
 | cons x xs a=>rw[zy,a];rfl
theorem SH{α:Type}[Inhabited α]{enc:α->Value}{blk k b:Nat}{d:Array α}{os:Array Obj}(hb:b<w.heap.size)(a:b≠blk):(Go.Proofs.sortWorld enc w blk 0 k d os).heap[b]? = w.heap[b]? := by
 simp only[Go.Proofs.sortWorld,Go.Sort.grow,Go.Sort.putRow,Go.Sort.mapBlock,Go.Sort.ahead]
 rw[Dr (by simpa using hb),yZ,if_neg (fun e=>a e.symm)]
theorem aeo(hm:0<m)(lt:Nat->Nat->Bool)(I:Own (fL fR v e 1 (List.range m)) w)(M:m<4611686018427387904)
 (J:∀ (E:Inhabited (Fin m)) blk p (d:Array (Fin m)),(fL fR v e 1 (List.range m)).gG=[blk]->Go.Sort.Holds qO w blk 0 d->blk<w.heap.size->d.size<4611686018427387904->Calls P f #[.slice (some ⟨blk,0,none⟩) d.size p,fv] w fun e w' =>
  e = .returned (.tuple #[])/\∃ c n os,Go.Sort.PermIn 0 d.size d c /\ Go.Sort.SortedIn (fun x y:Fin m=>lt x.val y.val) 0 d.size c /\ w' = Go.Proofs.sortWorld qO w blk 0 n c os) :
 CR P f #[v,fv] w (fun r w' => r = .tuple #[]/\∃ ys:List Nat,ys.Perm (List.range m)/\ys.Pairwise (fun a b=>lt b a=false)/\fZ (fL fR v e 1 (List.range m)) w w' (fL fR v e 1 ys)):=by
 have R:w.ownsRow 0 e 1 v (List.range m).length ((List.range m).flatMap fR):=I.holds
 rcases R.2 with ⟨rfl,l⟩|⟨g, p,cur,rfl,hb,t,l,G,u,B⟩
 . rw[pY]at l;omega
 . have C:g < w.heap.size:=(nW.1 t).1
   let E:Inhabited (Fin m):=⟨⟨0,hm⟩⟩
   have s:(List.finRange m).toArray.size=m:=by simp
   rw[pY,su]at B
   rw[pY]at l
   rw[su]at u
   have H:Go.Sort.Holds qO w g 0 (List.finRange m).toArray:=by
    intro j k
    have D : j<m:=by simpa using k
    have h:(cur.toList.take m)[j]? = ((List.range m).flatMap fR)[j]? := by rw[B]
    rw[LA D, IY,kR,pX D, wV]at h
    refine⟨?_,?_⟩
    . simp only[World.cell?,t,lD]
      rw[getElem!_pos _ j k]
      simpa[qO]using h
    . simp[World.frozen?,t]
   have hs:=J E g p (List.finRange m).toArray (by simp[fL,row,Value.ownBlock]) H C (by rw[s];exact M)
   rw[s]at hs
   rw[pY]
   refine Calls.mono hs ?_
   rintro en w' ⟨rfl,c, n,os,hp,U,rfl⟩
   have o:c.size=m:=by rw[hp.1];exact s
   have S:(c.toList.map fun x=>x.val).Perm (List.range m):=by
    have h:=hp.2.2
    have e1:c.extract 0 m=c := (congrArg (fun z=>c.extract 0 z) o.symm).trans GF
    have F:(List.finRange m).toArray.extract 0 m=(List.finRange m).toArray:=(congrArg (fun z=>(List.finRange m).toArray.extract 0 z) s.symm).trans GF
    rw[e1,F]at h
    rw[<-YO hm]
    exact h.map _
   have O:(Go.Proofs.sortWorld qO w g 0 n c os).heap[g]? = some (.cells (Go.Sort.putCells qO 0 c cur) e (0,0)):=by
    simp only[Go.Proofs.sortWorld,Go.Sort.grow,Go.Sort.putRow,Go.Sort.mapBlock,Go.Sort.ahead]
    rw[Dr (by simpa using C),yZ,if_pos rfl,t]
    rfl
   have Q:∀ b,b<w.heap.size->b≠g -> (Go.Proofs.sortWorld qO w g 0 n c os).heap[b]? = w.heap[b]? := by
    intro b hb N
    simp only[Go.Proofs.sortWorld,Go.Sort.grow,Go.Sort.putRow,Go.Sort.mapBlock,Go.Sort.ahead]
    rw[Dr (by simpa using hb),yZ,if_neg (fun e=>N e.symm)]
   have V:w.heap.size<=(Go.Proofs.sortWorld qO w g 0 n c os).heap.size:=by simp[Go.Proofs.sortWorld,Go.Sort.grow,Go.Sort.putRow,Go.Sort.mapBlock,Go.Sort.ahead]
   have T:(Go.Sort.putCells qO 0 c cur).size=cur.size:=by simp[Go.Sort.putCells]
   have W:(Go.Sort.putCells qO 0 c cur).toList.take ((c.toList.map fun x=>x.val).length*1)=(c.toList.map fun x=>x.val).flatMap fR:=by
    rw[IY]
    have Y:m<=cur.size:=by rw[u];exact l
    apply mM
    intro j
    rw[r9]
    simp only[zo,r8,o,su]
    split
    . rename_i k
      have L:j<cur.size:=by omega
      have A:j<c.size:=by omega
      simp only[Go.Sort.putCells,wV,LI,mZ,true_and,lD,Nat.sub_zero,kR]
      rw[tU L,tU A]
      simp only[w5]
      rw[if_pos A,getElem!_pos _ j A]
      rfl
    . rename_i k
      rw[zt (by simp;rw[o];omega)]
   refine⟨_,rfl,rfl,c.toList.map fun x=>x.val,S,?_,⟨?_,⟨rfl,rfl,rfl,V,fun b hb X=>Q b hb (fun e=>X (by simp[row,fL,Value.ownBlock,e]))⟩,fun b q => .inl (by simpa[row,fL,Value.ownBlock]using q),by simp[row,fL,Value.ownBlock],fun b q => ?_⟩⟩
   . rw[u5]
     intro i j hi k K
     have h:=U i j (mZ _) K (by simp at k ⊢;omega)
     simp only[zo,r8]at hi k
     rw[getElem!_pos _ i hi,getElem!_pos _ j k]at h
     simpa using h
   . refine⟨by rw[IY];simp,.inr ⟨g, p,_,by simp[o],hb,O,by simp[o];exact l,G,by rw[T];simpa using u,W⟩⟩
   . simp[row,fL,Value.ownBlock]at q
     subst q
     omega
end
section
variable {bs:List (World×List Nat)} {L:List fU} {w w0:World} {R:fU}
theorem St.abQ{lb:Nat}{T:TypeId}{cs:List Value}(h:St bs (R :: blk lb T cs :: L) w):lb∉R.gG:=fun hm=>by
 have a:=h.sep
 rw[lZ,zr]at a
 exact a.2.2 lb hm lb (by rw[lZ];simp[blk]) rfl
theorem St.ZT{lb:Nat}{T:TypeId}{cs:List Value}(h:St bs (R :: blk lb T cs :: L) w):lb<w.heap.size:=h.lt lb (by rw[lZ,lZ];simp[blk])
theorem St.ac5{α:Type}{cf:α->List Value}{sz:Nat}{ok:Nat->Prop}{v:Value}{xs:List α}(h:St bs (R :: L) w)(hb:(w0,[])∈bs)(hp:0<sz)(c:iw sz cf ok w0 v xs):iw sz cf (fun b=>b∉R.gG) w v xs :=
 Sl.mono (St.CU h hb hp (Sl.old c hp)) fun b d hm=>by
  rcases(h.base _ hb).mine b (by rw[lZ];simp[hm])with a|a
  . cases a
  . have e:b<w0.heap.size:=d.2
    have f:w0.heap.size<=b:=a
    omega
end
end Go.Sx
namespace Go.Sx
open Go
theorem St.under{e bs:List (World×List Nat)}{L0 L:List fU}{w wl g:World}{X:List Nat}(i:St e L0 wl)(k:(w,[])∈e)(j:∀ b∈X,b∈iU L0)(h:St bs L g)(hb:(wl,X)∈bs):St ((w,[]) :: bs) L g:=by
 have a:=i.base _ k
 have c:=h.base _ hb
 have f:∀ b∈X,w.heap.size<=b:=fun b hb=>(a.mine b (j b hb)).elim (fun h=>absurd h s_) id
 refine⟨fun p hp=>?_,h.own,h.sep,h.lt⟩
 rcases zb.1 hp with rfl|hp
 . refine⟨⟨c.gz.os.trans a.gz.os,c.gz.tape.trans a.gz.tape,c.gz.output.trans a.gz.output,kS a.gz.size c.gz.size,fun b d l=>?_⟩,fun b hb=>?_⟩
   . exact(c.gz.block b (nX d a.gz.size) (fun hb=>absurd (f b hb) (Nat.not_le.2 d))).trans (a.gz.block b d l)
   . rcases c.mine b hb with h|h
     . exact .inr (f b h)
     . exact .inr (kS a.gz.size h)
 . exact h.base p hp
theorem St.Wk{bs:List (World×List Nat)}{L:List fU}{w:World}{p:World×List Nat}(h:St (p :: bs) L w):St bs L w :=
 ⟨fun q a=>h.base q (lV _ a),h.own,h.sep,h.lt⟩
theorem St.abX{bs:List (World×List Nat)}{R:fU}{L:List fU}{w0 w1:World}(h:St bs (R :: L) w1)(hb:(w0,[])∈bs){b:Nat}(a:b<w0.heap.size):b∉R.gG:=fun hm =>
 ((h.base _ hb).mine b (by rw[lZ];exact zm.2 (.inl hm))).elim (fun h=>absurd h s_) (fun h=>absurd a (Nat.not_lt.2 h))
end Go.Sx
namespace Go.Sx
open Go
section
variable {Γ:Type} {P:Program} {T:TT P} {ops:Array Oper} {Q:Exit->Act->World->Prop} {n:Nat} {ds:List Deferred} {s0:List (Nat×Value)} {l0 l:List Oper} {pre:List (List Nat)} {mem:List Nat} {V vs:List (Γ->Value)} {v:Γ->Value}
variable {bs:List (World×List Nat)} {Ls:List ((Γ->List fU)×(Γ->World->Prop))} {i lo N:Nat} {s:Γ->List (Nat×Value)} {o:Oper} {L L1 L2 L3:Γ->List fU}
theorem AU{p:Prop}(h:p:=by first|exact Rf.sk|exact Rf.mv|exact Rf.EM|exact Rf.fa|exact Rf.ld|exact Rf.Cq|exact Rf.Cs|exact Rf.Cu|exact Rf.sL|exact Rf.rR|exact Rf.cmp|exact Rf.ar|exact Rf.ex|exact Rf.E3|exact Rf.E4|exact Rf.EP|exact Rf.AB|exact Rf.iK|exact Rf.EN|exact Rf.jk|exact Rf.sO|exact Rf.Ct|exact Rf.Cr|exact Rf.Cw|exact Rf.not|exact Rf.pT|exact Rf.pF|exact Rf.jB|exact Rf.ixG|exact Rf.fldG|exact Rf.len|exact Rf.nP|exact Rf.eP):p:=h
structure OF (T:TT P) (ops:Array Oper) (Q:Exit->Act->World->Prop) (n:Nat) (ds:List Deferred) (s0:List (Nat×Value)) (l0:List Oper) (pre:List (List Nat)) (mem:List Nat) (V:List (Γ->Value)) (bs:List (World×List Nat)) (Ls:List ((Γ->List fU)×(Γ->World->Prop))) (N i:Nat) (s:Γ->List (Nat×Value)) (l:List Oper) (vs:List (Γ->Value)):Prop where
 out:lE P ops Q n ds s0 l0 pre mem V (jx bs Ls) i s l vs
theorem Rf.q{L:List fU}{s:List (Nat×Value)}{v:Value}{w:World}(h:Rf T bs L ops n o s v)(a:St bs L w):mu P ops n o s v (fun w' => St bs L w' /\ True) w:=(h.out w a).congr fun w' h=>⟨h,trivial⟩
theorem OF.r1(hm:mem.contains i=false)(d:uG pre mem i=lo)(c:uB pre mem i=lo)(a:Ls[lo]? = some (L,fun _ _=>True))(hv:∀ g,Rf T bs (L g) ops n o (s g) (v g))
 (K:OF T ops Q n ds s0 l0 pre mem V bs Ls N (i+1) (fun g=>kj o.dst (v g) (s g)) l vs):OF T ops Q n ds s0 l0 pre mem V bs Ls (N+1) i s (o :: l) (v :: vs) :=
 ⟨uL hm d c a (fun g w b _=>(hv g).q b) K.out⟩
theorem OF.r2(hm:mem.contains i=false)(e:uG pre mem i=lo)(d:uB pre mem i=lo+1)(b:Ls[lo]? = some (L,fun _ _=>True))(c:Ls[lo+1]? = some (L1,fun _ _=>True))(hv:∀ g,Rf T bs (L g) ops n o (s g) (v g))(f:∀ g,Rf T bs (L1 g) ops n o (s g) (v g))
 (K:OF T ops Q n ds s0 l0 pre mem V bs Ls N (i+1) (fun g=>kj o.dst (v g) (s g)) l vs):OF T ops Q n ds s0 l0 pre mem V bs Ls (N+1) i s (o :: l) (v :: vs) :=
 ⟨Fx hm e d b c (fun g w a _=>(hv g).q a) (fun g w a _=>(f g).q a) K.out⟩
theorem OF.r3(hm:mem.contains i=false)(f:uG pre mem i=lo)(e:uB pre mem i=lo+2)(b:Ls[lo]? = some (L,fun _ _=>True))(c:Ls[lo+1]? = some (L1,fun _ _=>True))(d:Ls[lo+2]? = some (L2,fun _ _=>True))(hv:∀ g,Rf T bs (L g) ops n o (s g) (v g))(h:∀ g,Rf T bs (L1 g) ops n o (s g) (v g))(j:∀ g,Rf T bs (L2 g) ops n o (s g) (v g))
 (K:OF T ops Q n ds s0 l0 pre mem V bs Ls N (i+1) (fun g=>kj o.dst (v g) (s g)) l vs):OF T ops Q n ds s0 l0 pre mem V bs Ls (N+1) i s (o :: l) (v :: vs) :=
 ⟨abU hm f e b c d (fun g w a _=>(hv g).q a) (fun g w a _=>(h g).q a) (fun g w a _=>(j g).q a) K.out⟩
theorem adL{p q:Prop} (h:p->q:=by
 intro h
 repeat (first|refine OF.r1 rfl rfl rfl rfl (fun _=>AU) ?_|refine OF.r2 rfl rfl rfl rfl rfl (fun _=>AU) (fun _=>AU) ?_|refine OF.r3 rfl rfl rfl rfl rfl rfl (fun _=>AU) (fun _=>AU) (fun _=>AU) ?_)
 exact h):p->q:=h
theorem Fy[T:TT P]{a : Nat}{s' : Γ->List (Nat×Value)}{l' : List Oper}{b : List (Γ->Value)}(N:Nat)(K:lE P ops Q n ds s0 l0 pre mem V (jx bs Ls) a s' l' b)
 (h:OF T ops Q n ds s0 l0 pre mem V bs Ls 0 a s' l' b -> OF T ops Q n ds s0 l0 pre mem V bs Ls N i s l vs:=by exact adL):lE P ops Q n ds s0 l0 pre mem V (jx bs Ls) i s l vs:=(h ⟨K⟩).out
end
end Go.Sx
namespace Go.Sx
open Go
section
variable {r:Option Nat} {P:Program} {ops:Array Oper} {Q:Exit->Act->World->Prop} {o x y:Oper} {a:Act} {w:World} {K K' : Act->World->Prop} {v u:Value}
def qp(P:Program)(ops:Array Oper)(o:Oper)(a:Act)(w:World):Prop:=wn ops o a=false\/∃ v,(execOp a.eval o).run P w = .ok (.value v) w/\a.put o.dst v=a
theorem acS(a:Act)(d:Option Tmp)(v u:Value):(a.put d v).put d u=a.put d u:=by
 cases d with
 | none=>rfl
 | some d=>simp[Act.put]
theorem acR{a:Act}{d e:Option Tmp}{v u:Value}(h:∀ i,d=some i->e≠some i)(f:(a.put d v).put e u=a.put d v):a.put e u=a:=by
 cases e with
 | none=>rfl
 | some e =>
  cases d with
  | none=>exact f
  | some d =>
   have l:d≠e:=fun c=>h d rfl (c▸rfl)
   simp only[Act.put]at f ⊢
   have j:=congrArg Act.tmps f
   simp only at j
   have k:a.tmps.setIfInBounds e u=a.tmps:=by
    apply Array.ext
    . simp
    . intro i m g
      rw[Array.getElem_setIfInBounds (by simpa using g)]
      split
      . rename_i c
        subst c
        have b:=congrArg (fun t:Array Value=>t[e]?) j
        simp only[LC,Array.size_setIfInBounds]at b
        rw[if_pos trivial,if_pos (by simpa using g),if_neg l]at b
        rw[tU (by simpa using g)]at b
        exact Option.some.inj b
      . rfl
   rw[k]
structure Aw (ops:Array Oper) (x k:Oper):Prop where
 xk:∀ d,x.dst=some d->d∉k.looksAt ops
 ne:∀ d,x.dst=some d->k.dst≠some d
 sk:uJ k.op=true
theorem qp.put(h:Aw ops x o):qp P ops o (a.put x.dst v) w↔qp P ops o a w:=by
 have e:wn ops o (a.put x.dst v)=wn ops o a:=by unfold Go.Sx.wn;rw[wanted_put o a x.dst v h.xk]
 have d:execOp (a.put x.dst v).eval o=execOp a.eval o:=execOp_put o (JX h.sk) a x.dst v h.xk
 unfold qp
 rw[e,d]
 constructor
 . rintro(b|⟨u,b,c⟩)
   . exact .inl b
   . exact .inr ⟨u,b,acR h.ne c⟩
 . rintro(b|⟨u,b,c⟩)
   . exact .inl b
   . exact .inr ⟨u,b,by rw[Act.put_comm a v u h.ne,c]⟩
def El(ops:Array Oper)(x k:Oper):Bool:=uJ k.op&&match x.dst with
 | none=>true
 | some d => !(k.looksAt ops).contains d && !(k.dst==some d)
theorem Nj{x k:Oper}(h:El ops x k=true):Aw ops x k:=by
 simp only[El,lW]at h
 refine⟨fun d hd=>?_,fun d hd=>?_,h.1⟩<;>rw[hd]at h<;>simp at h
 . exact h.2.1
 . exact h.2.2
def tv(ops:Array Oper)(x k:Nat):Bool:=match ops[x]?,ops[k]? with
 | some x,some k=>El ops x k
 | _,_=>true
theorem Nk{i k:Nat}(h:tv ops i k=true)(hi:ops[i]? = some x)(hk:ops[k]? = some o):Aw ops x o:=by
 unfold tv at h;rw[hi,hk]at h;exact Nj h
def j5(P:Program)(ops:Array Oper):List Nat->Act->World->Prop
 | [],_,_=>True
 | k :: ks,a,w=>(∀ o,ops[k]? = some o->qp P ops o a w)/\j5 P ops ks a w
theorem uN{b:List Nat}:j5 P ops b a w↔∀ k∈b,∀ o,ops[k]? = some o->qp P ops o a w:=by
 induction b with
 | nil=>simp[j5]
 | cons k b c=>simp[j5,c]
theorem j5.put{e:List Nat}(h:∀ k∈e,∀ o,ops[k]? = some o->Aw ops x o):j5 P ops e (a.put x.dst v) w↔j5 P ops e a w:=by
 rw[uN,uN]
 exact⟨fun d k b o c=>(qp.put (h k b o c)).1 (d k b o c),fun d k b o c=>(qp.put (h k b o c)).2 (d k b o c)⟩
theorem aeF{i:Nat}{cs:List Nat}(h:Ap ops x y)(u:cat x.op=1)(hs:∀ d,x.dst=some d->d∉x.looksAt ops)(F:cat y.op=2\/cat y.op=3)(A:cat y.op=2->NP Q)(hi:ops[i]? = some x)(C:i∈cs)
 (D:iA r P ops Q x (iA r P ops Q y (fun a w=>j5 P ops cs a w/\K a w)) a w) :
 iA r P ops Q y (fun a w=>j5 P ops (cs.filter fun k => !(k==i)&&tv ops i k) a w/\iA r P ops Q x K a w) a w:=by
 obtain⟨v,hv,f⟩:=D.get (.inr u)
 have B : ∀ k∈cs.filter (fun k => !(k==i)&&tv ops i k),∀ o,ops[k]? = some o->Aw ops x o:=fun k g o E=>by
  have g:=z8.1 g
  exact Nk (Bool.and_eq_true_iff.1 g.2).2 hi E
 have sub:∀ a' w', j5 P ops cs (a'.put x.dst v) w' -> j5 P ops (cs.filter fun k => !(k==i)&&tv ops i k) a' w' := fun a' w' q => by
  rw[<-j5.put (v:=v) B, uN]
  rw[uN]at q
  exact fun k g=>q k (z8.1 g).1
 have H:∀ a' : Act,wn ops x (a'.put x.dst v)=wn ops x a' := fun a' => by unfold Go.Sx.wn;rw[wanted_put x a' x.dst v hs]
 have G:∀ a' : Act,execOp (a'.put x.dst v).eval x=execOp a'.eval x:=fun a' => execOp_put x (JX h.sx) a' x.dst v hs
 unfold iA at f
 rw[h.wn]at f
 have s:wn ops x a=false->Y0 P ops x v a:=fun e=>by
  rcases hv with hv|hv
  . exact hv
  . rw[hv.1]at e;cases e
 unfold iA
 split<;>rename_i t
 . rw[if_pos t]at f
   refine(h.act A F f).mono fun a' w' ⟨⟨m,j⟩,n⟩=>⟨sub a' w' m,?_⟩
   have c:=(uN.1 m) i C x hi
   show iA r P ops Q x K a' w'
   rcases c with c|⟨v', c,p⟩
   . rw[H]at c
     have z:Y0 P ops x undef a' := .inr ⟨c,rfl⟩
     refine iA.mk (.inl z) ?_
     have b:wn ops x a=false:=n.2▸c
     rcases s b with ⟨l,_⟩|⟨_,rfl⟩
     . rw[l]at b;cases b
     . exact j
   . rw[G]at c
     cases b:wn ops x a' with
     | false =>
      refine iA.mk (v:=undef) (.inl (.inr ⟨b,rfl⟩)) ?_
      rw[n.2]at b
      rcases s b with ⟨l,_⟩|⟨_,rfl⟩
      . rw[l]at b;cases b
      . exact j
     | true =>
      refine iA.mk (v:=v') (.inr ⟨b,u,c⟩) ?_
      rw[acS]at p;rw[p];exact j
 . rw[if_neg t]at f
   refine⟨sub _ _ (by rw[<-h.mA];exact f.1),?_⟩
   refine iA.mk (v:=v) ?_ (by rw[<-h.mA];exact f.2)
   rw[h.symm.y0,h.symm.y1];exact hv
def rW(r:Option Nat)(P:Program)(ops:Array Oper)(Q:Exit->Act->World->Prop)(b:Nat×List Nat)(K:Act->World->Prop)(a:Act)(w:World):Prop :=
 match ops[b.1]? with
 | none=>K a w
 | some o=>iA r P ops Q o (fun a w=>j5 P ops b.2 a w/\K a w) a w
def oF(r:Option Nat)(P:Program)(ops:Array Oper)(Q:Exit->Act->World->Prop):List (Nat×List Nat)->Act->World->Prop
 | [],a,w=>Q .normal a w
 | it :: l,a,w=>rW r P ops Q it (oF r P ops Q l) a w
theorem rW.mono{c:Nat×List Nat}(h:∀ a w,K a w->K' a w)(b:rW r P ops Q c K a w):rW r P ops Q c K' a w:=by
 unfold rW at *
 split<;>rename_i f<;>rw[f]at b
 . exact h _ _ b
 . exact b.mono fun a w ⟨d,e⟩=>⟨d,h _ _ e⟩
structure Cm (ops:Array Oper) (i:Nat) (ci:List Nat) (x:Oper) (c:List Nat) (y:Oper):Prop where
 ap:Ap ops x y
 k:(rJ x.op y.op=true/\(Nat.ble (cat x.op) 1=true->ci=[])/\(Nat.ble (cat y.op) 1=true->c=[])/\(∀ k∈ci,∀ o,ops[k]? = some o->Aw ops y o)) \/
  (cat x.op=1/\(cat y.op=2\/cat y.op=3)/\i∈c/\(∀ d,x.dst=some d->d∉x.looksAt ops)/\ci=[])
theorem aeE{i:Nat}{l c:List Nat}(C:Cm ops i l x c y)(hi:ops[i]? = some x)(t:cat x.op=2->NP Q)(q:cat y.op=2->NP Q)
 (s:iA r P ops Q x (fun a w=>j5 P ops l a w/\iA r P ops Q y (fun a w=>j5 P ops c a w/\K a w) a w) a w) :
 iA r P ops Q y (fun a w=>j5 P ops (c.filter fun k => !(k==i)&&tv ops i k) a w/\iA r P ops Q x (fun a w=>j5 P ops l a w/\K a w) a w) a w:=by
 obtain⟨h,j⟩:=C
 rcases j with ⟨d,m,n,B⟩|⟨d,m,n,A,rfl⟩
 . have F:∀ o:Oper,Nat.ble (cat o.op) 1=true->cat o.op=0\/cat o.op=1:=fun o h=>by have:=oV h;omega
   by_cases hx:Nat.ble (cat x.op) 1=true
   . obtain rfl:=m hx
     have g:iA r P ops Q x (iA r P ops Q y (fun a w=>j5 P ops c a w/\K a w)) a w:=s.mono fun a w h=>h.2
     refine(swap h d t q g).mono fun a w b=>?_
     obtain⟨v,hv,f,p⟩:=b.get (F x hx)
     refine⟨?_,iA.mk hv ⟨trivial,p⟩⟩
     rw[<-j5.put (x:=x) (v:=v) (fun k j o D=>Nk (Bool.and_eq_true_iff.1 (z8.1 j).2).2 hi D),uN]
     exact fun k j=>(uN.1 f) k (z8.1 j).1
   . have z:cat y.op=0:=by
      rcases HR x.op with e|e|e|e<;>simp[rJ,e]at d hx<;>exact d
     obtain rfl:=n (by rw[z];rfl)
     have g:iA r P ops Q x (iA r P ops Q y (fun a w=>j5 P ops l a w/\K a w)) a w:=s.mono fun a w ⟨b,f⟩=>by
      obtain⟨u,E,_,p⟩:=f.get (.inl z)
      exact iA.mk E ⟨(j5.put B).2 b,p⟩
     exact(swap h d t q g).mono fun a w b=>⟨trivial,b⟩
 . have g:iA r P ops Q x (iA r P ops Q y (fun a w=>j5 P ops c a w/\K a w)) a w:=s.mono fun a w h=>h.2
   exact(aeF h d A m q hi n g).mono fun a w ⟨b,f⟩=>⟨b,f.mono fun a w h=>⟨trivial,h⟩⟩
theorem Cm.sub{i:Nat}{g c c' : List Nat}(h:Cm ops i g x c y)(hs:∀ k∈c', k∈c)(hi:cat x.op=1->i∈c->i∈c'):Cm ops i g x c' y:=by
 refine⟨h.ap,?_⟩
 rcases h.k with ⟨a,b,d,f⟩|⟨a,b,d,j,f⟩
 . refine .inl ⟨a,b,fun e=>?_,f⟩
   have:=d e
   subst this
   cases c' with
   | nil=>rfl
   | cons k c' => exact absurd (hs k za) nI
 . exact .inr ⟨a,b,hi a d,j,f⟩
def Cz(ops:Array Oper)(L:List (Nat×List Nat))(c:List Nat):List Nat:=c.filter fun k=>L.all fun z => !(k==z.1)&&tv ops z.1 k
theorem aaR{a:Nat×List Nat}{L:List (Nat×List Nat)}{c:List Nat}:Cz ops (a :: L) c=(Cz ops L c).filter fun k => !(k==a.1)&&tv ops a.1 k:=by
 unfold Cz
 rw[List.filter_filter]
 refine wZ fun k _=>?_
 rw[List.all_cons]
def FF(ops:Array Oper)(x z:Nat×List Nat):Prop:=(∀ o,ops[x.1]? = some o->cat o.op=1->tv ops z.1 x.1=true)
theorem acJ{j:Nat}{c:List Nat}(s:ops[j]? = some y)(p:(∃ o∈ops.toList,cat o.op=2)->NP Q)(L2:List (Nat×List Nat)):∀ (L1:List (Nat×List Nat)) (a:Act) (w:World),(L1.map (·.1)).Nodup->L1.Pairwise (FF ops) ->
 (∀ b∈L1,∀ x,ops[b.1]? = some x->Cm ops b.1 b.2 x c y) ->
 oF r P ops Q (L1++(j,c) :: L2) a w->iA r P ops Q y (fun a w=>j5 P ops (Cz ops L1 c) a w/\oF r P ops Q (L1++L2) a w) a w:=by
 intro L1
 induction L1 with
 | nil =>
  intro a w _ _ _ h
  simp only[rq]at h ⊢
  unfold oF rW at h
  simp only[s]at h
  refine h.mono fun a w ⟨f,g⟩=>⟨?_,g⟩
  rw[uN]at f ⊢
  exact fun k d=>f k (z8.1 d).1
 | cons b L1 B =>
  intro a w m n q h
  rw[jV,zu]at m
  rw[sZ]at n
  have u : ∀ b∈L1,∀ x,ops[b.1]? = some x->Cm ops b.1 b.2 x c y:=fun k d=>q k (lV _ d)
  simp only[ng]at h ⊢
  unfold oF at h
  have mem:∀ {k:Nat} {o:Oper},ops[k]? = some o->o∈ops.toList:=fun d=>by simpa using Array.mem_of_getElem? d
  have f:=h.mono fun a w h=>B a w m.2 n.2 u h
  rw[aaR]
  unfold rW at f
  split at f<;>rename_i i
  . refine f.mono fun a w ⟨g,l⟩=>⟨?_,?_⟩
    . rw[uN]at g ⊢
      exact fun k d=>g k (z8.1 d).1
    . unfold oF rW;simp only[i];exact l
  . rename_i x
    have v:=(q b za x i).sub (c' := Cz ops L1 c) (fun k d=>(z8.1 d).1) (fun A hi=>z8.2 ⟨hi,zn.2 fun z t=>by
     rw[n.1 z t x i A,Bool.and_true]
     have:b.1≠z.1:=fun e=>m.1 (z7.2 ⟨z,t,e.symm⟩)
     simpa using this⟩)
    refine(aeE v i (fun e=>p ⟨x,mem i,e⟩) (fun e=>p ⟨y,mem s,e⟩) f).mono fun a w ⟨g,l⟩=>⟨g,?_⟩
    unfold oF rW;simp only[i];exact l
end
def HK(ops:Array Oper)(x y:Oper):Bool:=uJ x.op&&uJ y.op&&mc x.op&&mc y.op&&x.apart ops y
theorem UJ{ops:Array Oper}{x y:Oper}(h:HK ops x y=true):Ap ops x y:=by
 simp only[HK,lW]at h
 obtain⟨⟨⟨⟨d,e⟩,f⟩,g⟩,i⟩:=h
 obtain⟨a,b,c⟩:=Oper.apart_spec i
 exact⟨a,b,c,d,e,f,g⟩
def Ni(ops:Array Oper)(x:Oper)(c:List Nat):Bool:=c.all fun k=>match ops[k]? with|some o=>El ops x o|none=>true
theorem UM{ops:Array Oper}{x:Oper}{c:List Nat}(h:Ni ops x c=true):∀ k∈c,∀ o,ops[k]? = some o->Aw ops x o:=fun k a o b=>by
 have:=zn.1 h k a
 rw[b]at this
 exact Nj this
def KE(ops:Array Oper)(x:Oper):Bool:=match x.dst with|some d => !(x.looksAt ops).contains d|none=>true
theorem ad0{ops:Array Oper}{x:Oper}(h:KE ops x=true):∀ d,x.dst=some d->d∉x.looksAt ops:=fun d hd=>by
 unfold KE at h;rw[hd]at h;simpa using h
def Ia(ops:Array Oper)(i:Nat)(a:List Nat)(x:Oper)(c:List Nat)(y:Oper):Bool:=HK ops x y&&bif rJ x.op y.op then(!Nat.ble (cat x.op) 1||a.isEmpty)&&(!Nat.ble (cat y.op) 1||c.isEmpty)&&Ni ops y a
 else Nat.beq (cat x.op) 1 && !Nat.ble (cat y.op) 1&&c.contains i&&KE ops x&&a.isEmpty
theorem VD{ops:Array Oper}{i:Nat}{f c:List Nat}{x y:Oper}(h:Ia ops i f x c y=true):Cm ops i f x c y:=by
 simp only[Ia,lW]at h
 obtain⟨g,h⟩:=h
 refine⟨UJ g,?_⟩
 cases hk:rJ x.op y.op with
 | true =>
  rw[hk]at h
  simp only[cond_true,lW,zB,GO,List.isEmpty_iff]at h
  obtain⟨⟨a,b⟩,d⟩:=h
  refine .inl ⟨rfl,fun e=>?_,fun e=>?_,UM d⟩
  . rcases a with a|a
    . rw[e]at a;cases a
    . exact a
  . rcases b with a|a
    . rw[e]at a;cases a
    . exact a
 | false =>
  rw[hk]at h
  simp only[cond_false,lW,GO,List.isEmpty_iff]at h
  obtain⟨⟨⟨⟨a,b⟩,j⟩,d⟩,k⟩:=h
  refine .inr ⟨Br a,?_,by simpa using j,ad0 d,k⟩
  rcases HR y.op with e|e|e|e
  . rw[e]at b;cases b
  . rw[e]at b;cases b
  . exact .inl e
  . exact .inr e
def FE(ops:Array Oper):List (Nat×List Nat)->Bool
 | []=>true
 | x :: l=>(match ops[x.1]? with
  | some o => !Nat.beq (cat o.op) 1||l.all fun z=>tv ops z.1 x.1
  | none=>true)&&FE ops l
theorem RU{ops:Array Oper}:∀ (l:List (Nat×List Nat)),FE ops l=true->l.Pairwise (FF ops)
 | [],_=>List.Pairwise.nil
 | x :: l,h=>by
  simp only[FE,lW]at h
  refine sZ.2 ⟨fun z d o c b=>?_,RU l h.2⟩
  have a:=h.1
  rw[c]at a
  simp only[b,zB]at a
  rcases a with a|a
  . cases a
  . exact zn.1 a z d
def E1(ops:Array Oper)(pre:List (List Nat)):List (Nat×List Nat)->List (Nat×List Nat)->Bool
 | _,[]=>true
 | before,it :: l=>(match ops[it.1]? with
  | none=>true
  | some y=>before.all fun a=>(pre.getD it.1 []).contains a.1||match ops[a.1]? with
   | none=>true
   | some x=>Ia ops a.1 a.2 x it.2 y)&&E1 ops pre (before++[it]) l
theorem PX{ops:Array Oper}{pre:List (List Nat)}:∀ (l before:List (Nat×List Nat)),E1 ops pre before l=true->∀ L1 b L2,l=L1++b :: L2->∀ a∈before++L1,∀ x y,ops[a.1]? = some x->ops[b.1]? = some y ->
 (pre.getD b.1 []).contains a.1=true\/Cm ops a.1 a.2 x b.2 y
 | [],before,_,L1,b,L2,e,a,hxi,x,y,hx,hy=>by simp at e
 | z :: l,before,h,L1,b,L2,e,a,hxi,x,y,hx,hy=>by
  simp only[E1,lW]at h
  cases L1 with
  | nil =>
   simp only[rq,List.cons.injEq]at e
   obtain⟨rfl,rfl⟩:=e
   have d:=h.1
   rw[hy]at d
   have f:=zn.1 d a (by simpa using hxi)
   rw[hx]at f
   rcases ve.1 f with c|c
   . exact .inl c
   . exact .inr (VD c)
  | cons g L1 =>
   simp only[ng,List.cons.injEq]at e
   obtain⟨rfl,rfl⟩:=e
   exact PX _ (before++[z]) h.2 L1 b L2 rfl a (by simpa using hxi) x y hx hy
theorem SN{α:Type}{x y:α}:∀ (l:List α),List.Sublist [x,y] l->∃ A B,l=A++y :: B/\x∈A
 | [],h=>by cases h
 | z :: l,h=>by
  cases h with
  | cons _ h =>
   obtain⟨A,B,rfl,a⟩:=SN l h
   exact⟨z :: A,B,rfl,lV _ a⟩
  | cons_cons _ h =>
   obtain⟨A,B,rfl⟩:=DD (LG.1 h)
   exact⟨x :: A,B,rfl,za⟩
def okF(l:List Oper)(fP:List (Nat×List Nat)):Bool :=
 let p:=FD l []
 CS l p&&(l.zipIdx.all fun q=>q.1.after.toList.all fun e => !Region.binds .any e||decide (e.on<q.2))&&E1 l.toArray p [] fP&&decide ((fP.map (·.1)).Nodup)&&((List.range l.length).all fun i=>(fP.map (·.1)).contains i)&&Nat.ble fP.length l.length&&FE l.toArray fP
section
variable {r:Option Nat} {P:Program} {Q:Exit->Act->World->Prop} {l:List Oper} {a:Act} {w:World}
theorem adj{id:Nat}(fP:List (Nat×List Nat))(hm:P.follows .mixedOrders=true)(S:okF l fP=true)(y:xI l=false\/NP Q)(h:oF r P l.toArray Q fP a w.drew):WP r P (.region id l.toArray true) Q a w:=by
 simp only[okF,lW]at S
 obtain⟨⟨⟨⟨⟨⟨an,ab⟩,am⟩,G⟩,E⟩,ac⟩,ap⟩:=S
 have G:=of_decide_eq_true G
 have aa : (∃ o∈l.toArray.toList,cat o.op=2)->NP Q:=fun⟨o,u,p⟩=>by
  rcases y with y|y
  . have f:xI l=true:=DI.2 ⟨o,by simpa using u,by show Nat.beq (cat o.op) 2=true;rw[p];rfl⟩
    rw[y]at f;cases f
  . exact y
 have X:∀ (j:Nat) (o:Oper),l[j]? = some o->∀ e∈o.after,Region.binds .any e=true->e.on<j:=by
  intro j o v e t hb
  have f:=zn.1 ab (o,j) (by rw[List.mem_zipIdx_iff_getElem?];exact v)
  have k:=zn.1 f e (by simpa using t)
  simpa[hb]using k
 refine wpIn_region_any hm ?_
 have au:l.toArray.size=l.length:=by simp
 let g:Array Bool->Nat->Bool:=fun b i=>b.getD i false
 let rem:Array Bool->List (Nat×List Nat):=fun b=>fP.filter fun d => !g b d.1
 have aq:∀ (fuel:Nat) (b:Array Bool) (a:Act) (w:World),b.size=l.length->(rem b).length<=fuel->Down l (g b)->oF r P l.toArray Q (rem b) a w ->
  wpAnyIn (FW r) 0 P .any l.toArray Q fuel b a w:=by
  intro fuel
  have has:∀ (b:Array Bool),b.size=l.length->∀ i,i∈Region.ready .any l.toArray b->∃ c,(i,c)∈rem b:=by
   intro b hs i hi
   obtain⟨f,o,u,_⟩:=mem_ready.1 hi
   have F:i<l.length:=by simpa using(nW.1 u).1
   have k:=zn.1 E i (z6.2 F)
   obtain⟨d,m,Z⟩:=z7.1 (show i∈fP.map (·.1) by simpa using k)
   refine⟨d.2,?_⟩
   subst Z
   refine z8.2 ⟨m,?_⟩
   have af : d.1<b.size:=by omega
   show (!g b d.1)=true
   simp only[g]
   simp[af]at f ⊢
   exact f
  have ar:∀ (b:Array Bool),b.size=l.length->Region.ready .any l.toArray b=[]->∀ i,i<l.length->g b i=true:=by
   intro b hs s i
   induction i using Nat.strongRecOn with
   | _ i C =>
    intro hi
    cases p:g b i with
    | true=>rfl
    | false =>
     exfalso
     have:i∈Region.ready .any l.toArray b:=by
      rw[mem_ready]
      refine⟨?_,l[i],by simp[hi],fun e t hb=>?_⟩
      . have:i<b.size:=by omega
        simp only[g]at p
        simp[this]at p ⊢
        exact p
      . have k:=X i l[i] (zj hi) e t hb
        exact C e.on k o_
     rw[s]at this
     cases this
  have Y:∀ (L:List (Nat×List Nat)) (a:Act) (w:World),(∀ d∈L,l.length<=d.1)->oF r P l.toArray Q L a w->Q .normal a w:=by
   intro L
   induction L with
   | nil=>intro a w _ h;exact h
   | cons d L C =>
    intro a w q h
    unfold oF rW at h
    have:l.toArray[d.1]? = none:=by
     have:=q d za
     simpa using this
    simp only[this]at h
    exact C a w (fun z hz=>q z (lV _ hz)) h
  have J:∀ (b:Array Bool) (a:Act) (w:World),b.size=l.length->Region.ready .any l.toArray b=[]->oF r P l.toArray Q (rem b) a w->Q .normal a w:=by
   intro b a w hs s h
   refine Y _ a w (fun d n=>?_) h
   have f:=z8.1 n
   rcases xd d.1 l.length with k|k
   . have m:=ar b hs s d.1 k
     rw[show (!g b d.1)=false by rw[m];rfl]at f
     exact absurd f.2 d_
   . exact k
  induction fuel with
  | zero =>
   intro b a w hs p hd h
   have t:rem b=[]:=tT o_
   have s:Region.ready .any l.toArray b=[]:=by
    cases s:Region.ready .any l.toArray b with
    | nil=>rfl
    | cons i rs =>
     exfalso
     obtain⟨c,p⟩:=has b hs i (by rw[s];simp)
     rw[t]at p
     cases p
   exact⟨s,J b a w hs s h⟩
  | succ fuel C =>
   intro b a w hs p hd h
   refine⟨fun s=>J b a w hs s h,fun i hi=>?_⟩
   obtain⟨c,al⟩:=has b hs i hi
   obtain⟨av,o,u,ae⟩:=mem_ready.1 hi
   have R : l[i]? = some o:=by simpa using u
   have F:i<l.length:=(zg.1 R).1
   have ah : i<b.size:=by omega
   have D : ∀ j,g (b.setIfInBounds i true) j=(g b j||j==i):=fun j=>EU b i j ah
   have M : Down l (g (b.setIfInBounds i true)):=⟨fun j W v K e t hb=>by
    rw[D]at K ⊢
    rcases ve.1 K with h|h
    . rw[show g b e.on=true from hd.closed j W v h e t hb];rfl
    . have:j=i:=by simpa using h
      subst this
      have:W=o:=Option.some.inj (v.symm.trans R)
      subst this
      rw[show g b e.on=true from ae e t hb];rfl⟩
   obtain⟨L1,L2,q⟩:=DD al
   have I:((rem b).map (·.1)).Nodup:=(wY.map _).nodup G
   rw[q]at I
   simp only[sw,jV]at I
   have H:=zr.1 I
   have N:∀ d∈L1,d.1≠i:=fun d n e=>H.2.2 d.1 (z7.2 ⟨d,n,rfl⟩) i za e
   have ag:∀ d∈L2,d.1≠i:=fun d n e=>by
    have:=(zu.1 H.2.1).1
    exact this (z7.2 ⟨d,n,e⟩)
   have T:rem (b.setIfInBounds i true)=L1++L2:=by
    have e1:rem (b.setIfInBounds i true)=(rem b).filter fun d => !(d.1==i):=by
     simp only[rem,List.filter_filter]
     refine wZ fun d _=>?_
     rw[D]
     cases g b d.1<;>cases (d.1==i)<;>rfl
    rw[e1,q,vh,qx]
    simp only[BEq.rfl,DK,Bool.false_eq_true,if_false]
    rw[tV.2 (fun d n=>by have:=N d n;simpa using this),tV.2 (fun d n=>by have:=ag d n;simpa using this)]
   have ad:∀ d∈L1,∀ x,l.toArray[d.1]? = some x->Cm l.toArray d.1 d.2 x c o:=by
    intro d n x hx
    have ai:d∈rem b:=by rw[q];simp[n]
    have aj := z8.1 ai
    -- fP place in the whole list
    have U:List.Sublist (rem b) fP:=wY
    rw[q]at U
    obtain⟨A,B,O⟩:∃ A B,fP=A++(i,c) :: B/\d∈A:=by
     have f:List.Sublist [d,(i,c)] fP:=List.Sublist.trans (by
      have k:List.Sublist [d] L1:=LG.2 n
      have m:List.Sublist [(i,c)] ((i,c) :: L2):=LG.2 za
      exact List.Sublist.append k m) U
     exact SN fP f
    rcases PX fP [] am A (i,c) B O.1 d (by simpa using O.2) x o hx u with f|f
    . exfalso
      have:=AP an M i (by rw[D];simp) F d.1 f
      rw[D]at this
      have k:g b d.1=false:=by simpa using aj.2
      have m:(d.1==i)=false:=by have:=N d n;simpa using this
      rw[k,m]at this
      cases this
    . exact f
   rw[q]at h
   have ao:L1.Pairwise (FF l.toArray):=by
    have f:(rem b).Pairwise (FF l.toArray):=(RU fP ap).sublist wY
    rw[q]at f
    exact(LP.1 f).1
   have k:=acJ (j:=i) u aa L2 L1 a w H.1 ao ad h
   have ak:(rem (b.setIfInBounds i true)).length<=fuel:=by
    rw[T];rw[q]at p;simp at p ⊢;omega
   have m:iA r P l.toArray Q o (wpAnyIn (FW r) 0 P .any l.toArray Q fuel (b.setIfInBounds i true)) a w :=
    k.mono fun a' w' h=>C (b.setIfInBounds i true) a' w' (by simpa using hs) ak M (by rw[T];exact h.2)
   unfold wpOpIn
   rw[u]
   unfold iA at m
   show if Region.wanted o (yielded l.toArray a.tmps)=true then _ else _
   split<;>rename_i V
   . rw[if_pos (show wn l.toArray o a=true from V)]at m
     exact⟨fun _ _=>trivial,m.upon⟩
   . rw[if_neg (show ¬ wn l.toArray o a=true from V)]at m
     exact⟨fun _ _=>trivial,m⟩
 have E:rem (Array.replicate l.toArray.size false)=fP:=by
  simp only[rem,tV]
  intro d _
  show (!g (Array.replicate l.toArray.size false) d.1)=true
  simp only[g,tB]
  rfl
 refine aq _ _ a _ s_ (by rw[E];simpa using oV ac) ⟨fun j o _ v=>?_⟩ (by rw[E];exact h)
 simp only[g,tB]at v
 cases v
def uK:List Oper->Nat->Option Oper
 | [],_=>none
 | o :: _,0=>some o
 | _ :: l,n+1=>uK l n
theorem J1:∀ (l:List Oper) (n:Nat),uK l n=l[n]?
 | [],n=>by simp[uK]
 | o :: l,0=>rfl
 | o :: l,n+1=>by simpa[uK]using J1 l n
def pick(l:List Oper):List Nat->List Oper
 | []=>[]
 | i :: is=>match uK l i with
  | some o=>o :: pick l is
  | none=>pick l is
def A7(c:List Nat):List Nat->List (Nat×List Nat)
 | []=>[]
 | [i]=>[(i,c)]
 | i :: is=>(i,[]) :: A7 c is
def C0(last:List Nat):List (List Nat×List Nat)->List (Nat×List Nat)
 | []=>A7 [] last
 | (is,c) :: rest=>A7 c is++C0 last rest
def WS(r:Option Nat)(P:Program)(l:List Oper)(Q:Exit->Act->World->Prop)(last:List Nat):List (List Nat×List Nat)->Act->World->Prop
 | [],a,w=>WL r P l.toArray Q (pick l last) a w
 | (is,c) :: rest,a,w=>WL r P l.toArray (Exit.then (fun a w=>j5 P l.toArray c a w/\WS r P l Q last rest a w) Q) (pick l is) a w
theorem SM{ops:Array Oper}{o:Oper}{K M:Act->World->Prop}(h:kq r P (Exit.then M Q) o K a w):kq r P Q o K a w:=by
 unfold kq at h ⊢
 split<;>rename_i f<;>simp only[f]at h
 . exact h
 . exact h
 . exact h
 . revert h
   generalize (o.semAt r a.eval).run P w=res
   intro b
   have d:LetsOut (Exit.then M Q)->LetsOut Q:=fun⟨a,w,h⟩=>⟨a,w,h⟩
   cases res with
   | ok nx w' =>
    cases nx<;>simp only[Oper.uponIn]at b ⊢ <;> first
     | exact b
     | exact⟨b.1,CallsIn.mono b.2 (fun e g c=>by cases e<;>first|exact c|exact d c)⟩
     | exact⟨b.1,RoundIn.mono b.2 (fun e g c=>by cases e<;>first|exact c|exact d c)⟩
   | halt x w' => cases x<;>simp only[Oper.uponIn]at b ⊢ <;> exact b
theorem Sr{M:Act->World->Prop}{c:List Nat}{rest:List (Nat×List Nat)}(d:∀ a w,M a w->oF r P l.toArray Q rest a w):∀ (is:List Nat) (a:Act) (w:World),wl r P l.toArray (Exit.then (fun a w=>j5 P l.toArray c a w/\M a w) Q) (pick l is) a w->oF r P l.toArray Q (A7 c is++rest) a w:=by
 intro is
 induction is with
 | nil=>intro a w h;exact d a w h.2
 | cons i is f =>
  intro a w h
  have e:l.toArray[i]? = uK l i:=by rw[J1];simp
  cases is with
  | nil =>
   simp only[A7,ng,rq]
   unfold oF rW
   simp only[e]
   unfold pick at h
   cases ho:uK l i with
   | none=>rw[ho]at h;exact d a w h.2
   | some o =>
    simp only[ho]at h
    rw[Gh]at h
    show iA r P l.toArray Q o _ a w
    unfold iA at h ⊢
    split<;>rename_i b
    . rw[if_pos b]at h
      exact(SM (ops:=l.toArray) h).mono fun a w h=>⟨h.1,d a w h.2⟩
    . rw[if_neg b]at h
      exact⟨h.1,d _ w h.2⟩
  | cons g is =>
   simp only[A7,ng]
   unfold oF rW
   simp only[e]
   unfold pick at h
   cases ho:uK l i with
   | none=>rw[ho]at h;exact f a w h
   | some o =>
    simp only[ho]at h
    rw[Gh]at h
    show iA r P l.toArray Q o _ a w
    unfold iA at h ⊢
    split<;>rename_i b
    . rw[if_pos b]at h
      exact(SM (ops:=l.toArray) h).mono fun a w h=>⟨trivial,f a w h⟩
    . rw[if_neg b]at h
      exact⟨trivial,f _ w h⟩
theorem SZ{r:Option Nat}{ops:Array Oper}:∀ (l:List Oper) (a:Act) (w:World),wl r P ops Q l a w->wl r P ops (Exit.then (fun a w=>j5 P ops [] a w/\Q .normal a w) Q) l a w
 | [],a,w,h=>⟨trivial,h⟩
 | o :: l,a,w,h=>by
  rw[Gh]at h ⊢
  have h:=h.mono (SZ l)
  unfold iA at h ⊢
  split<;>rename_i f
  . rw[if_pos f]at h
    unfold kq at h ⊢
    split<;>rename_i g<;>simp only[g]at h
    . exact h
    . exact h
    . exact h
    . revert h
      generalize (o.semAt r a.eval).run P w=res
      intro b
      have d:LetsOut Q->LetsOut (Exit.then (fun a w=>j5 P ops [] a w/\Q .normal a w) Q):=fun⟨a,w,h⟩=>⟨a,w,h⟩
      cases res with
      | ok nx w' =>
       cases nx<;>simp only[Oper.uponIn]at b ⊢ <;> first
        | exact b
        | exact⟨b.1,CallsIn.mono b.2 (fun e i c=>by cases e<;>first|exact c|exact d c)⟩
        | exact⟨b.1,RoundIn.mono b.2 (fun e i c=>by cases e<;>first|exact c|exact d c)⟩
      | halt x w' => cases x<;>simp only[Oper.uponIn]at b ⊢ <;> exact b
  . rw[if_neg f]at h
    exact h
theorem LW(last:List Nat):∀ (b:List (List Nat×List Nat)) (a:Act) (w:World),WS r P l Q last b a w->oF r P l.toArray Q (C0 last b) a w
 | [],a,w,h=>by
  have:=Sr (r:=r) (P:=P) (Q:=Q) (l:=l) (M:=fun a w=>Q .normal a w) (c:=[]) (rest:=[]) (fun a w h=>h) last a w (SZ _ _ _ h.out)
  simpa[C0]using this
 | (is,c) :: rest,a,w,h=>Sr (LW last rest) is a w h.out
theorem kY{id n:Nat}{s:List (Nat×Value)}{ds:List Deferred}{bs:List (World×List Nat)}{L:List fU}(hm:P.follows .mixedOrders=true)(a:List (List Nat×List Nat))(last:List Nat)(d:St bs L w)(K:∀ w', St bs L w' -> WS r P l Q last a (Fr n s ds) w')(c:okF l (C0 last a)=true:=by kernel_rfl)(b:xI l=false\/NP Q:=by first|exact .inr inferInstance|exact .inl (by kernel_rfl)) :
 WP r P (.region id l.toArray true) Q (Fr n s ds) w:=adj (C0 last a) hm c b (LW last a _ _ (K _ (d.grow (gx.drew [] w))))
variable {n:Nat} {s:List (Nat×Value)} {ds:List Deferred} {is c last:List Nat} {rest:List (List Nat×List Nat)}
theorem jO{l' : List Oper}(h:WL r P l.toArray (Exit.then (fun a w=>j5 P l.toArray c a w/\WS r P l Q last rest a w) Q) l' (Fr n s ds) w)(b:pick l is=l' := by rfl):WS r P l Q last ((is,c) :: rest) (Fr n s ds) w:=by subst b;exact h
theorem kZ{l' : List Oper}(h:WL r P l.toArray Q l' (Fr n s ds) w)(a:pick l last=l' := by rfl):WS r P l Q last [] (Fr n s ds) w:=by subst a;exact h
theorem uU{M:Act->World->Prop}{ops:Array Oper}(b:j5 P ops c (Fr n s ds) w)(h:M (Fr n s ds) w):Exit.then (fun a w=>j5 P ops c a w/\M a w) Q .normal (Fr n s ds) w:=⟨b,h⟩
theorem qW{ops:Array Oper}{o:Oper}{d:Nat}{v:Value}(h:(execOp (ev n s) o).run P w = .ok (.value v) w)(hd:o.dst=some d)(hv:look s d=v):qp P ops o (Fr n s ds) w:=by
 refine .inr ⟨v,by rw[o7, h],?_⟩
 rw[hd,zF]
 refine vm ds fun t=>?_
 rw[CB]
 split
 . rename_i e;subst e;exact hv.symm
 . rfl
theorem lJ{ops:Array Oper}{k:Nat}{b:List Nat}{o:Oper}(hk:uK ops.toList k=some o)(h:qp P ops o (Fr n s ds) w)(hs:j5 P ops b (Fr n s ds) w):j5 P ops (k :: b) (Fr n s ds) w :=
 ⟨fun c a=>by rw[J1]at hk;simp at hk;rw[hk]at a;cases a;exact h,hs⟩
end
end Go.Sx
namespace Go.Sx
open Go
section
variable {P:Program} {T:TT P} {bs:List (World×List Nat)} {L:List fU} {ops:Array Oper} {n d:Nat} {s:List (Nat×Value)} {ds:List Deferred} {w w0:World} {t ty:TypeId} {pos:String} {af:Array Edge} {g:Option (Nat×Bool)} {x:Operand} {v:Value}
theorem Rk.AB{α:Type}{cf:α->List Value}{xs:List α}{e' : TypeId}{q k sz off:Nat}{ud:TypeDesc}{u:Value}(h:St bs L w:=by assumption)(f:ev n s x=jQ sz u k off:=by exact rfl)(a:iY T.u t=some ud:=by exact rfl)(e:j4 ud=false:=by exact rfl)(hi:L[q]? = some (fL cf u e' sz xs):=by first|exact qI|exact qJ|exact nt|exact nu|exact qK|exact qL|exact qM|exact qN)(i:Inhabited α:=by infer_instance)(c:∀ x:α,(cf x).length=sz:=by exact fun _=>rfl)(hk:k<xs.length:=by first|omega|(simp only[gC];omega))(hv:(cf (fJ xs k))[off]? = some v:=by exact rfl)(b:look s d=v:=by exact rfl):qp P ops ⟨some d,.load t x,ty,pos,af,g⟩ (Fr n s ds) w:=qW (uE f (kH T.kN a) e (St.yF h hi c) (gy hk) hv) rfl b
theorem Rk.ld{b o i:Nat}{a:TypeId}{cs:List Value}{ud:TypeDesc}(h:St bs L w:=by assumption)(j:ev n s x = .pointer (some ⟨b,o,none⟩):=by exact rfl)(c:iY T.u t=some ud:=by exact rfl)(f:j4 ud=false:=by exact rfl)(hi:L[i]? = some (blk b a cs):=by first|exact qI|exact qJ|exact nt|exact nu|exact qK|exact qL|exact qM|exact qN)(hv:cs[o]? = some v:=by exact rfl)(e:look s d=v:=by exact rfl):qp P ops ⟨some d,.load t x,ty,pos,af,g⟩ (Fr n s ds) w:=qW (kW j (kH T.kN c) f (h.rH hi hv)) rfl e
theorem Rk.jk{α:Type}{cf:α->List Value}{xs:List α}{ok:Nat->Prop}{c:α}{k sz off:Nat}{ud:TypeDesc}{u:Value}(h:St bs L w:=by assumption)(f:ev n s x=jQ sz u k off:=by exact rfl)(a:iY T.u t=some ud:=by exact rfl)(e:j4 ud=false:=by exact rfl)(hi:iw sz cf ok w0 u xs:=by assumption)(hb:(w0,[])∈bs:=by simp)(i:0<sz:=by decide)(hk:xs[k]? = some c:=by first|assumption|exact rfl|exact gy (by first|omega|(simp only[gC];omega)))(hv:(cf c)[off]? = some v:=by exact rfl)(b:look s d=v:=by exact rfl):qp P ops ⟨some d,.load t x,ty,pos,af,g⟩ (Fr n s ds) w:=qW (uE f (kH T.kN a) e (St.CU h hb i hi) hk hv) rfl b
theorem Rk.sO{b o i sz by_:Nat}{l:Value}{a:TypeId}{cs vs:List Value}{ud:TypeDesc}(h:St bs L w:=by assumption)(k:ev n s x = .pointer (some ⟨b,o,none⟩):=by exact rfl)(c:iY T.u t=some ud:=by exact rfl)(f:j4 ud=true:=by exact rfl)(j:iY T.i t=some (sz,by_,l):=by exact rfl)(hi:L[i]? = some (blk b a cs):=by first|exact qI|exact qJ|exact nt|exact nu|exact qK|exact qL|exact qM|exact qN)(hv:sub' cs o sz=some vs:=by exact rfl)(e:look s d = .agg vs.toArray:=by exact rfl):qp P ops ⟨some d,.load t x,ty,pos,af,g⟩ (Fr n s ds) w:=qW (tE k (kH T.kN c) f (mC T.mT j) (wM hv) (h.HO hi (yK hv))) rfl e
theorem pR{p:Prop}(h:p:=by first|exact Rk.AB|exact Rk.ld|exact Rk.Cq|exact Rk.Cs|exact Rk.Cu|exact Rk.jk|exact Rk.sO|exact Rk.Ct|exact Rk.Cr|exact Rk.Cw|exact Rk.Fa|exact Rk.E9):p:=h
theorem kJ{Q:Exit->Act->World->Prop}{M:Act->World->Prop}{c:List Nat}(h:M (Fr n s ds) w)(b:j5 P ops c (Fr n s ds) w:=by repeat (first|exact trivial|refine lJ rfl pR ?_)):Exit.then (fun a w=>j5 P ops c a w/\M a w) Q .normal (Fr n s ds) w:=⟨b,h⟩
end
end Go.Sx
namespace Go.Sx
open Go
section
variable {r:Option Nat} {P:Program} {ops:Array Oper} {Q:Exit->Act->World->Prop} {rest:List Oper} {n:Nat} {s:List (Nat×Value)} {ds:List Deferred} {w w' : World}
variable {bs:List (World×List Nat)} {L L' : List fU} {t ty:TypeId} {pos:String} {af:Array Edge} {g:Option (Nat×Bool)} {x y:Operand} {u v z:Value} {vs cs:List Value} {d sz szt by_:Nat}
theorem B2{p:Prop}(h:p:=by first|exact Nt|exact Ns|exact Nu|exact Nv|exact Nr|exact cNilF|exact cMap|exact rfl):p:=h
theorem iO[T:TT P]{α:Type}[Inhabited α]{cf:α->List Value}{ys:List α}{e:TypeId}{k off:Nat}(f:α->α)(i:Nat)(j:St bs L w)(K:∀ w', St bs L' w' -> WL r P ops Q rest (Fr n s ds) w')
 (o:ev n s x=jQ sz v k off:=by exact rfl) (p:ev n s y=u:=by first|((conv=>lhs;whnf);done)|exact rfl) (hvs:u.cells.toList=vs:=by exact B2) (m:iY T.i t=some (szt,by_,z):=by exact rfl) (l:vs.length=szt:=by exact rfl) (h1:vs.all (·.oneCell')=true:=by exact rfl)
 (hi:L[i]? = some (fL cf v e sz ys):=by exact rfl) (d:∀ x:α,(cf x).length=sz:=by exact fun _=>rfl) (hk:k<ys.length:=by first|omega|(simp only[gC];omega)) (h:Nat.ble (off+vs.length) sz=true:=by exact rfl)
 (b:cf (f (fJ ys k))=setAt (cf (fJ ys k)) off vs:=by exact rfl) (a:L.set i (fL cf v e sz (fN ys k f))=L' := by first|(dsimp only[List.set];exact rfl)|exact rfl) (c:gB ops n s g=true:=by exact rfl) :
 WL r P ops Q (⟨none,.store t x y,ty,pos,af,g⟩ :: rest) (Fr n s ds) w:=aez i c o p hvs (mC T.mT m) l h1 j hi d hk h b a K
theorem jU[T:TT P]{α:Type}[Inhabited α]{cf:α->List Value}{ys:List α}{a:TypeId}{b k off:Nat}(f:α->α)(i:Nat)(l:St bs L w)(K:∀ w', St bs L' w' -> gx [b] w w' -> WL r P ops Q rest (Fr n s ds) w')
 (p:ev n s x = .pointer (some ⟨b,k*sz+off,none⟩):=by exact rfl) (q:ev n s y=u:=by first|((conv=>lhs;whnf);done)|exact rfl) (hvs:u.cells.toList=vs:=by exact B2) (o:iY T.i t=some (szt,by_,z):=by exact rfl) (m:vs.length=szt:=by exact rfl) (h1:vs.all (·.oneCell')=true:=by exact rfl)
 (hi:L[i]? = some (blk b a (ys.flatMap cf)):=by exact rfl) (c:∀ x:α,(cf x).length=sz:=by exact fun _=>rfl) (hk:k<ys.length:=by first|omega|(simp only[gC];omega)) (d:Nat.ble (off+vs.length) sz=true:=by exact rfl)
 (h:cf (f (fJ ys k))=setAt (cf (fJ ys k)) off vs:=by exact rfl) (e:L.set i (blk b a ((fN ys k f).flatMap cf))=L' := by first|(dsimp only[List.set];exact rfl)|exact rfl) (j:gB ops n s g=true:=by exact rfl) :
 WL r P ops Q (⟨none,.store t x y,ty,pos,af,g⟩ :: rest) (Fr n s ds) w:=FV i j p q hvs (mC T.mT o) m h1 l hi (Kl c hk (oV d)) (FG c hk h (oV d)) e K
theorem jM[T:TT P]{cs' : List Value}{a:TypeId}{b o:Nat}(i:Nat)(f:St bs L w)(K:∀ w', St bs L' w' -> WL r P ops Q rest (Fr n s ds) w')
 (k:ev n s x = .pointer (some ⟨b,o,none⟩):=by exact rfl) (l:ev n s y=u:=by first|((conv=>lhs;whnf);done)|exact rfl) (hvs:u.cells.toList=vs:=by exact B2) (j:iY T.i t=some (szt,by_,z):=by exact rfl) (h:vs.length=szt:=by exact rfl) (h1:vs.all (·.oneCell')=true:=by exact rfl)
 (hi:L[i]? = some (blk b a cs):=by exact rfl) (d:Nat.ble (o+vs.length) cs.length=true:=by exact rfl) (hcs:setAt cs o vs=cs' := by dsimp only[setAt,List.take,List.drop,List.length,List.append,HAppend.hAppend,Append.append]<;>exact rfl)
 (c:L.set i (blk b a cs')=L' := by first|(dsimp only[List.set];exact rfl)|exact rfl) (e:gB ops n s g=true:=by exact rfl) :
 WL r P ops Q (⟨none,.store t x y,ty,pos,af,g⟩ :: rest) (Fr n s ds) w:=FU i e k l hvs (mC T.mT j) h h1 f hi d hcs c K
theorem ij(c:St bs L w)(K:∀ b w', w.heap.size<=b->gx [] w w' -> St bs (blk b t cs :: L) w' -> WL r P ops Q rest (Fr n ((d,.pointer (some ⟨b,0,none⟩)) :: s) ds) w')
 (e:ev n s x=v:=by first|((conv=>lhs;whnf);done)|exact rfl) (hcs:v.cells.toList=cs:=by exact B2) (a:gB ops n s g=true:=by exact rfl):WL r P ops Q (⟨some d,.box t x,ty,pos,af,g⟩ :: rest) (Fr n s ds) w:=bx a e hcs c K
theorem iH[T:TT P](c:St bs L w)(K:∀ b w', w.heap.size<=b->gx [] w w' -> St bs (blk b t cs :: L) w' -> WL r P ops Q rest (Fr n ((d,.pointer (some ⟨b,0,none⟩)) :: s) ds) w')
 (e:iY T.i t=some (sz,by_,z):=by exact rfl) (hcs:z.cells.toList=cs:=by exact B2) (a:gB ops n s g=true:=by exact rfl):WL r P ops Q (⟨some d,.alloc t,ty,pos,af,g⟩ :: rest) (Fr n s ds) w:=al a (mC T.mT e) hcs c K
end
end Go.Sx
namespace Go.Sx
open Go
section
variable {H:Type} {enc:TypeId×Value->H} {P:Program} {w:World} {sp:Nat->Bool} {hd:Bool} {t e:TypeId} {fuel:Nat} {v:Value} {cs:List Value} {x:DataW H×List MemPlace} {k:IntKind}
theorem aer{a:Addr}{u:Value}(h:w.cell? a=some u):a.spot=none:=by
 unfold World.cell? at h
 split at h
 . split at h
   . cases h
   . rename_i hs
     cases hq:a.spot with
     | none=>rfl
     | some q=>rw[hq]at hs;simp at hs
 . cases h
theorem Sl.Rb{α:Type}[Inhabited α]{sz:Nat}{E:World->α->List Value->Prop}(L:P.underlying t=some (.slice e))(F:P.cellsOf e=sz)(hp:0<sz)
 (C:∀ n cs y,DataW.trod enc P w 0 sp hd n e cs=some y->∃ x:α,E w x cs) (h:DataW.trod enc P w 0 sp hd fuel t cs=some x):∃ v xs,cs=[v]/\Sl sz E (fun _=>True) w v xs:=by
 rcases Go.Deep.open_slice L h with ⟨B,_⟩|⟨a,len,A,m,n,D,O,rfl,_,I,hm,K,_,z⟩
 . exact⟨_,[],B,Sl.nil _ _ _ _⟩
 . rw[F]at z
   have Q:len<=m:=by rw[K];split<;>omega
   obtain⟨X,k⟩:=Go.Deep.choose_lt (α:=α) (n:=len) (p:=fun i x=>∃ cs', w.cells? 0 (a.add (i*sz)) sz=some cs' /\ E w x cs') (fun i hi=>by
    obtain⟨cs', c,d⟩:=z i o_
    obtain⟨y,f⟩:=C _ _ _ d
    exact⟨y,cs', c,f⟩)
   refine⟨_,(List.range len).map X,rfl,some a,A,s_,by simp;exact I,hm,fun i y hi=>?_⟩
   have q:i<len:=by have:=(zg.1 hi).1;simpa using this
   have f:y=X i:=by
    rw[kR,pX q]at hi
    simpa using hi.symm
   subst f
   obtain⟨cs', c,d⟩:=k i q
   obtain⟨_,J,G⟩:=World.cells?_some c
   have r:a.spot=none:=by
    obtain⟨cs0,M,_⟩:=k 0 o_
    obtain⟨_,R,N⟩:=World.cells?_some M
    have g:=N 0 hp
    have:cs0[0]? = some cs0[0]:=zj o_
    rw[this]at g
    have:=aer g
    simpa[Addr.add]using this
   obtain⟨b,o,s⟩:=a
   simp only at r
   subst r
   refine⟨b,o,cs', rfl,trivial,J,d,fun j u l=>?_⟩
   have H : j<sz:=by have:=(zg.1 l).1;omega
   have:=G j H
   rw[l]at this
   rw[Addr.add_lit,Addr.add_lit]at this
   exact this
theorem gX.abW{n:Int}(h:(Lit.int k n).wf=true):gX k n:=by
 simp only[Lit.wf,lW,decide_eq_true_eq]at h
 exact h
theorem vZ(c:P.underlying e=some (.int k))(h:DataW.trod enc P w 0 sp hd fuel e cs=some x):∃ n,cs=[.int k n]/\gX k n:=by
 obtain⟨m,a,_,b⟩:=DataW.trod_int c h
 exact⟨m,a,gX.abW b⟩
theorem Pr{a:Array Field}(g:P.underlying t=some (.struct a))(h:DataW.trod enc P w 0 sp hd fuel t cs=some x):cs.length=P.cellsOf t/\∀ f∈a.toList,∃ n y,DataW.trod enc P w 0 sp hd n f.type ((cs.drop f.offset).take (P.cellsOf f.type))=some y:=by
 cases fuel with
 | zero=>simp[DataW.trod]at h
 | succ n =>
  unfold DataW.trod at h
  rw[g]at h
  simp only at h
  split at h
  . rename_i c
    refine⟨c,fun f b=>?_⟩
    obtain⟨i,hi⟩:=List.getElem?_of_mem b
    cases hm:(a.toList.mapM fun f=>DataW.trod enc P w 0 sp hd n f.type ((cs.drop f.offset).take (P.cellsOf f.type)))with
    | none=>rw[hm]at h;simp at h
    | some ys =>
     have:=mapM_some_get hm i f hi
     have d:=mapM_some_length hm
     have e:i<ys.length:=by rw[d];exact(zg.1 hi).1
     rw[zj e]at this
     exact⟨n,_,this⟩
  . simp at h
end
end Go.Sx
