/- Plain lemmas: rules for walking through code, one for each operation, over any program; an evaluator of closed calls with its soundness; and plain mathematics. No conditions. -/
import Derived.Test.YtoceanggliccgaaGreatDoorFc
import Derived.Shelf.SlSortCmp.Whole1
import Derived.Test.YtoceanggliccgaaGreatDoorFa
import Derived.Test.YtoceanggliccgaaGreatDoorFb
import Derived.KernelRfl
import Derived.ProofKit
import Derived.Deep.Slices
set_option linter.unusedVariables false
set_option linter.unusedSectionVars false
set_option linter.unusedSimpArgs false
namespace Go.Sx
open Go
section
variable {P:Program} {w:World} {v:Value} {e:TypeId} {f:FuncId} {fv:Value} {m:Nat}
def qI(x:Fin m):Value:=.int .i64 ((x.val:Nat):Int)
theorem Yw(hm:0<m):((List.finRange m).map fun x=>x.val)=List.range m:=by
 apply nS
 intro i
 rw[lK]
 by_cases h:i<m
 . rw[qX h,zk (by simpa using h)]
   simp
 . rw[zw (by simpa using h),zw (by simpa using h)]
   rfl
theorem ID(xs:List Nat):xs.flatMap fV=xs.map fun x=>Value.int .i64 ((x:Nat):Int):=by
 induction xs with
 | nil=>rfl
 | cons x xs a=>rw[zx,a];rfl
theorem Sv{α:Type}[Inhabited α]{enc:α->Value}{blk k b:Nat}{d:Array α}{os:Array Obj}(hb:b<w.heap.size)(a:b≠blk):(Go.Proofs.sortWorld enc w blk 0 k d os).heap[b]? = w.heap[b]? := by
 simp only[Go.Proofs.sortWorld,Go.Sort.grow,Go.Sort.putRow,Go.Sort.mapBlock,Go.Sort.ahead]
 rw[Dj (by simpa using hb),yT,if_neg (fun e=>a e.symm)]
theorem aee(hm:0<m)(lt:Nat->Nat->Bool)(I:Own (fL fV v e 1 (List.range m)) w)(M:m<4611686018427387904)
 (J:∀ (E:Inhabited (Fin m)) blk p (d:Array (Fin m)),(fL fV v e 1 (List.range m)).gG=[blk]->Go.Sort.Holds qI w blk 0 d->blk<w.heap.size->d.size<4611686018427387904->Calls P f #[.slice (some ⟨blk,0,none⟩) d.size p,fv] w fun e w' =>
  e = .returned (.tuple #[])/\∃ c n os,Go.Sort.PermIn 0 d.size d c /\ Go.Sort.SortedIn (fun x y:Fin m=>lt x.val y.val) 0 d.size c /\ w' = Go.Proofs.sortWorld qI w blk 0 n c os) :
 CR P f #[v,fv] w (fun r w' => r = .tuple #[]/\∃ ys:List Nat,ys.Perm (List.range m)/\ys.Pairwise (fun a b=>lt b a=false)/\fZ (fL fV v e 1 (List.range m)) w w' (fL fV v e 1 ys)):=by
 have R:w.ownsRow 0 e 1 v (List.range m).length ((List.range m).flatMap fV):=I.holds
 rcases R.2 with ⟨rfl,l⟩|⟨g, p,cur,rfl,hb,t,l,G,u,B⟩
 . rw[qq]at l;omega
 . have C:g < w.heap.size:=(z6.1 t).1
   let E:Inhabited (Fin m):=⟨⟨0,hm⟩⟩
   have s:(List.finRange m).toArray.size=m:=by simp
   rw[qq,rW]at B
   rw[qq]at l
   rw[rW]at u
   have H:Go.Sort.Holds qI w g 0 (List.finRange m).toArray:=by
    intro j k
    have D : j<m:=by simpa using k
    have h:(cur.toList.take m)[j]? = ((List.range m).flatMap fV)[j]? := by rw[B]
    rw[Lr D, ID,lK,qX D, wO]at h
    refine⟨?_,?_⟩
    . simp only[World.cell?,t,lC]
      rw[getElem!_pos _ j k]
      simpa[qI]using h
    . simp[World.frozen?,t]
   have hs:=J E g p (List.finRange m).toArray (by simp[fL,row,Value.ownBlock]) H C (by rw[s];exact M)
   rw[s]at hs
   rw[qq]
   refine Calls.mono hs ?_
   rintro en w' ⟨rfl,c, n,os,hp,U,rfl⟩
   have o:c.size=m:=by rw[hp.1];exact s
   have S:(c.toList.map fun x=>x.val).Perm (List.range m):=by
    have h:=hp.2.2
    have e1:c.extract 0 m=c := (congrArg (fun z=>c.extract 0 z) o.symm).trans Gt
    have F:(List.finRange m).toArray.extract 0 m=(List.finRange m).toArray:=(congrArg (fun z=>(List.finRange m).toArray.extract 0 z) s.symm).trans Gt
    rw[e1,F]at h
    rw[<-Yw hm]
    exact h.map _
   have O:(Go.Proofs.sortWorld qI w g 0 n c os).heap[g]? = some (.cells (Go.Sort.putCells qI 0 c cur) e (0,0)):=by
    simp only[Go.Proofs.sortWorld,Go.Sort.grow,Go.Sort.putRow,Go.Sort.mapBlock,Go.Sort.ahead]
    rw[Dj (by simpa using C),yT,if_pos rfl,t]
    rfl
   have Q:∀ b,b<w.heap.size->b≠g -> (Go.Proofs.sortWorld qI w g 0 n c os).heap[b]? = w.heap[b]? := by
    intro b hb N
    simp only[Go.Proofs.sortWorld,Go.Sort.grow,Go.Sort.putRow,Go.Sort.mapBlock,Go.Sort.ahead]
    rw[Dj (by simpa using hb),yT,if_neg (fun e=>N e.symm)]
   have V:w.heap.size<=(Go.Proofs.sortWorld qI w g 0 n c os).heap.size:=by simp[Go.Proofs.sortWorld,Go.Sort.grow,Go.Sort.putRow,Go.Sort.mapBlock,Go.Sort.ahead]
   have T:(Go.Sort.putCells qI 0 c cur).size=cur.size:=by simp[Go.Sort.putCells]
   have W:(Go.Sort.putCells qI 0 c cur).toList.take ((c.toList.map fun x=>x.val).length*1)=(c.toList.map fun x=>x.val).flatMap fV:=by
    rw[ID]
    have Y:m<=cur.size:=by rw[u];exact l
    apply nS
    intro j
    rw[sG]
    simp only[zn,rR,o,rW]
    split
    . rename_i k
      have L:j<cur.size:=by omega
      have A:j<c.size:=by omega
      simp only[Go.Sort.putCells,wO,LF,mU,true_and,lC,Nat.sub_zero,lK]
      rw[tQ L,tQ A]
      simp only[wM]
      rw[if_pos A,getElem!_pos _ j A]
      rfl
    . rename_i k
      rw[zw (by simp;rw[o];omega)]
   refine⟨_,rfl,rfl,c.toList.map fun x=>x.val,S,?_,⟨?_,⟨rfl,rfl,rfl,V,fun b hb X=>Q b hb (fun e=>X (by simp[row,fL,Value.ownBlock,e]))⟩,fun b q => .inl (by simpa[row,fL,Value.ownBlock]using q),by simp[row,fL,Value.ownBlock],fun b q => ?_⟩⟩
   . rw[wJ]
     intro i j hi k K
     have h:=U i j (mU _) K (by simp at k ⊢;omega)
     simp only[zn,rR]at hi k
     rw[getElem!_pos _ i hi,getElem!_pos _ j k]at h
     simpa using h
   . refine⟨by rw[ID];simp,.inr ⟨g, p,_,by simp[o],hb,O,by simp[o];exact l,G,by rw[T];simpa using u,W⟩⟩
   . simp[row,fL,Value.ownBlock]at q
     subst q
     omega
end
section
variable {bs:List (World×List Nat)} {L:List fT} {w w0:World} {R:fT}
theorem St.abH{lb:Nat}{T:TypeId}{cs:List Value}(h:St bs (R :: blk lb T cs :: L) w):lb∉R.gG:=fun hm=>by
 have a:=h.sep
 rw[lV,zr]at a
 exact a.2.2 lb hm lb (by rw[lV];simp[blk]) rfl
theorem St.ZJ{lb:Nat}{T:TypeId}{cs:List Value}(h:St bs (R :: blk lb T cs :: L) w):lb<w.heap.size:=h.lt lb (by rw[lV,lV];simp[blk])
theorem St.acX{α:Type}{cf:α->List Value}{sz:Nat}{ok:Nat->Prop}{v:Value}{xs:List α}(h:St bs (R :: L) w)(hb:(w0,[])∈bs)(hp:0<sz)(c:gU sz cf ok w0 v xs):gU sz cf (fun b=>b∉R.gG) w v xs :=
 Sl.mono (St.CU h hb hp (Sl.old c hp)) fun b d hm=>by
  rcases(h.base _ hb).mine b (by rw[lV];simp[hm])with a|a
  . cases a
  . have e:b<w0.heap.size:=d.2
    have f:w0.heap.size<=b:=a
    omega
end
end Go.Sx
namespace Go.Sx
open Go
theorem St.under{e bs:List (World×List Nat)}{L0 L:List fT}{w wl g:World}{X:List Nat}(i:St e L0 wl)(k:(w,[])∈e)(j:∀ b∈X,b∈iR L0)(h:St bs L g)(hb:(wl,X)∈bs):St ((w,[]) :: bs) L g:=by
 have a:=i.base _ k
 have c:=h.base _ hb
 have f:∀ b∈X,w.heap.size<=b:=fun b hb=>(a.mine b (j b hb)).elim (fun h=>absurd h s_) id
 refine⟨fun p hp=>?_,h.own,h.sep,h.lt⟩
 rcases zb.1 hp with rfl|hp
 . refine⟨⟨c.gy.os.trans a.gy.os,c.gy.tape.trans a.gy.tape,c.gy.output.trans a.gy.output,kg a.gy.size c.gy.size,fun b d l=>?_⟩,fun b hb=>?_⟩
   . exact(c.gy.block b (nQ d a.gy.size) (fun hb=>absurd (f b hb) (Nat.not_le.2 d))).trans (a.gy.block b d l)
   . rcases c.mine b hb with h|h
     . exact .inr (f b h)
     . exact .inr (kg a.gy.size h)
 . exact h.base p hp
theorem St.VW{bs:List (World×List Nat)}{L:List fT}{w:World}{p:World×List Nat}(h:St (p :: bs) L w):St bs L w :=
 ⟨fun q a=>h.base q (nv _ a),h.own,h.sep,h.lt⟩
theorem St.abN{bs:List (World×List Nat)}{R:fT}{L:List fT}{w0 w1:World}(h:St bs (R :: L) w1)(hb:(w0,[])∈bs){b:Nat}(a:b<w0.heap.size):b∉R.gG:=fun hm =>
 ((h.base _ hb).mine b (by rw[lV];exact zo.2 (.inl hm))).elim (fun h=>absurd h s_) (fun h=>absurd a (Nat.not_lt.2 h))
end Go.Sx
namespace Go.Sx
open Go
section
variable {Γ:Type} {P:Program} {T:TT P} {ops:Array Oper} {Q:Exit->Act->World->Prop} {n:Nat} {ds:List Deferred} {s0:List (Nat×Value)} {l0 l:List Oper} {pre:List (List Nat)} {mem:List Nat} {V vs:List (Γ->Value)} {v:Γ->Value}
variable {bs:List (World×List Nat)} {Ls:List ((Γ->List fT)×(Γ->World->Prop))} {i lo N:Nat} {s:Γ->List (Nat×Value)} {o:Oper} {L L1 L2 L3:Γ->List fT}
theorem A8{p:Prop}(h:p:=by first|exact Rf.sk|exact Rf.mv|exact Rf.EF|exact Rf.fa|exact Rf.ld|exact Rf.Cs|exact Rf.Cu|exact Rf.Cy|exact Rf.r8|exact Rf.rH|exact Rf.cmp|exact Rf.ar|exact Rf.ex|exact Rf.EW|exact Rf.EX|exact Rf.EI|exact Rf.AI|exact Rf.iD|exact Rf.EG|exact Rf.iY|exact Rf.su|exact Rf.Cw|exact Rf.Ct|exact Rf.Cz|exact Rf.not|exact Rf.pT|exact Rf.pF|exact Rf.jx|exact Rf.ixG|exact Rf.fldG|exact Rf.len|exact Rf.nP|exact Rf.eP):p:=h
structure OF (T:TT P) (ops:Array Oper) (Q:Exit->Act->World->Prop) (n:Nat) (ds:List Deferred) (s0:List (Nat×Value)) (l0:List Oper) (pre:List (List Nat)) (mem:List Nat) (V:List (Γ->Value)) (bs:List (World×List Nat)) (Ls:List ((Γ->List fT)×(Γ->World->Prop))) (N i:Nat) (s:Γ->List (Nat×Value)) (l:List Oper) (vs:List (Γ->Value)):Prop where
 out:lD P ops Q n ds s0 l0 pre mem V (js bs Ls) i s l vs
theorem Rf.q{L:List fT}{s:List (Nat×Value)}{v:Value}{w:World}(h:Rf T bs L ops n o s v)(a:St bs L w):mh P ops n o s v (fun w' => St bs L w' /\ True) w:=(h.out w a).congr fun w' h=>⟨h,trivial⟩
theorem OF.r1(hm:mem.contains i=false)(d:uD pre mem i=lo)(c:uy pre mem i=lo)(a:Ls[lo]? = some (L,fun _ _=>True))(hv:∀ g,Rf T bs (L g) ops n o (s g) (v g))
 (K:OF T ops Q n ds s0 l0 pre mem V bs Ls N (i+1) (fun g=>kz o.dst (v g) (s g)) l vs):OF T ops Q n ds s0 l0 pre mem V bs Ls (N+1) i s (o :: l) (v :: vs) :=
 ⟨uK hm d c a (fun g w b _=>(hv g).q b) K.out⟩
theorem OF.r2(hm:mem.contains i=false)(e:uD pre mem i=lo)(d:uy pre mem i=lo+1)(b:Ls[lo]? = some (L,fun _ _=>True))(c:Ls[lo+1]? = some (L1,fun _ _=>True))(hv:∀ g,Rf T bs (L g) ops n o (s g) (v g))(f:∀ g,Rf T bs (L1 g) ops n o (s g) (v g))
 (K:OF T ops Q n ds s0 l0 pre mem V bs Ls N (i+1) (fun g=>kz o.dst (v g) (s g)) l vs):OF T ops Q n ds s0 l0 pre mem V bs Ls (N+1) i s (o :: l) (v :: vs) :=
 ⟨Fm hm e d b c (fun g w a _=>(hv g).q a) (fun g w a _=>(f g).q a) K.out⟩
theorem OF.r3(hm:mem.contains i=false)(f:uD pre mem i=lo)(e:uy pre mem i=lo+2)(b:Ls[lo]? = some (L,fun _ _=>True))(c:Ls[lo+1]? = some (L1,fun _ _=>True))(d:Ls[lo+2]? = some (L2,fun _ _=>True))(hv:∀ g,Rf T bs (L g) ops n o (s g) (v g))(h:∀ g,Rf T bs (L1 g) ops n o (s g) (v g))(j:∀ g,Rf T bs (L2 g) ops n o (s g) (v g))
 (K:OF T ops Q n ds s0 l0 pre mem V bs Ls N (i+1) (fun g=>kz o.dst (v g) (s g)) l vs):OF T ops Q n ds s0 l0 pre mem V bs Ls (N+1) i s (o :: l) (v :: vs) :=
 ⟨abL hm f e b c d (fun g w a _=>(hv g).q a) (fun g w a _=>(h g).q a) (fun g w a _=>(j g).q a) K.out⟩
theorem adA{p q:Prop} (h:p->q:=by
 intro h
 repeat (first|refine OF.r1 rfl rfl rfl rfl (fun _=>A8) ?_|refine OF.r2 rfl rfl rfl rfl rfl (fun _=>A8) (fun _=>A8) ?_|refine OF.r3 rfl rfl rfl rfl rfl rfl (fun _=>A8) (fun _=>A8) (fun _=>A8) ?_)
 exact h):p->q:=h
theorem Fp[T:TT P]{a : Nat}{s' : Γ->List (Nat×Value)}{l' : List Oper}{b : List (Γ->Value)}(N:Nat)(K:lD P ops Q n ds s0 l0 pre mem V (js bs Ls) a s' l' b)
 (h:OF T ops Q n ds s0 l0 pre mem V bs Ls 0 a s' l' b -> OF T ops Q n ds s0 l0 pre mem V bs Ls N i s l vs:=by exact adA):lD P ops Q n ds s0 l0 pre mem V (js bs Ls) i s l vs:=(h ⟨K⟩).out
end
end Go.Sx
namespace Go.Sx
open Go
section
variable {r:Option Nat} {P:Program} {ops:Array Oper} {Q:Exit->Act->World->Prop} {o x y:Oper} {a:Act} {w:World} {K K' : Act->World->Prop} {v u:Value}
def qh(P:Program)(ops:Array Oper)(o:Oper)(a:Act)(w:World):Prop:=wn ops o a=false\/∃ v,(execOp a.eval o).run P w = .ok (.value v) w/\a.put o.dst v=a
theorem acK(a:Act)(d:Option Tmp)(v u:Value):(a.put d v).put d u=a.put d u:=by
 cases d with
 | none=>rfl
 | some d=>simp[Act.put]
theorem acJ{a:Act}{d e:Option Tmp}{v u:Value}(h:∀ i,d=some i->e≠some i)(f:(a.put d v).put e u=a.put d v):a.put e u=a:=by
 cases e with
 | none=>rfl
 | some e =>
  cases d with
  | none=>exact f
  | some d =>
   have l:d≠e:=fun c=>h d rfl (c▸rfl)
   simp only[Act.put]at f ⊢
   have j:=congrArg Act.tmps f
   simp only at j
   have k:a.tmps.setIfInBounds e u=a.tmps:=by
    apply Array.ext
    . simp
    . intro i m g
      rw[Array.getElem_setIfInBounds (by simpa using g)]
      split
      . rename_i c
        subst c
        have b:=congrArg (fun t:Array Value=>t[e]?) j
        simp only[Lx,Array.size_setIfInBounds]at b
        rw[if_pos trivial,if_pos (by simpa using g),if_neg l]at b
        rw[tQ (by simpa using g)]at b
        exact Option.some.inj b
      . rfl
   rw[k]
structure Aw (ops:Array Oper) (x k:Oper):Prop where
 xk:∀ d,x.dst=some d->d∉k.looksAt ops
 ne:∀ d,x.dst=some d->k.dst≠some d
 sk:uH k.op=true
theorem qh.put(h:Aw ops x o):qh P ops o (a.put x.dst v) w↔qh P ops o a w:=by
 have e:wn ops o (a.put x.dst v)=wn ops o a:=by unfold Go.Sx.wn;rw[wanted_put o a x.dst v h.xk]
 have d:execOp (a.put x.dst v).eval o=execOp a.eval o:=execOp_put o (JK h.sk) a x.dst v h.xk
 unfold qh
 rw[e,d]
 constructor
 . rintro(b|⟨u,b,c⟩)
   . exact .inl b
   . exact .inr ⟨u,b,acJ h.ne c⟩
 . rintro(b|⟨u,b,c⟩)
   . exact .inl b
   . exact .inr ⟨u,b,by rw[Act.put_comm a v u h.ne,c]⟩
def Ea(ops:Array Oper)(x k:Oper):Bool:=uH k.op&&match x.dst with
 | none=>true
 | some d => !(k.looksAt ops).contains d && !(k.dst==some d)
theorem Np{x k:Oper}(h:Ea ops x k=true):Aw ops x k:=by
 simp only[Ea,lS]at h
 refine⟨fun d hd=>?_,fun d hd=>?_,h.1⟩<;>rw[hd]at h<;>simp at h
 . exact h.2.1
 . exact h.2.2
def sX(ops:Array Oper)(x k:Nat):Bool:=match ops[x]?,ops[k]? with
 | some x,some k=>Ea ops x k
 | _,_=>true
theorem Nq{i k:Nat}(h:sX ops i k=true)(hi:ops[i]? = some x)(hk:ops[k]? = some o):Aw ops x o:=by
 unfold sX at h;rw[hi,hk]at h;exact Np h
def j6(P:Program)(ops:Array Oper):List Nat->Act->World->Prop
 | [],_,_=>True
 | k :: ks,a,w=>(∀ o,ops[k]? = some o->qh P ops o a w)/\j6 P ops ks a w
theorem uL{b:List Nat}:j6 P ops b a w↔∀ k∈b,∀ o,ops[k]? = some o->qh P ops o a w:=by
 induction b with
 | nil=>simp[j6]
 | cons k b c=>simp[j6,c]
theorem j6.put{e:List Nat}(h:∀ k∈e,∀ o,ops[k]? = some o->Aw ops x o):j6 P ops e (a.put x.dst v) w↔j6 P ops e a w:=by
 rw[uL,uL]
 exact⟨fun d k b o c=>(qh.put (h k b o c)).1 (d k b o c),fun d k b o c=>(qh.put (h k b o c)).2 (d k b o c)⟩
theorem aev{i:Nat}{cs:List Nat}(h:Ap ops x y)(u:cat x.op=1)(hs:∀ d,x.dst=some d->d∉x.looksAt ops)(F:cat y.op=2\/cat y.op=3)(A:cat y.op=2->NP Q)(hi:ops[i]? = some x)(C:i∈cs)
 (D:iB r P ops Q x (iB r P ops Q y (fun a w=>j6 P ops cs a w/\K a w)) a w) :
 iB r P ops Q y (fun a w=>j6 P ops (cs.filter fun k => !(k==i)&&sX ops i k) a w/\iB r P ops Q x K a w) a w:=by
 obtain⟨v,hv,f⟩:=D.get (.inr u)
 have B : ∀ k∈cs.filter (fun k => !(k==i)&&sX ops i k),∀ o,ops[k]? = some o->Aw ops x o:=fun k g o E=>by
  have g:=mV.1 g
  exact Nq (Bool.and_eq_true_iff.1 g.2).2 hi E
 have sub:∀ a' w', j6 P ops cs (a'.put x.dst v) w' -> j6 P ops (cs.filter fun k => !(k==i)&&sX ops i k) a' w' := fun a' w' q => by
  rw[<-j6.put (v:=v) B, uL]
  rw[uL]at q
  exact fun k g=>q k (mV.1 g).1
 have H:∀ a' : Act,wn ops x (a'.put x.dst v)=wn ops x a' := fun a' => by unfold Go.Sx.wn;rw[wanted_put x a' x.dst v hs]
 have G:∀ a' : Act,execOp (a'.put x.dst v).eval x=execOp a'.eval x:=fun a' => execOp_put x (JK h.sx) a' x.dst v hs
 unfold iB at f
 rw[h.wn]at f
 have s:wn ops x a=false->Y0 P ops x v a:=fun e=>by
  rcases hv with hv|hv
  . exact hv
  . rw[hv.1]at e;cases e
 unfold iB
 split<;>rename_i t
 . rw[if_pos t]at f
   refine(h.act A F f).mono fun a' w' ⟨⟨m,j⟩,n⟩=>⟨sub a' w' m,?_⟩
   have c:=(uL.1 m) i C x hi
   show iB r P ops Q x K a' w'
   rcases c with c|⟨v', c,p⟩
   . rw[H]at c
     have z:Y0 P ops x undef a' := .inr ⟨c,rfl⟩
     refine iB.mk (.inl z) ?_
     have b:wn ops x a=false:=n.2▸c
     rcases s b with ⟨l,_⟩|⟨_,rfl⟩
     . rw[l]at b;cases b
     . exact j
   . rw[G]at c
     cases b:wn ops x a' with
     | false =>
      refine iB.mk (v:=undef) (.inl (.inr ⟨b,rfl⟩)) ?_
      rw[n.2]at b
      rcases s b with ⟨l,_⟩|⟨_,rfl⟩
      . rw[l]at b;cases b
      . exact j
     | true =>
      refine iB.mk (v:=v') (.inr ⟨b,u,c⟩) ?_
      rw[acK]at p;rw[p];exact j
 . rw[if_neg t]at f
   refine⟨sub _ _ (by rw[<-h.mu];exact f.1),?_⟩
   refine iB.mk (v:=v) ?_ (by rw[<-h.mu];exact f.2)
   rw[h.symm.y0,h.symm.y1];exact hv
def rJ(r:Option Nat)(P:Program)(ops:Array Oper)(Q:Exit->Act->World->Prop)(b:Nat×List Nat)(K:Act->World->Prop)(a:Act)(w:World):Prop :=
 match ops[b.1]? with
 | none=>K a w
 | some o=>iB r P ops Q o (fun a w=>j6 P ops b.2 a w/\K a w) a w
def ou(r:Option Nat)(P:Program)(ops:Array Oper)(Q:Exit->Act->World->Prop):List (Nat×List Nat)->Act->World->Prop
 | [],a,w=>Q .normal a w
 | it :: l,a,w=>rJ r P ops Q it (ou r P ops Q l) a w
theorem rJ.mono{c:Nat×List Nat}(h:∀ a w,K a w->K' a w)(b:rJ r P ops Q c K a w):rJ r P ops Q c K' a w:=by
 unfold rJ at *
 split<;>rename_i f<;>rw[f]at b
 . exact h _ _ b
 . exact b.mono fun a w ⟨d,e⟩=>⟨d,h _ _ e⟩
structure Cm (ops:Array Oper) (i:Nat) (ci:List Nat) (x:Oper) (c:List Nat) (y:Oper):Prop where
 ap:Ap ops x y
 k:(rz x.op y.op=true/\(Nat.ble (cat x.op) 1=true->ci=[])/\(Nat.ble (cat y.op) 1=true->c=[])/\(∀ k∈ci,∀ o,ops[k]? = some o->Aw ops y o)) \/
  (cat x.op=1/\(cat y.op=2\/cat y.op=3)/\i∈c/\(∀ d,x.dst=some d->d∉x.looksAt ops)/\ci=[])
theorem aeu{i:Nat}{l c:List Nat}(C:Cm ops i l x c y)(hi:ops[i]? = some x)(t:cat x.op=2->NP Q)(q:cat y.op=2->NP Q)
 (s:iB r P ops Q x (fun a w=>j6 P ops l a w/\iB r P ops Q y (fun a w=>j6 P ops c a w/\K a w) a w) a w) :
 iB r P ops Q y (fun a w=>j6 P ops (c.filter fun k => !(k==i)&&sX ops i k) a w/\iB r P ops Q x (fun a w=>j6 P ops l a w/\K a w) a w) a w:=by
 obtain⟨h,j⟩:=C
 rcases j with ⟨d,m,n,B⟩|⟨d,m,n,A,rfl⟩
 . have F:∀ o:Oper,Nat.ble (cat o.op) 1=true->cat o.op=0\/cat o.op=1:=fun o h=>by have:=oO h;omega
   by_cases hx:Nat.ble (cat x.op) 1=true
   . obtain rfl:=m hx
     have g:iB r P ops Q x (iB r P ops Q y (fun a w=>j6 P ops c a w/\K a w)) a w:=s.mono fun a w h=>h.2
     refine(swap h d t q g).mono fun a w b=>?_
     obtain⟨v,hv,f,p⟩:=b.get (F x hx)
     refine⟨?_,iB.mk hv ⟨trivial,p⟩⟩
     rw[<-j6.put (x:=x) (v:=v) (fun k j o D=>Nq (Bool.and_eq_true_iff.1 (mV.1 j).2).2 hi D),uL]
     exact fun k j=>(uL.1 f) k (mV.1 j).1
   . have z:cat y.op=0:=by
      rcases HG x.op with e|e|e|e<;>simp[rz,e]at d hx<;>exact d
     obtain rfl:=n (by rw[z];rfl)
     have g:iB r P ops Q x (iB r P ops Q y (fun a w=>j6 P ops l a w/\K a w)) a w:=s.mono fun a w ⟨b,f⟩=>by
      obtain⟨u,E,_,p⟩:=f.get (.inl z)
      exact iB.mk E ⟨(j6.put B).2 b,p⟩
     exact(swap h d t q g).mono fun a w b=>⟨trivial,b⟩
 . have g:iB r P ops Q x (iB r P ops Q y (fun a w=>j6 P ops c a w/\K a w)) a w:=s.mono fun a w h=>h.2
   exact(aev h d A m q hi n g).mono fun a w ⟨b,f⟩=>⟨b,f.mono fun a w h=>⟨trivial,h⟩⟩
theorem Cm.sub{i:Nat}{g c c' : List Nat}(h:Cm ops i g x c y)(hs:∀ k∈c', k∈c)(hi:cat x.op=1->i∈c->i∈c'):Cm ops i g x c' y:=by
 refine⟨h.ap,?_⟩
 rcases h.k with ⟨a,b,d,f⟩|⟨a,b,d,j,f⟩
 . refine .inl ⟨a,b,fun e=>?_,f⟩
   have:=d e
   subst this
   cases c' with
   | nil=>rfl
   | cons k c' => exact absurd (hs k za) oB
 . exact .inr ⟨a,b,hi a d,j,f⟩
def CB(ops:Array Oper)(L:List (Nat×List Nat))(c:List Nat):List Nat:=c.filter fun k=>L.all fun z => !(k==z.1)&&sX ops z.1 k
theorem aaI{a:Nat×List Nat}{L:List (Nat×List Nat)}{c:List Nat}:CB ops (a :: L) c=(CB ops L c).filter fun k => !(k==a.1)&&sX ops a.1 k:=by
 unfold CB
 rw[List.filter_filter]
 refine yR fun k _=>?_
 rw[List.all_cons]
def Fx(ops:Array Oper)(x z:Nat×List Nat):Prop:=(∀ o,ops[x.1]? = some o->cat o.op=1->sX ops z.1 x.1=true)
theorem acB{j:Nat}{c:List Nat}(s:ops[j]? = some y)(p:(∃ o∈ops.toList,cat o.op=2)->NP Q)(L2:List (Nat×List Nat)):∀ (L1:List (Nat×List Nat)) (a:Act) (w:World),(L1.map (·.1)).Nodup->L1.Pairwise (Fx ops) ->
 (∀ b∈L1,∀ x,ops[b.1]? = some x->Cm ops b.1 b.2 x c y) ->
 ou r P ops Q (L1++(j,c) :: L2) a w->iB r P ops Q y (fun a w=>j6 P ops (CB ops L1 c) a w/\ou r P ops Q (L1++L2) a w) a w:=by
 intro L1
 induction L1 with
 | nil =>
  intro a w _ _ _ h
  simp only[rU]at h ⊢
  unfold ou rJ at h
  simp only[s]at h
  refine h.mono fun a w ⟨f,g⟩=>⟨?_,g⟩
  rw[uL]at f ⊢
  exact fun k d=>f k (mV.1 d).1
 | cons b L1 B =>
  intro a w m n q h
  rw[kf,zt]at m
  rw[tS]at n
  have u : ∀ b∈L1,∀ x,ops[b.1]? = some x->Cm ops b.1 b.2 x c y:=fun k d=>q k (nv _ d)
  simp only[nw]at h ⊢
  unfold ou at h
  have mem:∀ {k:Nat} {o:Oper},ops[k]? = some o->o∈ops.toList:=fun d=>by simpa using Array.mem_of_getElem? d
  have f:=h.mono fun a w h=>B a w m.2 n.2 u h
  rw[aaI]
  unfold rJ at f
  split at f<;>rename_i i
  . refine f.mono fun a w ⟨g,l⟩=>⟨?_,?_⟩
    . rw[uL]at g ⊢
      exact fun k d=>g k (mV.1 d).1
    . unfold ou rJ;simp only[i];exact l
  . rename_i x
    have v:=(q b za x i).sub (c' := CB ops L1 c) (fun k d=>(mV.1 d).1) (fun A hi=>mV.2 ⟨hi,zm.2 fun z t=>by
     rw[n.1 z t x i A,Bool.and_true]
     have:b.1≠z.1:=fun e=>m.1 (z7.2 ⟨z,t,e.symm⟩)
     simpa using this⟩)
    refine(aeu v i (fun e=>p ⟨x,mem i,e⟩) (fun e=>p ⟨y,mem s,e⟩) f).mono fun a w ⟨g,l⟩=>⟨g,?_⟩
    unfold ou rJ;simp only[i];exact l
end
def Hz(ops:Array Oper)(x y:Oper):Bool:=uH x.op&&uH y.op&&lZ x.op&&lZ y.op&&x.apart ops y
theorem Us{ops:Array Oper}{x y:Oper}(h:Hz ops x y=true):Ap ops x y:=by
 simp only[Hz,lS]at h
 obtain⟨⟨⟨⟨d,e⟩,f⟩,g⟩,i⟩:=h
 obtain⟨a,b,c⟩:=Oper.apart_spec i
 exact⟨a,b,c,d,e,f,g⟩
def No(ops:Array Oper)(x:Oper)(c:List Nat):Bool:=c.all fun k=>match ops[k]? with|some o=>Ea ops x o|none=>true
theorem Uv{ops:Array Oper}{x:Oper}{c:List Nat}(h:No ops x c=true):∀ k∈c,∀ o,ops[k]? = some o->Aw ops x o:=fun k a o b=>by
 have:=zm.1 h k a
 rw[b]at this
 exact Np this
def Kv(ops:Array Oper)(x:Oper):Bool:=match x.dst with|some d => !(x.looksAt ops).contains d|none=>true
theorem adQ{ops:Array Oper}{x:Oper}(h:Kv ops x=true):∀ d,x.dst=some d->d∉x.looksAt ops:=fun d hd=>by
 unfold Kv at h;rw[hd]at h;simpa using h
def HS(ops:Array Oper)(i:Nat)(a:List Nat)(x:Oper)(c:List Nat)(y:Oper):Bool:=Hz ops x y&&bif rz x.op y.op then(!Nat.ble (cat x.op) 1||a.isEmpty)&&(!Nat.ble (cat y.op) 1||c.isEmpty)&&No ops y a
 else Nat.beq (cat x.op) 1 && !Nat.ble (cat y.op) 1&&c.contains i&&Kv ops x&&a.isEmpty
theorem Vh{ops:Array Oper}{i:Nat}{f c:List Nat}{x y:Oper}(h:HS ops i f x c y=true):Cm ops i f x c y:=by
 simp only[HS,lS]at h
 obtain⟨g,h⟩:=h
 refine⟨Us g,?_⟩
 cases hk:rz x.op y.op with
 | true =>
  rw[hk]at h
  simp only[cond_true,lS,zB,Gv,List.isEmpty_iff]at h
  obtain⟨⟨a,b⟩,d⟩:=h
  refine .inl ⟨rfl,fun e=>?_,fun e=>?_,Uv d⟩
  . rcases a with a|a
    . rw[e]at a;cases a
    . exact a
  . rcases b with a|a
    . rw[e]at a;cases a
    . exact a
 | false =>
  rw[hk]at h
  simp only[cond_false,lS,Gv,List.isEmpty_iff]at h
  obtain⟨⟨⟨⟨a,b⟩,j⟩,d⟩,k⟩:=h
  refine .inr ⟨BA a,?_,by simpa using j,adQ d,k⟩
  rcases HG y.op with e|e|e|e
  . rw[e]at b;cases b
  . rw[e]at b;cases b
  . exact .inl e
  . exact .inr e
def Fw(ops:Array Oper):List (Nat×List Nat)->Bool
 | []=>true
 | x :: l=>(match ops[x.1]? with
  | some o => !Nat.beq (cat o.op) 1||l.all fun z=>sX ops z.1 x.1
  | none=>true)&&Fw ops l
theorem RN{ops:Array Oper}:∀ (l:List (Nat×List Nat)),Fw ops l=true->l.Pairwise (Fx ops)
 | [],_=>List.Pairwise.nil
 | x :: l,h=>by
  simp only[Fw,lS]at h
  refine tS.2 ⟨fun z d o c b=>?_,RN l h.2⟩
  have a:=h.1
  rw[c]at a
  simp only[b,zB]at a
  rcases a with a|a
  . cases a
  . exact zm.1 a z d
def EV(ops:Array Oper)(pre:List (List Nat)):List (Nat×List Nat)->List (Nat×List Nat)->Bool
 | _,[]=>true
 | before,it :: l=>(match ops[it.1]? with
  | none=>true
  | some y=>before.all fun a=>(pre.getD it.1 []).contains a.1||match ops[a.1]? with
   | none=>true
   | some x=>HS ops a.1 a.2 x it.2 y)&&EV ops pre (before++[it]) l
theorem PZ{ops:Array Oper}{pre:List (List Nat)}:∀ (l before:List (Nat×List Nat)),EV ops pre before l=true->∀ L1 b L2,l=L1++b :: L2->∀ a∈before++L1,∀ x y,ops[a.1]? = some x->ops[b.1]? = some y ->
 (pre.getD b.1 []).contains a.1=true\/Cm ops a.1 a.2 x b.2 y
 | [],before,_,L1,b,L2,e,a,hxi,x,y,hx,hy=>by simp at e
 | z :: l,before,h,L1,b,L2,e,a,hxi,x,y,hx,hy=>by
  simp only[EV,lS]at h
  cases L1 with
  | nil =>
   simp only[rU,List.cons.injEq]at e
   obtain⟨rfl,rfl⟩:=e
   have d:=h.1
   rw[hy]at d
   have f:=zm.1 d a (by simpa using hxi)
   rw[hx]at f
   rcases uX.1 f with c|c
   . exact .inl c
   . exact .inr (Vh c)
  | cons g L1 =>
   simp only[nw,List.cons.injEq]at e
   obtain⟨rfl,rfl⟩:=e
   exact PZ _ (before++[z]) h.2 L1 b L2 rfl a (by simpa using hxi) x y hx hy
theorem SD{α:Type}{x y:α}:∀ (l:List α),List.Sublist [x,y] l->∃ A B,l=A++y :: B/\x∈A
 | [],h=>by cases h
 | z :: l,h=>by
  cases h with
  | cons _ h =>
   obtain⟨A,B,rfl,a⟩:=SD l h
   exact⟨z :: A,B,rfl,nv _ a⟩
  | cons_cons _ h =>
   obtain⟨A,B,rfl⟩:=Dq (LC.1 h)
   exact⟨x :: A,B,rfl,za⟩
def okF(l:List Oper)(fP:List (Nat×List Nat)):Bool :=
 let p:=Fv l []
 CQ l p&&(l.zipIdx.all fun q=>q.1.after.toList.all fun e => !Region.binds .any e||decide (e.on<q.2))&&EV l.toArray p [] fP&&decide ((fP.map (·.1)).Nodup)&&((List.range l.length).all fun i=>(fP.map (·.1)).contains i)&&Nat.ble fP.length l.length&&Fw l.toArray fP
section
variable {r:Option Nat} {P:Program} {Q:Exit->Act->World->Prop} {l:List Oper} {a:Act} {w:World}
theorem ac9{id:Nat}(fP:List (Nat×List Nat))(hm:P.follows .mixedOrders=true)(S:okF l fP=true)(y:xx l=false\/NP Q)(h:ou r P l.toArray Q fP a w.drew):WP r P (.region id l.toArray true) Q a w:=by
 simp only[okF,lS]at S
 obtain⟨⟨⟨⟨⟨⟨an,ab⟩,am⟩,G⟩,E⟩,ac⟩,ap⟩:=S
 have G:=of_decide_eq_true G
 have aa : (∃ o∈l.toArray.toList,cat o.op=2)->NP Q:=fun⟨o,u,p⟩=>by
  rcases y with y|y
  . have f:xx l=true:=Du.2 ⟨o,by simpa using u,by show Nat.beq (cat o.op) 2=true;rw[p];rfl⟩
    rw[y]at f;cases f
  . exact y
 have X:∀ (j:Nat) (o:Oper),l[j]? = some o->∀ e∈o.after,Region.binds .any e=true->e.on<j:=by
  intro j o v e t hb
  have f:=zm.1 ab (o,j) (by rw[List.mem_zipIdx_iff_getElem?];exact v)
  have k:=zm.1 f e (by simpa using t)
  simpa[hb]using k
 refine wpIn_region_any hm ?_
 have au:l.toArray.size=l.length:=by simp
 let g:Array Bool->Nat->Bool:=fun b i=>b.getD i false
 let rem:Array Bool->List (Nat×List Nat):=fun b=>fP.filter fun d => !g b d.1
 have aq:∀ (fuel:Nat) (b:Array Bool) (a:Act) (w:World),b.size=l.length->(rem b).length<=fuel->Down l (g b)->ou r P l.toArray Q (rem b) a w ->
  wpAnyIn (FW r) 0 P .any l.toArray Q fuel b a w:=by
  intro fuel
  have has:∀ (b:Array Bool),b.size=l.length->∀ i,i∈Region.ready .any l.toArray b->∃ c,(i,c)∈rem b:=by
   intro b hs i hi
   obtain⟨f,o,u,_⟩:=mem_ready.1 hi
   have F:i<l.length:=by simpa using(z6.1 u).1
   have k:=zm.1 E i (zz.2 F)
   obtain⟨d,m,Z⟩:=z7.1 (show i∈fP.map (·.1) by simpa using k)
   refine⟨d.2,?_⟩
   subst Z
   refine mV.2 ⟨m,?_⟩
   have af : d.1<b.size:=by omega
   show (!g b d.1)=true
   simp only[g]
   simp[af]at f ⊢
   exact f
  have ar:∀ (b:Array Bool),b.size=l.length->Region.ready .any l.toArray b=[]->∀ i,i<l.length->g b i=true:=by
   intro b hs s i
   induction i using Nat.strongRecOn with
   | _ i C =>
    intro hi
    cases p:g b i with
    | true=>rfl
    | false =>
     exfalso
     have:i∈Region.ready .any l.toArray b:=by
      rw[mem_ready]
      refine⟨?_,l[i],by simp[hi],fun e t hb=>?_⟩
      . have:i<b.size:=by omega
        simp only[g]at p
        simp[this]at p ⊢
        exact p
      . have k:=X i l[i] (zk hi) e t hb
        exact C e.on k o_
     rw[s]at this
     cases this
  have Y:∀ (L:List (Nat×List Nat)) (a:Act) (w:World),(∀ d∈L,l.length<=d.1)->ou r P l.toArray Q L a w->Q .normal a w:=by
   intro L
   induction L with
   | nil=>intro a w _ h;exact h
   | cons d L C =>
    intro a w q h
    unfold ou rJ at h
    have:l.toArray[d.1]? = none:=by
     have:=q d za
     simpa using this
    simp only[this]at h
    exact C a w (fun z hz=>q z (nv _ hz)) h
  have J:∀ (b:Array Bool) (a:Act) (w:World),b.size=l.length->Region.ready .any l.toArray b=[]->ou r P l.toArray Q (rem b) a w->Q .normal a w:=by
   intro b a w hs s h
   refine Y _ a w (fun d n=>?_) h
   have f:=mV.1 n
   rcases wS d.1 l.length with k|k
   . have m:=ar b hs s d.1 k
     rw[show (!g b d.1)=false by rw[m];rfl]at f
     exact absurd f.2 d_
   . exact k
  induction fuel with
  | zero =>
   intro b a w hs p hd h
   have t:rem b=[]:=tP o_
   have s:Region.ready .any l.toArray b=[]:=by
    cases s:Region.ready .any l.toArray b with
    | nil=>rfl
    | cons i rs =>
     exfalso
     obtain⟨c,p⟩:=has b hs i (by rw[s];simp)
     rw[t]at p
     cases p
   exact⟨s,J b a w hs s h⟩
  | succ fuel C =>
   intro b a w hs p hd h
   refine⟨fun s=>J b a w hs s h,fun i hi=>?_⟩
   obtain⟨c,al⟩:=has b hs i hi
   obtain⟨av,o,u,ae⟩:=mem_ready.1 hi
   have R : l[i]? = some o:=by simpa using u
   have F:i<l.length:=(ze.1 R).1
   have ah : i<b.size:=by omega
   have D : ∀ j,g (b.setIfInBounds i true) j=(g b j||j==i):=fun j=>EN b i j ah
   have M : Down l (g (b.setIfInBounds i true)):=⟨fun j W v K e t hb=>by
    rw[D]at K ⊢
    rcases uX.1 K with h|h
    . rw[show g b e.on=true from hd.closed j W v h e t hb];rfl
    . have:j=i:=by simpa using h
      subst this
      have:W=o:=Option.some.inj (v.symm.trans R)
      subst this
      rw[show g b e.on=true from ae e t hb];rfl⟩
   obtain⟨L1,L2,q⟩:=Dq al
   have I:((rem b).map (·.1)).Nodup:=(wP.map _).nodup G
   rw[q]at I
   simp only[sK,kf]at I
   have H:=zr.1 I
   have N:∀ d∈L1,d.1≠i:=fun d n e=>H.2.2 d.1 (z7.2 ⟨d,n,rfl⟩) i za e
   have ag:∀ d∈L2,d.1≠i:=fun d n e=>by
    have:=(zt.1 H.2.1).1
    exact this (z7.2 ⟨d,n,e⟩)
   have T:rem (b.setIfInBounds i true)=L1++L2:=by
    have e1:rem (b.setIfInBounds i true)=(rem b).filter fun d => !(d.1==i):=by
     simp only[rem,List.filter_filter]
     refine yR fun d _=>?_
     rw[D]
     cases g b d.1<;>cases (d.1==i)<;>rfl
    rw[e1,q,wQ,oQ]
    simp only[BEq.rfl,Dx,Bool.false_eq_true,if_false]
    rw[uY.2 (fun d n=>by have:=N d n;simpa using this),uY.2 (fun d n=>by have:=ag d n;simpa using this)]
   have ad:∀ d∈L1,∀ x,l.toArray[d.1]? = some x->Cm l.toArray d.1 d.2 x c o:=by
    intro d n x hx
    have ai:d∈rem b:=by rw[q];simp[n]
    have aj := mV.1 ai
    -- fP place in the whole list
    have U:List.Sublist (rem b) fP:=wP
    rw[q]at U
    obtain⟨A,B,O⟩:∃ A B,fP=A++(i,c) :: B/\d∈A:=by
     have f:List.Sublist [d,(i,c)] fP:=List.Sublist.trans (by
      have k:List.Sublist [d] L1:=LC.2 n
      have m:List.Sublist [(i,c)] ((i,c) :: L2):=LC.2 za
      exact List.Sublist.append k m) U
     exact SD fP f
    rcases PZ fP [] am A (i,c) B O.1 d (by simpa using O.2) x o hx u with f|f
    . exfalso
      have:=AV an M i (by rw[D];simp) F d.1 f
      rw[D]at this
      have k:g b d.1=false:=by simpa using aj.2
      have m:(d.1==i)=false:=by have:=N d n;simpa using this
      rw[k,m]at this
      cases this
    . exact f
   rw[q]at h
   have ao:L1.Pairwise (Fx l.toArray):=by
    have f:(rem b).Pairwise (Fx l.toArray):=(RN fP ap).sublist wP
    rw[q]at f
    exact(LM.1 f).1
   have k:=acB (j:=i) u aa L2 L1 a w H.1 ao ad h
   have ak:(rem (b.setIfInBounds i true)).length<=fuel:=by
    rw[T];rw[q]at p;simp at p ⊢;omega
   have m:iB r P l.toArray Q o (wpAnyIn (FW r) 0 P .any l.toArray Q fuel (b.setIfInBounds i true)) a w :=
    k.mono fun a' w' h=>C (b.setIfInBounds i true) a' w' (by simpa using hs) ak M (by rw[T];exact h.2)
   unfold wpOpIn
   rw[u]
   unfold iB at m
   show if Region.wanted o (yielded l.toArray a.tmps)=true then _ else _
   split<;>rename_i V
   . rw[if_pos (show wn l.toArray o a=true from V)]at m
     exact⟨fun _ _=>trivial,m.upon⟩
   . rw[if_neg (show ¬ wn l.toArray o a=true from V)]at m
     exact⟨fun _ _=>trivial,m⟩
 have E:rem (Array.replicate l.toArray.size false)=fP:=by
  simp only[rem,uY]
  intro d _
  show (!g (Array.replicate l.toArray.size false) d.1)=true
  simp only[g,s8]
  rfl
 refine aq _ _ a _ s_ (by rw[E];simpa using oO ac) ⟨fun j o _ v=>?_⟩ (by rw[E];exact h)
 simp only[g,s8]at v
 cases v
def uI:List Oper->Nat->Option Oper
 | [],_=>none
 | o :: _,0=>some o
 | _ :: l,n+1=>uI l n
theorem JN:∀ (l:List Oper) (n:Nat),uI l n=l[n]?
 | [],n=>by simp[uI]
 | o :: l,0=>rfl
 | o :: l,n+1=>by simpa[uI]using JN l n
def pick(l:List Oper):List Nat->List Oper
 | []=>[]
 | i :: is=>match uI l i with
  | some o=>o :: pick l is
  | none=>pick l is
def Bd(c:List Nat):List Nat->List (Nat×List Nat)
 | []=>[]
 | [i]=>[(i,c)]
 | i :: is=>(i,[]) :: Bd c is
def CY(last:List Nat):List (List Nat×List Nat)->List (Nat×List Nat)
 | []=>Bd [] last
 | (is,c) :: rest=>Bd c is++CY last rest
def WS(r:Option Nat)(P:Program)(l:List Oper)(Q:Exit->Act->World->Prop)(last:List Nat):List (List Nat×List Nat)->Act->World->Prop
 | [],a,w=>WL r P l.toArray Q (pick l last) a w
 | (is,c) :: rest,a,w=>WL r P l.toArray (Exit.then (fun a w=>j6 P l.toArray c a w/\WS r P l Q last rest a w) Q) (pick l is) a w
theorem SC{ops:Array Oper}{o:Oper}{K M:Act->World->Prop}(h:kD r P (Exit.then M Q) o K a w):kD r P Q o K a w:=by
 unfold kD at h ⊢
 split<;>rename_i f<;>simp only[f]at h
 . exact h
 . exact h
 . exact h
 . revert h
   generalize (o.semAt r a.eval).run P w=res
   intro b
   have d:LetsOut (Exit.then M Q)->LetsOut Q:=fun⟨a,w,h⟩=>⟨a,w,h⟩
   cases res with
   | ok nx w' =>
    cases nx<;>simp only[Oper.uponIn]at b ⊢ <;> first
     | exact b
     | exact⟨b.1,CallsIn.mono b.2 (fun e g c=>by cases e<;>first|exact c|exact d c)⟩
     | exact⟨b.1,RoundIn.mono b.2 (fun e g c=>by cases e<;>first|exact c|exact d c)⟩
   | halt x w' => cases x<;>simp only[Oper.uponIn]at b ⊢ <;> exact b
theorem Sf{M:Act->World->Prop}{c:List Nat}{rest:List (Nat×List Nat)}(d:∀ a w,M a w->ou r P l.toArray Q rest a w):∀ (is:List Nat) (a:Act) (w:World),wl r P l.toArray (Exit.then (fun a w=>j6 P l.toArray c a w/\M a w) Q) (pick l is) a w->ou r P l.toArray Q (Bd c is++rest) a w:=by
 intro is
 induction is with
 | nil=>intro a w h;exact d a w h.2
 | cons i is f =>
  intro a w h
  have e:l.toArray[i]? = uI l i:=by rw[JN];simp
  cases is with
  | nil =>
   simp only[Bd,nw,rU]
   unfold ou rJ
   simp only[e]
   unfold pick at h
   cases ho:uI l i with
   | none=>rw[ho]at h;exact d a w h.2
   | some o =>
    simp only[ho]at h
    rw[F6]at h
    show iB r P l.toArray Q o _ a w
    unfold iB at h ⊢
    split<;>rename_i b
    . rw[if_pos b]at h
      exact(SC (ops:=l.toArray) h).mono fun a w h=>⟨h.1,d a w h.2⟩
    . rw[if_neg b]at h
      exact⟨h.1,d _ w h.2⟩
  | cons g is =>
   simp only[Bd,nw]
   unfold ou rJ
   simp only[e]
   unfold pick at h
   cases ho:uI l i with
   | none=>rw[ho]at h;exact f a w h
   | some o =>
    simp only[ho]at h
    rw[F6]at h
    show iB r P l.toArray Q o _ a w
    unfold iB at h ⊢
    split<;>rename_i b
    . rw[if_pos b]at h
      exact(SC (ops:=l.toArray) h).mono fun a w h=>⟨trivial,f a w h⟩
    . rw[if_neg b]at h
      exact⟨trivial,f _ w h⟩
theorem SH{r:Option Nat}{ops:Array Oper}:∀ (l:List Oper) (a:Act) (w:World),wl r P ops Q l a w->wl r P ops (Exit.then (fun a w=>j6 P ops [] a w/\Q .normal a w) Q) l a w
 | [],a,w,h=>⟨trivial,h⟩
 | o :: l,a,w,h=>by
  rw[F6]at h ⊢
  have h:=h.mono (SH l)
  unfold iB at h ⊢
  split<;>rename_i f
  . rw[if_pos f]at h
    unfold kD at h ⊢
    split<;>rename_i g<;>simp only[g]at h
    . exact h
    . exact h
    . exact h
    . revert h
      generalize (o.semAt r a.eval).run P w=res
      intro b
      have d:LetsOut Q->LetsOut (Exit.then (fun a w=>j6 P ops [] a w/\Q .normal a w) Q):=fun⟨a,w,h⟩=>⟨a,w,h⟩
      cases res with
      | ok nx w' =>
       cases nx<;>simp only[Oper.uponIn]at b ⊢ <;> first
        | exact b
        | exact⟨b.1,CallsIn.mono b.2 (fun e i c=>by cases e<;>first|exact c|exact d c)⟩
        | exact⟨b.1,RoundIn.mono b.2 (fun e i c=>by cases e<;>first|exact c|exact d c)⟩
      | halt x w' => cases x<;>simp only[Oper.uponIn]at b ⊢ <;> exact b
  . rw[if_neg f]at h
    exact h
theorem LU(last:List Nat):∀ (b:List (List Nat×List Nat)) (a:Act) (w:World),WS r P l Q last b a w->ou r P l.toArray Q (CY last b) a w
 | [],a,w,h=>by
  have:=Sf (r:=r) (P:=P) (Q:=Q) (l:=l) (M:=fun a w=>Q .normal a w) (c:=[]) (rest:=[]) (fun a w h=>h) last a w (SH _ _ _ h.out)
  simpa[CY]using this
 | (is,c) :: rest,a,w,h=>Sf (LU last rest) is a w h.out
theorem kV{id n:Nat}{s:List (Nat×Value)}{ds:List Deferred}{bs:List (World×List Nat)}{L:List fT}(hm:P.follows .mixedOrders=true)(a:List (List Nat×List Nat))(last:List Nat)(d:St bs L w)(K:∀ w', St bs L w' -> WS r P l Q last a (Fr n s ds) w')(c:okF l (CY last a)=true:=by kernel_rfl)(b:xx l=false\/NP Q:=by first|exact .inr inferInstance|exact .inl (by kernel_rfl)) :
 WP r P (.region id l.toArray true) Q (Fr n s ds) w:=ac9 (CY last a) hm c b (LU last a _ _ (K _ (d.grow (gw.drew [] w))))
variable {n:Nat} {s:List (Nat×Value)} {ds:List Deferred} {is c last:List Nat} {rest:List (List Nat×List Nat)}
theorem jM{l' : List Oper}(h:WL r P l.toArray (Exit.then (fun a w=>j6 P l.toArray c a w/\WS r P l Q last rest a w) Q) l' (Fr n s ds) w)(b:pick l is=l' := by rfl):WS r P l Q last ((is,c) :: rest) (Fr n s ds) w:=by subst b;exact h
theorem kW{l' : List Oper}(h:WL r P l.toArray Q l' (Fr n s ds) w)(a:pick l last=l' := by rfl):WS r P l Q last [] (Fr n s ds) w:=by subst a;exact h
theorem uR{M:Act->World->Prop}{ops:Array Oper}(b:j6 P ops c (Fr n s ds) w)(h:M (Fr n s ds) w):Exit.then (fun a w=>j6 P ops c a w/\M a w) Q .normal (Fr n s ds) w:=⟨b,h⟩
theorem qQ{ops:Array Oper}{o:Oper}{d:Nat}{v:Value}(h:(execOp (ev n s) o).run P w = .ok (.value v) w)(hd:o.dst=some d)(hv:look s d=v):qh P ops o (Fr n s ds) w:=by
 refine .inr ⟨v,by rw[oV, h],?_⟩
 rw[hd,zG]
 refine u6 ds fun t=>?_
 rw[CD]
 split
 . rename_i e;subst e;exact hv.symm
 . rfl
theorem lH{ops:Array Oper}{k:Nat}{b:List Nat}{o:Oper}(hk:uI ops.toList k=some o)(h:qh P ops o (Fr n s ds) w)(hs:j6 P ops b (Fr n s ds) w):j6 P ops (k :: b) (Fr n s ds) w :=
 ⟨fun c a=>by rw[JN]at hk;simp at hk;rw[hk]at a;cases a;exact h,hs⟩
end
end Go.Sx
namespace Go.Sx
open Go
section
variable {P:Program} {T:TT P} {bs:List (World×List Nat)} {L:List fT} {ops:Array Oper} {n d:Nat} {s:List (Nat×Value)} {ds:List Deferred} {w w0:World} {t ty:TypeId} {pos:String} {af:Array Edge} {g:Option (Nat×Bool)} {x:Operand} {v:Value}
theorem Rk.AI{α:Type}{cf:α->List Value}{xs:List α}{e' : TypeId}{q k sz off:Nat}{ud:TypeDesc}{u:Value}(h:St bs L w:=by assumption)(f:ev n s x=jP sz u k off:=by exact rfl)(a:iX T.u t=some ud:=by exact rfl)(e:j4 ud=false:=by exact rfl)(hi:L[q]? = some (fL cf u e' sz xs):=by first|exact qB|exact qC|exact ni|exact nj|exact qD|exact qE|exact qF|exact qG)(i:Inhabited α:=by infer_instance)(c:∀ x:α,(cf x).length=sz:=by exact fun _=>rfl)(hk:k<xs.length:=by first|omega|(simp only[gC];omega))(hv:(cf (fJ xs k))[off]? = some v:=by exact rfl)(b:look s d=v:=by exact rfl):qh P ops ⟨some d,.load t x,ty,pos,af,g⟩ (Fr n s ds) w:=qQ (uB f (kK T.kO a) e (St.xZ h hi c) (gB hk) hv) rfl b
theorem Rk.ld{b o i:Nat}{a:TypeId}{cs:List Value}{ud:TypeDesc}(h:St bs L w:=by assumption)(j:ev n s x = .pointer (some ⟨b,o,none⟩):=by exact rfl)(c:iX T.u t=some ud:=by exact rfl)(f:j4 ud=false:=by exact rfl)(hi:L[i]? = some (blk b a cs):=by first|exact qB|exact qC|exact ni|exact nj|exact qD|exact qE|exact qF|exact qG)(hv:cs[o]? = some v:=by exact rfl)(e:look s d=v:=by exact rfl):qh P ops ⟨some d,.load t x,ty,pos,af,g⟩ (Fr n s ds) w:=qQ (kU j (kK T.kO c) f (h.ru hi hv)) rfl e
theorem Rk.iY{α:Type}{cf:α->List Value}{xs:List α}{ok:Nat->Prop}{c:α}{k sz off:Nat}{ud:TypeDesc}{u:Value}(h:St bs L w:=by assumption)(f:ev n s x=jP sz u k off:=by exact rfl)(a:iX T.u t=some ud:=by exact rfl)(e:j4 ud=false:=by exact rfl)(hi:gU sz cf ok w0 u xs:=by assumption)(hb:(w0,[])∈bs:=by simp)(i:0<sz:=by decide)(hk:xs[k]? = some c:=by first|assumption|exact rfl|exact gB (by first|omega|(simp only[gC];omega)))(hv:(cf c)[off]? = some v:=by exact rfl)(b:look s d=v:=by exact rfl):qh P ops ⟨some d,.load t x,ty,pos,af,g⟩ (Fr n s ds) w:=qQ (uB f (kK T.kO a) e (St.CU h hb i hi) hk hv) rfl b
theorem Rk.su{b o i sz by_:Nat}{l:Value}{a:TypeId}{cs vs:List Value}{ud:TypeDesc}(h:St bs L w:=by assumption)(k:ev n s x = .pointer (some ⟨b,o,none⟩):=by exact rfl)(c:iX T.u t=some ud:=by exact rfl)(f:j4 ud=true:=by exact rfl)(j:iX T.i t=some (sz,by_,l):=by exact rfl)(hi:L[i]? = some (blk b a cs):=by first|exact qB|exact qC|exact ni|exact nj|exact qD|exact qE|exact qF|exact qG)(hv:sub' cs o sz=some vs:=by exact rfl)(e:look s d = .agg vs.toArray:=by exact rfl):qh P ops ⟨some d,.load t x,ty,pos,af,g⟩ (Fr n s ds) w:=qQ (tj k (kK T.kO c) f (mz T.mO j) (wv hv) (h.HD hi (yC hv))) rfl e
theorem pJ{p:Prop}(h:p:=by first|exact Rk.AI|exact Rk.ld|exact Rk.Cs|exact Rk.Cu|exact Rk.Cy|exact Rk.iY|exact Rk.su|exact Rk.Cw|exact Rk.Ct|exact Rk.Cz|exact Rk.E1|exact Rk.E0):p:=h
theorem kL{Q:Exit->Act->World->Prop}{M:Act->World->Prop}{c:List Nat}(h:M (Fr n s ds) w)(b:j6 P ops c (Fr n s ds) w:=by repeat (first|exact trivial|refine lH rfl pJ ?_)):Exit.then (fun a w=>j6 P ops c a w/\M a w) Q .normal (Fr n s ds) w:=⟨b,h⟩
end
end Go.Sx
namespace Go.Sx
open Go
section
variable {r:Option Nat} {P:Program} {ops:Array Oper} {Q:Exit->Act->World->Prop} {rest:List Oper} {n:Nat} {s:List (Nat×Value)} {ds:List Deferred} {w w' : World}
variable {bs:List (World×List Nat)} {L L' : List fT} {t ty:TypeId} {pos:String} {af:Array Edge} {g:Option (Nat×Bool)} {x y:Operand} {u v z:Value} {vs cs:List Value} {d sz szt by_:Nat}
theorem B7{p:Prop}(h:p:=by first|exact NA|exact Nz|exact NB|exact NC|exact Ny|exact cNilF|exact cMap|exact rfl):p:=h
theorem iK[T:TT P]{α:Type}[Inhabited α]{cf:α->List Value}{ys:List α}{e:TypeId}{k off:Nat}(f:α->α)(i:Nat)(j:St bs L w)(K:∀ w', St bs L' w' -> WL r P ops Q rest (Fr n s ds) w')
 (o:ev n s x=jP sz v k off:=by exact rfl) (p:ev n s y=u:=by first|((conv=>lhs;whnf);done)|exact rfl) (hvs:u.cells.toList=vs:=by exact B7) (m:iX T.i t=some (szt,by_,z):=by exact rfl) (l:vs.length=szt:=by exact rfl) (h1:vs.all (·.oneCell')=true:=by exact rfl)
 (hi:L[i]? = some (fL cf v e sz ys):=by exact rfl) (d:∀ x:α,(cf x).length=sz:=by exact fun _=>rfl) (hk:k<ys.length:=by first|omega|(simp only[gC];omega)) (h:Nat.ble (off+vs.length) sz=true:=by exact rfl)
 (b:cf (f (fJ ys k))=setAt (cf (fJ ys k)) off vs:=by exact rfl) (a:L.set i (fL cf v e sz (fN ys k f))=L' := by first|(dsimp only[List.set];exact rfl)|exact rfl) (c:gA ops n s g=true:=by exact rfl) :
 WL r P ops Q (⟨none,.store t x y,ty,pos,af,g⟩ :: rest) (Fr n s ds) w:=aeq i c o p hvs (mz T.mO m) l h1 j hi d hk h b a K
theorem jU[T:TT P]{α:Type}[Inhabited α]{cf:α->List Value}{ys:List α}{a:TypeId}{b k off:Nat}(f:α->α)(i:Nat)(l:St bs L w)(K:∀ w', St bs L' w' -> gw [b] w w' -> WL r P ops Q rest (Fr n s ds) w')
 (p:ev n s x = .pointer (some ⟨b,k*sz+off,none⟩):=by exact rfl) (q:ev n s y=u:=by first|((conv=>lhs;whnf);done)|exact rfl) (hvs:u.cells.toList=vs:=by exact B7) (o:iX T.i t=some (szt,by_,z):=by exact rfl) (m:vs.length=szt:=by exact rfl) (h1:vs.all (·.oneCell')=true:=by exact rfl)
 (hi:L[i]? = some (blk b a (ys.flatMap cf)):=by exact rfl) (c:∀ x:α,(cf x).length=sz:=by exact fun _=>rfl) (hk:k<ys.length:=by first|omega|(simp only[gC];omega)) (d:Nat.ble (off+vs.length) sz=true:=by exact rfl)
 (h:cf (f (fJ ys k))=setAt (cf (fJ ys k)) off vs:=by exact rfl) (e:L.set i (blk b a ((fN ys k f).flatMap cf))=L' := by first|(dsimp only[List.set];exact rfl)|exact rfl) (j:gA ops n s g=true:=by exact rfl) :
 WL r P ops Q (⟨none,.store t x y,ty,pos,af,g⟩ :: rest) (Fr n s ds) w:=FK i j p q hvs (mz T.mO o) m h1 l hi (J7 c hk (oO d)) (Fy c hk h (oO d)) e K
theorem jV[T:TT P]{cs' : List Value}{a:TypeId}{b o:Nat}(i:Nat)(f:St bs L w)(K:∀ w', St bs L' w' -> WL r P ops Q rest (Fr n s ds) w')
 (k:ev n s x = .pointer (some ⟨b,o,none⟩):=by exact rfl) (l:ev n s y=u:=by first|((conv=>lhs;whnf);done)|exact rfl) (hvs:u.cells.toList=vs:=by exact B7) (j:iX T.i t=some (szt,by_,z):=by exact rfl) (h:vs.length=szt:=by exact rfl) (h1:vs.all (·.oneCell')=true:=by exact rfl)
 (hi:L[i]? = some (blk b a cs):=by exact rfl) (d:Nat.ble (o+vs.length) cs.length=true:=by exact rfl) (hcs:setAt cs o vs=cs' := by dsimp only[setAt,List.take,List.drop,List.length,List.append,HAppend.hAppend,Append.append]<;>exact rfl)
 (c:L.set i (blk b a cs')=L' := by first|(dsimp only[List.set];exact rfl)|exact rfl) (e:gA ops n s g=true:=by exact rfl) :
 WL r P ops Q (⟨none,.store t x y,ty,pos,af,g⟩ :: rest) (Fr n s ds) w:=FJ i e k l hvs (mz T.mO j) h h1 f hi d hcs c K
theorem gW(c:St bs L w)(K:∀ b w', w.heap.size<=b->gw [] w w' -> St bs (blk b t cs :: L) w' -> WL r P ops Q rest (Fr n ((d,.pointer (some ⟨b,0,none⟩)) :: s) ds) w')
 (e:ev n s x=v:=by first|((conv=>lhs;whnf);done)|exact rfl) (hcs:v.cells.toList=cs:=by exact B7) (a:gA ops n s g=true:=by exact rfl):WL r P ops Q (⟨some d,.box t x,ty,pos,af,g⟩ :: rest) (Fr n s ds) w:=bx a e hcs c K
theorem iM[T:TT P](c:St bs L w)(K:∀ b w', w.heap.size<=b->gw [] w w' -> St bs (blk b t cs :: L) w' -> WL r P ops Q rest (Fr n ((d,.pointer (some ⟨b,0,none⟩)) :: s) ds) w')
 (e:iX T.i t=some (sz,by_,z):=by exact rfl) (hcs:z.cells.toList=cs:=by exact B7) (a:gA ops n s g=true:=by exact rfl):WL r P ops Q (⟨some d,.alloc t,ty,pos,af,g⟩ :: rest) (Fr n s ds) w:=al a (mz T.mO e) hcs c K
end
end Go.Sx
namespace Go.Sx
open Go
section
variable {H:Type} {enc:TypeId×Value->H} {P:Program} {w:World} {sp:Nat->Bool} {hd:Bool} {t e:TypeId} {fuel:Nat} {v:Value} {cs:List Value} {x:DataW H×List MemPlace} {k:IntKind}
theorem aeh{a:Addr}{u:Value}(h:w.cell? a=some u):a.spot=none:=by
 unfold World.cell? at h
 split at h
 . split at h
   . cases h
   . rename_i hs
     cases hq:a.spot with
     | none=>rfl
     | some q=>rw[hq]at hs;simp at hs
 . cases h
theorem Sl.Q7{α:Type}[Inhabited α]{sz:Nat}{E:World->α->List Value->Prop}(L:P.underlying t=some (.slice e))(F:P.cellsOf e=sz)(hp:0<sz)
 (C:∀ n cs y,DataW.trod enc P w 0 sp hd n e cs=some y->∃ x:α,E w x cs) (h:DataW.trod enc P w 0 sp hd fuel t cs=some x):∃ v xs,cs=[v]/\Sl sz E (fun _=>True) w v xs:=by
 rcases Go.Deep.open_slice L h with ⟨B,_⟩|⟨a,len,A,m,n,D,O,rfl,_,I,hm,K,_,z⟩
 . exact⟨_,[],B,Sl.nil _ _ _ _⟩
 . rw[F]at z
   have Q:len<=m:=by rw[K];split<;>omega
   obtain⟨X,k⟩:=Go.Deep.choose_lt (α:=α) (n:=len) (p:=fun i x=>∃ cs', w.cells? 0 (a.add (i*sz)) sz=some cs' /\ E w x cs') (fun i hi=>by
    obtain⟨cs', c,d⟩:=z i o_
    obtain⟨y,f⟩:=C _ _ _ d
    exact⟨y,cs', c,f⟩)
   refine⟨_,(List.range len).map X,rfl,some a,A,s_,by simp;exact I,hm,fun i y hi=>?_⟩
   have q:i<len:=by have:=(ze.1 hi).1;simpa using this
   have f:y=X i:=by
    rw[lK,qX q]at hi
    simpa using hi.symm
   subst f
   obtain⟨cs', c,d⟩:=k i q
   obtain⟨_,J,G⟩:=World.cells?_some c
   have r:a.spot=none:=by
    obtain⟨cs0,M,_⟩:=k 0 o_
    obtain⟨_,R,N⟩:=World.cells?_some M
    have g:=N 0 hp
    have:cs0[0]? = some cs0[0]:=zk o_
    rw[this]at g
    have:=aeh g
    simpa[Addr.add]using this
   obtain⟨b,o,s⟩:=a
   simp only at r
   subst r
   refine⟨b,o,cs', rfl,trivial,J,d,fun j u l=>?_⟩
   have H : j<sz:=by have:=(ze.1 l).1;omega
   have:=G j H
   rw[l]at this
   rw[Addr.add_lit,Addr.add_lit]at this
   exact this
theorem gR.xO{n:Int}(h:(Lit.int k n).wf=true):gR k n:=by
 simp only[Lit.wf,lS,decide_eq_true_eq]at h
 exact h
theorem vN(c:P.underlying e=some (.int k))(h:DataW.trod enc P w 0 sp hd fuel e cs=some x):∃ n,cs=[.int k n]/\gR k n:=by
 obtain⟨m,a,_,b⟩:=DataW.trod_int c h
 exact⟨m,a,gR.xO b⟩
theorem Pj{a:Array Field}(g:P.underlying t=some (.struct a))(h:DataW.trod enc P w 0 sp hd fuel t cs=some x):cs.length=P.cellsOf t/\∀ f∈a.toList,∃ n y,DataW.trod enc P w 0 sp hd n f.type ((cs.drop f.offset).take (P.cellsOf f.type))=some y:=by
 cases fuel with
 | zero=>simp[DataW.trod]at h
 | succ n =>
  unfold DataW.trod at h
  rw[g]at h
  simp only at h
  split at h
  . rename_i c
    refine⟨c,fun f b=>?_⟩
    obtain⟨i,hi⟩:=List.getElem?_of_mem b
    cases hm:(a.toList.mapM fun f=>DataW.trod enc P w 0 sp hd n f.type ((cs.drop f.offset).take (P.cellsOf f.type)))with
    | none=>rw[hm]at h;simp at h
    | some ys =>
     have:=mapM_some_get hm i f hi
     have d:=mapM_some_length hm
     have e:i<ys.length:=by rw[d];exact(ze.1 hi).1
     rw[zk e]at this
     exact⟨n,_,this⟩
  . simp at h
end
end Go.Sx
