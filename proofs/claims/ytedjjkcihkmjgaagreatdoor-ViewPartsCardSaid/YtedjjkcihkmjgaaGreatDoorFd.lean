/- Plain lemmas: rules for walking through code, one for each operation, over any program; an evaluator of closed calls with its soundness; and plain mathematics. No conditions. -/
import Derived.Test.YtedjjkcihkmjgaaGreatDoorFa
import Derived.Shelf.GgSortFunc.InsertionK
import Derived.Shelf.SlSortCmp.Whole1
import Derived.Test.YtedjjkcihkmjgaaGreatDoorFb
import Derived.ProofKit
import Derived.Deep.Slices
set_option linter.unusedVariables false
set_option linter.unusedSectionVars false
set_option linter.unusedSimpArgs false
namespace Go.Sx
open Go
section
variable {α:Type} [Inhabited α] {cf:α->List Value} {k:Nat}
theorem Qc(a:∀ x:α,(cf x).length=k)(hk:0<k)(d:Array α):(Go.Sort.flatK cf k d).toList=d.toList.flatMap cf:=by
 apply mW
 intro t
 by_cases ht:t<d.size*k
 . have c:t / k<d.size:=(Mt hk).2 ht
   have b:t%k<k:=BP _ hk
   have h:d.toList[t / k]? = some d[t / k]:=by simp[c]
   have i:(cf d[t / k])[t%k]? = some ((cf d[t / k])[t%k]'(by rw[a];exact b)):=zm (by rw[a];exact b)
   have e:=v7 a d.toList (t / k) (t%k) _ _ h i
   have j:t / k*k+t%k=t:=BL t k
   rw[j]at e
   rw[e]
   have f:=Go.Sort.get_flatK cf k d t ht
   have g:t<(Go.Sort.flatK cf k d).size:=by simpa using ht
   rw[zK,uo g]
   rw[getElem!_pos _ t g]at f
   rw[f,getElem!_pos d _ c,getElem!_pos _ _ (by rw[a];exact b)]
 . rw[pK (by simp;omega),pK (by rw[oJ a];simp;omega)]
variable {P:Program} {w:World} {v:Value} {xs:List α} {e:TypeId} {f:FuncId} {fv:Value} {lt:α->α->Bool}
theorem aaa{b:Nat}{cur:Array Value}(h:∀ x:α,(cf x).length=k)(hk:0<k)(d:w.heap[b]? = some (.cells cur e (0,0)))(f:cur.toList.take (xs.length*k)=xs.flatMap cf):Go.Sort.HoldsK cf k w b 0 xs.toArray:=by
 intro j a
 have g : j<xs.length*k:=by simpa using a
 have c:(cur.toList.take (xs.length*k))[j]? = (Go.Sort.flatK cf k xs.toArray).toList[j]? := by rw[f,Qc h hk]
 rw[Dr g, zK,zK,uo a]at c
 refine⟨?_,?_⟩
 . simp only[World.cell?,d]
   rw[getElem!_pos _ j a]
   simpa using c
 . simp[World.frozen?,d]
theorem ae6(u:∀ x:α,(cf x).length=k)(hk:0<k)(z:Own (fL cf v e k xs) w)(I:xs.length<4611686018427387904)
 (C:Calls P f #[.slice none 0 0,fv] w fun e w' => e = .returned (.tuple #[])/\w' = w)
 (F:∀ blk m (d:Array α),Go.Sort.HoldsK cf k w blk 0 d->blk<w.heap.size->d.size<4611686018427387904->Calls P f #[.slice (some ⟨blk,0,none⟩) d.size m,fv] w fun e w' =>
  e = .returned (.tuple #[])/\∃ c n os,Go.Sort.PermIn 0 d.size d c /\ Go.Sort.SortedIn lt 0 d.size c /\ w' = Go.Proofs.sortWorldK cf k w blk 0 n c os) :
 CR P f #[v,fv] w (fun r w' => r = .tuple #[]/\∃ ys:List α,ys.Perm xs/\ys.Pairwise (fun a b=>lt b a=false)/\fV (fL cf v e k xs) w w' (fL cf v e k ys)):=by
 have M:w.ownsRow 0 e k v xs.length (xs.flatMap cf):=z.holds
 rcases M.2 with ⟨rfl,o⟩|⟨g, m,cur,rfl,hb,s,o,D,y,E⟩
 . obtain rfl:xs=[]:=GO.1 o
   refine Calls.mono C ?_
   rintro en w' ⟨rfl,rfl⟩
   exact⟨_,rfl,rfl,[],List.Perm.refl _,List.Pairwise.nil,fV.refl z⟩
 . have A:g < w.heap.size:=(qg.1 s).1
   have hs:=F g m xs.toArray (aaa u hk s E) A (by simpa using I)
   rw[List.size_toArray]at hs
   refine Calls.mono hs ?_
   rintro en w' ⟨rfl,c, n,os,hp,Q,rfl⟩
   have h:c.size=xs.length:=by simpa using hp.1
   have N:c.toList.Perm xs:=by
    have p:=hp.2.2
    have e1:c.extract 0 xs.length=c := by rw[<-h];exact Array.extract_size
    have B:xs.toArray.extract 0 xs.length=xs.toArray:=by rw[show xs.length=xs.toArray.size by simp];exact Array.extract_size
    rwa [e1,B]at p
   have K:(Go.Proofs.sortWorldK cf k w g 0 n c os).heap[g]? = some (.cells (Go.Sort.putCells id 0 (Go.Sort.flatK cf k c) cur) e (0,0)):=by
    simp only[Go.Proofs.sortWorldK,Go.Sort.grow,Go.Sort.putRowK,Go.Sort.putRow,Go.Sort.mapBlock,Go.Sort.ahead]
    rw[Mo (by simpa using A),Dw,if_pos rfl,s]
    rfl
   have L:∀ b,b<w.heap.size->b≠g -> (Go.Proofs.sortWorldK cf k w g 0 n c os).heap[b]? = w.heap[b]? := by
    intro b hb J
    simp only[Go.Proofs.sortWorldK,Go.Sort.grow,Go.Sort.putRowK,Go.Sort.putRow,Go.Sort.mapBlock,Go.Sort.ahead]
    rw[Mo (by simpa using hb),Dw,if_neg (fun e=>J e.symm)]
   have R:w.heap.size<=(Go.Proofs.sortWorldK cf k w g 0 n c os).heap.size:=by simp[Go.Proofs.sortWorldK,Go.Sort.grow,Go.Sort.putRowK,Go.Sort.putRow,Go.Sort.mapBlock,Go.Sort.ahead]
   have O:(Go.Sort.putCells id 0 (Go.Sort.flatK cf k c) cur).size=cur.size:=by simp[Go.Sort.putCells]
   have S:(Go.Sort.putCells id 0 (Go.Sort.flatK cf k c) cur).toList.take (c.toList.length*k)=c.toList.flatMap cf:=by
    rw[<-Qc u hk]
    have U:(Go.Sort.flatK cf k c).size=xs.length*k:=by simp[h]
    have V:xs.length*k<=cur.size:=by rw[y];exact zN _ o
    apply mW
    intro j
    rw[uu,tg,h]
    split
    . rename_i l
      have H:j<cur.size:=by omega
      have t:j<(Go.Sort.flatK cf k c).size:=by omega
      simp only[Go.Sort.putCells,zK,Mq,lD,true_and,lX,DH]
      rw[uo H,uo t]
      simp only[vE]
      rw[if_pos t,getElem!_pos _ j t]
      rfl
    . rename_i l
      rw[pK (by simp;rw[h];omega)]
   refine⟨_,rfl,rfl,c.toList,N,?_,⟨?_,⟨rfl,rfl,rfl,R,fun b hb T=>L b hb (fun e=>T (by simp[row,Value.ownBlock,e]))⟩,fun b q => .inl (by simpa[row,Value.ownBlock]using q),by simp[row,Value.ownBlock],fun b q => ?_⟩⟩
   . rw[uq]
     intro i j hi l G
     have p:=Q i j (lD _) G (by simp at l ⊢;omega)
     simp only[tg]at hi l
     rw[getElem!_pos _ i hi,getElem!_pos _ j l]at p
     simpa using p
   . refine⟨by rw[oJ u],.inr ⟨g, m,_,by simp[h],hb,K,by simp[h];exact o,D,by rw[O];exact y,S⟩⟩
   . simp[row,Value.ownBlock]at q
     subst q
     omega
end
end Go.Sx
namespace Go.Sx
open Go
section
variable {P:Program} {w:World} {v:Value} {e:TypeId} {f:FuncId} {fv:Value} {m:Nat}
def qV(x:Fin m):Value:=.int .i64 ((x.val:Nat):Int)
theorem ZF(hm:0<m):((List.finRange m).map fun x=>x.val)=List.range m:=by
 apply mW
 grind
theorem I3(xs:List Nat):xs.flatMap fS=xs.map fun x=>Value.int .i64 ((x:Nat):Int):=by
 induction xs with
 | nil=>rfl
 | cons x xs a=>rw[z7,a];rfl
theorem Th{α:Type}[Inhabited α]{enc:α->Value}{blk k b:Nat}{d:Array α}{os:Array Obj}(hb:b<w.heap.size)(a:b≠blk):(Go.Proofs.sortWorld enc w blk 0 k d os).heap[b]? = w.heap[b]? := by
 simp only[Go.Proofs.sortWorld,Go.Sort.grow,Go.Sort.putRow,Go.Sort.mapBlock,Go.Sort.ahead]
 grind
theorem ae4(hm:0<m)(lt:Nat->Nat->Bool)(H:Own (fL fS v e 1 (List.range m)) w)(L:m<4611686018427387904)
 (I:∀ (E:Inhabited (Fin m)) blk k (d:Array (Fin m)),(fL fS v e 1 (List.range m)).gH=[blk]->Go.Sort.Holds qV w blk 0 d->blk<w.heap.size->d.size<4611686018427387904->Calls P f #[.slice (some ⟨blk,0,none⟩) d.size k,fv] w fun e w' =>
  e = .returned (.tuple #[])/\∃ c n os,Go.Sort.PermIn 0 d.size d c /\ Go.Sort.SortedIn (fun x y:Fin m=>lt x.val y.val) 0 d.size c /\ w' = Go.Proofs.sortWorld qV w blk 0 n c os) :
 CR P f #[v,fv] w (fun r w' => r = .tuple #[]/\∃ ys:List Nat,ys.Perm (List.range m)/\ys.Pairwise (fun a b=>lt b a=false)/\fV (fL fS v e 1 (List.range m)) w w' (fL fS v e 1 ys)):=by
 have O:w.ownsRow 0 e 1 v (List.range m).length ((List.range m).flatMap fS):=H.holds
 rcases O.2 with ⟨rfl,h⟩|⟨g, k,cur,rfl,hb,p,h,F,s,B⟩
 . rw[nu]at h;omega
 . have C:g < w.heap.size:=(qg.1 p).1
   let E:Inhabited (Fin m):=⟨⟨0,hm⟩⟩
   have u:(List.finRange m).toArray.size=m:=by simp
   rw[nu,sD]at B
   rw[nu]at h
   rw[sD]at s
   have G:Go.Sort.Holds qV w g 0 (List.finRange m).toArray:=by
    intro j q
    have D : j<m:=by simpa using q
    have t:(cur.toList.take m)[j]? = ((List.range m).flatMap fS)[j]? := by rw[B]
    rw[Dr D, I3,zx,ox D, zK]at t
    refine⟨?_,?_⟩
    . simp only[World.cell?,p,lX]
      grind [qV]
    . simp[World.frozen?,p]
   have hs:=I E g k (List.finRange m).toArray (by simp[fL,row,Value.ownBlock]) G C (by rw[u];exact L)
   rw[u]at hs
   rw[nu]
   refine Calls.mono hs ?_
   rintro en w' ⟨rfl,c, n,os,hp,S,rfl⟩
   have o:c.size=m:=by rw[hp.1];exact u
   have Q:(c.toList.map fun x=>x.val).Perm (List.range m):=by
    have t:=hp.2.2
    have e1:c.extract 0 m=c := (congrArg (fun z=>c.extract 0 z) o.symm).trans Array.extract_size
    grind [ZF]
   have M:(Go.Proofs.sortWorld qV w g 0 n c os).heap[g]? = some (.cells (Go.Sort.putCells qV 0 c cur) e (0,0)):=by
    simp only[Go.Proofs.sortWorld,Go.Sort.grow,Go.Sort.putRow,Go.Sort.mapBlock,Go.Sort.ahead]
    rw[Mo (by simpa using C),Dw,if_pos rfl,p]
    rfl
   have N:∀ b,b<w.heap.size->b≠g -> (Go.Proofs.sortWorld qV w g 0 n c os).heap[b]? = w.heap[b]? := by
    intro b hb X
    simp only[Go.Proofs.sortWorld,Go.Sort.grow,Go.Sort.putRow,Go.Sort.mapBlock,Go.Sort.ahead]
    grind
   have T:w.heap.size<=(Go.Proofs.sortWorld qV w g 0 n c os).heap.size:=by simp[Go.Proofs.sortWorld,Go.Sort.grow,Go.Sort.putRow,Go.Sort.mapBlock,Go.Sort.ahead]
   have R:(Go.Sort.putCells qV 0 c cur).size=cur.size:=by simp[Go.Sort.putCells]
   have U:(Go.Sort.putCells qV 0 c cur).toList.take ((c.toList.map fun x=>x.val).length*1)=(c.toList.map fun x=>x.val).flatMap fS:=by
    rw[I3]
    have W:m<=cur.size:=by rw[s];exact h
    apply mW
    intro j
    rw[uu]
    simp only[zq,tg,o,sD]
    split
    . rename_i q
      have K:j<cur.size:=by omega
      have A:j<c.size:=by omega
      simp only[Go.Sort.putCells,zK,Mq,lD,true_and,lX,DH,zx]
      rw[uo K,uo A]
      simp only[vE]
      rw[if_pos A,getElem!_pos _ j A]
      rfl
    . grind
   refine⟨_,rfl,rfl,c.toList.map fun x=>x.val,Q,?_,⟨?_,⟨rfl,rfl,rfl,T,fun b hb V=>N b hb (fun e=>V (by simp[row,fL,Value.ownBlock,e]))⟩,fun b l => .inl (by simpa[row,fL,Value.ownBlock]using l),by simp[row,fL,Value.ownBlock],fun b l => ?_⟩⟩
   . rw[uq]
     intro i j hi q J
     have t:=S i j (lD _) J (by simp at q ⊢;omega)
     grind
   . refine⟨by rw[I3];simp,.inr ⟨g, k,_,by simp[o],hb,M,by simp[o];exact h,F,by rw[R];simpa using s,U⟩⟩
   . simp[row,fL,Value.ownBlock]at l
     subst l
     omega
end
section
variable {bs:List (World×List Nat)} {L:List fT} {w w0:World} {R:fT}
theorem St.aco{lb:Nat}{T:TypeId}{cs:List Value}(h:St bs (R :: blk lb T cs :: L) w):lb∉R.gH:=fun hm=>by
 have a:=h.sep
 rw[ng,zr]at a
 exact a.2.2 lb hm lb (by rw[ng];simp[blk]) rfl
theorem St.aam{lb:Nat}{T:TypeId}{cs:List Value}(h:St bs (R :: blk lb T cs :: L) w):lb<w.heap.size:=h.lt lb (by rw[ng,ng];simp[blk])
theorem St.adQ{α:Type}{cf:α->List Value}{sz:Nat}{ok:Nat->Prop}{v:Value}{xs:List α}(h:St bs (R :: L) w)(hb:(w0,[])∈bs)(hp:0<sz)(c:gY sz cf ok w0 v xs):gY sz cf (fun b=>b∉R.gH) w v xs :=
 Sl.mono (St.CW h hb hp (Sl.old c hp)) fun b d hm=>by
  rcases(h.base _ hb).mine b (by rw[ng];simp[hm])with a|a
  . cases a
  . have e:b<w0.heap.size:=d.2
    have f:w0.heap.size<=b:=a
    omega
end
end Go.Sx
namespace Go.Sx
open Go
theorem St.under{e bs:List (World×List Nat)}{L0 L:List fT}{w wl g:World}{X:List Nat}(i:St e L0 wl)(k:(w,[])∈e)(j:∀ b∈X,b∈iZ L0)(h:St bs L g)(hb:(wl,X)∈bs):St ((w,[]) :: bs) L g:=by
 have a:=i.base _ k
 have c:=h.base _ hb
 have f:∀ b∈X,w.heap.size<=b:=fun b hb=>(a.mine b (j b hb)).elim (fun h=>absurd h s_) id
 refine⟨fun p hp=>?_,h.own,h.sep,h.lt⟩
 rcases ze.1 hp with rfl|hp
 . refine⟨⟨c.gA.os.trans a.gA.os,c.gA.tape.trans a.gA.tape,c.gA.output.trans a.gA.output,kz a.gA.size c.gA.size,fun b d l=>?_⟩,fun b hb=>?_⟩
   . exact(c.gA.block b (oB d a.gA.size) (fun hb=>absurd (f b hb) (Nat.not_le.2 d))).trans (a.gA.block b d l)
   . rcases c.mine b hb with h|h
     . exact .inr (f b h)
     . exact .inr (kz a.gA.size h)
 . exact h.base p hp
theorem St.WD{bs:List (World×List Nat)}{L:List fT}{w:World}{p:World×List Nat}(h:St (p :: bs) L w):St bs L w :=
 ⟨fun q a=>h.base q (oS _ a),h.own,h.sep,h.lt⟩
theorem St.acB{bs:List (World×List Nat)}{R:fT}{L:List fT}{w0 w1:World}(h:St bs (R :: L) w1)(hb:(w0,[])∈bs){b:Nat}(a:b<w0.heap.size):b∉R.gH:=fun hm =>
 ((h.base _ hb).mine b (by rw[ng];exact zn.2 (.inl hm))).elim (fun h=>absurd h s_) (fun h=>absurd a (Nat.not_lt.2 h))
end Go.Sx
namespace Go.Sx
open Go
section
variable {Γ:Type} {P:Program} {T:TT P} {ops:Array Oper} {Q:Exit->Act->World->Prop} {n:Nat} {ds:List Deferred} {s0:List (Nat×Value)} {l0 l:List Oper} {pre:List (List Nat)} {mem:List Nat} {V vs:List (Γ->Value)} {v:Γ->Value}
variable {bs:List (World×List Nat)} {Ls:List ((Γ->List fT)×(Γ->World->Prop))} {i lo N:Nat} {s:Γ->List (Nat×Value)} {o:Oper} {L L1 L2 L3:Γ->List fT}
theorem Bj{p:Prop}(h:p:=by first|exact Rf.sk|exact Rf.mv|exact Rf.PV|exact Rf.fa|exact Rf.ld|exact Rf.JB|exact Rf.JD|exact Rf.JF|exact Rf.rS|exact Rf.uZ|exact Rf.cmp|exact Rf.ar|exact Rf.ex|exact Rf.Qz|exact Rf.QA|exact Rf.PX|exact Rf.E5|exact Rf.iJ|exact Rf.PW|exact Rf.jd|exact Rf.uU|exact Rf.JE|exact Rf.JC|exact Rf.JG|exact Rf.not|exact Rf.pT|exact Rf.pF|exact Rf.jL|exact Rf.ixG|exact Rf.fldG|exact Rf.len|exact Rf.nP|exact Rf.eP):p:=h
structure OF (T:TT P) (ops:Array Oper) (Q:Exit->Act->World->Prop) (n:Nat) (ds:List Deferred) (s0:List (Nat×Value)) (l0:List Oper) (pre:List (List Nat)) (mem:List Nat) (V:List (Γ->Value)) (bs:List (World×List Nat)) (Ls:List ((Γ->List fT)×(Γ->World->Prop))) (N i:Nat) (s:Γ->List (Nat×Value)) (l:List Oper) (vs:List (Γ->Value)):Prop where
 out:lY P ops Q n ds s0 l0 pre mem V (jC bs Ls) i s l vs
theorem Rf.q{L:List fT}{s:List (Nat×Value)}{v:Value}{w:World}(h:Rf T bs L ops n o s v)(a:St bs L w):mF P ops n o s v (fun w' => St bs L w' /\ True) w:=(h.out w a).congr fun w' h=>⟨h,trivial⟩
theorem OF.r1(hm:mem.contains i=false)(d:uW pre mem i=lo)(c:uQ pre mem i=lo)(a:Ls[lo]? = some (L,fun _ _=>True))(hv:∀ g,Rf T bs (L g) ops n o (s g) (v g))
 (K:OF T ops Q n ds s0 l0 pre mem V bs Ls N (i+1) (fun g=>kT o.dst (v g) (s g)) l vs):OF T ops Q n ds s0 l0 pre mem V bs Ls (N+1) i s (o :: l) (v :: vs) :=
 ⟨wF hm d c a (fun g w b _=>(hv g).q b) K.out⟩
theorem OF.r2(hm:mem.contains i=false)(e:uW pre mem i=lo)(d:uQ pre mem i=lo+1)(b:Ls[lo]? = some (L,fun _ _=>True))(c:Ls[lo+1]? = some (L1,fun _ _=>True))(hv:∀ g,Rf T bs (L g) ops n o (s g) (v g))(f:∀ g,Rf T bs (L1 g) ops n o (s g) (v g))
 (K:OF T ops Q n ds s0 l0 pre mem V bs Ls N (i+1) (fun g=>kT o.dst (v g) (s g)) l vs):OF T ops Q n ds s0 l0 pre mem V bs Ls (N+1) i s (o :: l) (v :: vs) :=
 ⟨Km hm e d b c (fun g w a _=>(hv g).q a) (fun g w a _=>(f g).q a) K.out⟩
theorem OF.r3(hm:mem.contains i=false)(f:uW pre mem i=lo)(e:uQ pre mem i=lo+2)(b:Ls[lo]? = some (L,fun _ _=>True))(c:Ls[lo+1]? = some (L1,fun _ _=>True))(d:Ls[lo+2]? = some (L2,fun _ _=>True))(hv:∀ g,Rf T bs (L g) ops n o (s g) (v g))(h:∀ g,Rf T bs (L1 g) ops n o (s g) (v g))(j:∀ g,Rf T bs (L2 g) ops n o (s g) (v g))
 (K:OF T ops Q n ds s0 l0 pre mem V bs Ls N (i+1) (fun g=>kT o.dst (v g) (s g)) l vs):OF T ops Q n ds s0 l0 pre mem V bs Ls (N+1) i s (o :: l) (v :: vs) :=
 ⟨acv hm f e b c d (fun g w a _=>(hv g).q a) (fun g w a _=>(h g).q a) (fun g w a _=>(j g).q a) K.out⟩
theorem aeo{p q:Prop} (h:p->q:=by
 intro h
 repeat (first|refine OF.r1 rfl rfl rfl rfl (fun _=>Bj) ?_|refine OF.r2 rfl rfl rfl rfl rfl (fun _=>Bj) (fun _=>Bj) ?_|refine OF.r3 rfl rfl rfl rfl rfl rfl (fun _=>Bj) (fun _=>Bj) (fun _=>Bj) ?_)
 exact h):p->q:=h
theorem Fy[T:TT P]{a : Nat}{s' : Γ->List (Nat×Value)}{l' : List Oper}{b : List (Γ->Value)}(N:Nat)(K:lY P ops Q n ds s0 l0 pre mem V (jC bs Ls) a s' l' b)
 (h:OF T ops Q n ds s0 l0 pre mem V bs Ls 0 a s' l' b -> OF T ops Q n ds s0 l0 pre mem V bs Ls N i s l vs:=by exact aeo):lY P ops Q n ds s0 l0 pre mem V (jC bs Ls) i s l vs:=(h ⟨K⟩).out
end
end Go.Sx
namespace Go.Sx
open Go
section
variable {P:Program} {T:TT P} {bs:List (World×List Nat)} {L:List fT} {ops:Array Oper} {n d:Nat} {s:List (Nat×Value)} {ds:List Deferred} {w w0:World} {t ty:TypeId} {pos:String} {af:Array Edge} {g:Option (Nat×Bool)} {x:Operand} {v:Value}
theorem Rk.E5{α:Type}{cf:α->List Value}{xs:List α}{e' : TypeId}{q k sz off:Nat}{ud:TypeDesc}{u:Value}(h:St bs L w:=by assumption)(f:ev n s x=jm sz u k off:=by exact rfl)(a:jb T.u t=some ud:=by exact rfl)(e:j6 ud=false:=by exact rfl)(hi:L[q]? = some (fL cf u e' sz xs):=by first|exact qP|exact qQ|exact nE|exact nF|exact qR|exact qS|exact qT|exact qU)(i:Inhabited α:=by infer_instance)(c:∀ x:α,(cf x).length=sz:=by exact fun _=>rfl)(hk:k<xs.length:=by first|omega|(simp only[gx];omega))(hv:(cf (fJ xs k))[off]? = some v:=by exact rfl)(b:look s d=v:=by exact rfl):qB P ops ⟨some d,.load t x,ty,pos,af,g⟩ (Fr n s ds) w:=p9 (wo f (kX T.lB a) e (St.yO h hi c) (gy hk) hv) rfl b
theorem Rk.ld{b o i:Nat}{a:TypeId}{cs:List Value}{ud:TypeDesc}(h:St bs L w:=by assumption)(j:ev n s x = .pointer (some ⟨b,o,none⟩):=by exact rfl)(c:jb T.u t=some ud:=by exact rfl)(f:j6 ud=false:=by exact rfl)(hi:L[i]? = some (blk b a cs):=by first|exact qP|exact qQ|exact nE|exact nF|exact qR|exact qS|exact qT|exact qU)(hv:cs[o]? = some v:=by exact rfl)(e:look s d=v:=by exact rfl):qB P ops ⟨some d,.load t x,ty,pos,af,g⟩ (Fr n s ds) w:=p9 (mM j (kX T.lB c) f (h.rU hi hv)) rfl e
theorem Rk.jd{α:Type}{cf:α->List Value}{xs:List α}{ok:Nat->Prop}{c:α}{k sz off:Nat}{ud:TypeDesc}{u:Value}(h:St bs L w:=by assumption)(f:ev n s x=jm sz u k off:=by exact rfl)(a:jb T.u t=some ud:=by exact rfl)(e:j6 ud=false:=by exact rfl)(hi:gY sz cf ok w0 u xs:=by assumption)(hb:(w0,[])∈bs:=by simp)(i:0<sz:=by decide)(hk:xs[k]? = some c:=by first|assumption|exact rfl|exact gy (by first|omega|(simp only[gx];omega)))(hv:(cf c)[off]? = some v:=by exact rfl)(b:look s d=v:=by exact rfl):qB P ops ⟨some d,.load t x,ty,pos,af,g⟩ (Fr n s ds) w:=p9 (wo f (kX T.lB a) e (St.CW h hb i hi) hk hv) rfl b
theorem Rk.uU{b o i sz by_:Nat}{l:Value}{a:TypeId}{cs vs:List Value}{ud:TypeDesc}(h:St bs L w:=by assumption)(k:ev n s x = .pointer (some ⟨b,o,none⟩):=by exact rfl)(c:jb T.u t=some ud:=by exact rfl)(f:j6 ud=true:=by exact rfl)(j:jb T.i t=some (sz,by_,l):=by exact rfl)(hi:L[i]? = some (blk b a cs):=by first|exact qP|exact qQ|exact nE|exact nF|exact qR|exact qS|exact qT|exact qU)(hv:sub' cs o sz=some vs:=by exact rfl)(e:look s d = .agg vs.toArray:=by exact rfl):qB P ops ⟨some d,.load t x,ty,pos,af,g⟩ (Fr n s ds) w:=p9 (tP k (kX T.lB c) f (mN T.nh j) (wX hv) (h.HV hi (yT hv))) rfl e
theorem pG{p:Prop}(h:p:=by first|exact Rk.E5|exact Rk.ld|exact Rk.JB|exact Rk.JD|exact Rk.JF|exact Rk.jd|exact Rk.uU|exact Rk.JE|exact Rk.JC|exact Rk.JG|exact Rk.QV|exact Rk.E3):p:=h
theorem kn{Q:Exit->Act->World->Prop}{M:Act->World->Prop}{c:List Nat}(h:M (Fr n s ds) w)(b:kj P ops c (Fr n s ds) w:=by repeat (first|exact trivial|refine lq rfl pG ?_)):Exit.then (fun a w=>kj P ops c a w/\M a w) Q .normal (Fr n s ds) w:=⟨b,h⟩
end
end Go.Sx
namespace Go.Sx
open Go
section
variable {r:Option Nat} {P:Program} {ops:Array Oper} {Q:Exit->Act->World->Prop} {rest:List Oper} {n:Nat} {s:List (Nat×Value)} {ds:List Deferred} {w w' : World}
variable {bs:List (World×List Nat)} {L L' : List fT} {t ty:TypeId} {pos:String} {af:Array Edge} {g:Option (Nat×Bool)} {x y:Operand} {u v z:Value} {vs cs:List Value} {d sz szt by_:Nat}
theorem Cp{p:Prop}(h:p:=by first|exact N6|exact N5|exact N7|exact N8|exact N4|exact cNilF|exact cMap|exact rfl):p:=h
theorem iz[T:TT P]{α:Type}[Inhabited α]{cf:α->List Value}{ys:List α}{e:TypeId}{k off:Nat}(f:α->α)(i:Nat)(j:St bs L w)(K:∀ w', St bs L' w' -> WL r P ops Q rest (Fr n s ds) w')
 (o:ev n s x=jm sz v k off:=by exact rfl) (p:ev n s y=u:=by first|((conv=>lhs;whnf);done)|exact rfl) (hvs:u.cells.toList=vs:=by exact Cp) (m:jb T.i t=some (szt,by_,z):=by exact rfl) (l:vs.length=szt:=by exact rfl) (h1:vs.all (·.oneCell')=true:=by exact rfl)
 (hi:L[i]? = some (fL cf v e sz ys):=by exact rfl) (d:∀ x:α,(cf x).length=sz:=by exact fun _=>rfl) (hk:k<ys.length:=by first|omega|(simp only[gx];omega)) (h:Nat.ble (off+vs.length) sz=true:=by exact rfl)
 (b:cf (f (fJ ys k))=setAt (cf (fJ ys k)) off vs:=by exact rfl) (a:L.set i (fL cf v e sz (fM ys k f))=L' := by first|(dsimp only[List.set];exact rfl)|exact rfl) (c:gC ops n s g=true:=by exact rfl) :
 WL r P ops Q (⟨none,.store t x y,ty,pos,af,g⟩ :: rest) (Fr n s ds) w:=afe i c o p hvs (mN T.nh m) l h1 j hi d hk h b a K
theorem jZ[T:TT P]{α:Type}[Inhabited α]{cf:α->List Value}{ys:List α}{a:TypeId}{b k off:Nat}(f:α->α)(i:Nat)(l:St bs L w)(K:∀ w', St bs L' w' -> gw [b] w w' -> WL r P ops Q rest (Fr n s ds) w')
 (p:ev n s x = .pointer (some ⟨b,k*sz+off,none⟩):=by exact rfl) (q:ev n s y=u:=by first|((conv=>lhs;whnf);done)|exact rfl) (hvs:u.cells.toList=vs:=by exact Cp) (o:jb T.i t=some (szt,by_,z):=by exact rfl) (m:vs.length=szt:=by exact rfl) (h1:vs.all (·.oneCell')=true:=by exact rfl)
 (hi:L[i]? = some (blk b a (ys.flatMap cf)):=by exact rfl) (c:∀ x:α,(cf x).length=sz:=by exact fun _=>rfl) (hk:k<ys.length:=by first|omega|(simp only[gx];omega)) (d:Nat.ble (off+vs.length) sz=true:=by exact rfl)
 (h:cf (f (fJ ys k))=setAt (cf (fJ ys k)) off vs:=by exact rfl) (e:L.set i (blk b a ((fM ys k f).flatMap cf))=L' := by first|(dsimp only[List.set];exact rfl)|exact rfl) (j:gC ops n s g=true:=by exact rfl) :
 WL r P ops Q (⟨none,.store t x y,ty,pos,af,g⟩ :: rest) (Fr n s ds) w:=FY i j p q hvs (mN T.nh o) m h1 l hi (KI c hk (pL d)) (FF c hk h (pL d)) e K
theorem jM[T:TT P]{cs' : List Value}{a:TypeId}{b o:Nat}(i:Nat)(f:St bs L w)(K:∀ w', St bs L' w' -> WL r P ops Q rest (Fr n s ds) w')
 (k:ev n s x = .pointer (some ⟨b,o,none⟩):=by exact rfl) (l:ev n s y=u:=by first|((conv=>lhs;whnf);done)|exact rfl) (hvs:u.cells.toList=vs:=by exact Cp) (j:jb T.i t=some (szt,by_,z):=by exact rfl) (h:vs.length=szt:=by exact rfl) (h1:vs.all (·.oneCell')=true:=by exact rfl)
 (hi:L[i]? = some (blk b a cs):=by exact rfl) (d:Nat.ble (o+vs.length) cs.length=true:=by exact rfl) (hcs:setAt cs o vs=cs' := by dsimp only[setAt,List.take,List.drop,List.length,List.append,HAppend.hAppend,Append.append]<;>exact rfl)
 (c:L.set i (blk b a cs')=L' := by first|(dsimp only[List.set];exact rfl)|exact rfl) (e:gC ops n s g=true:=by exact rfl) :
 WL r P ops Q (⟨none,.store t x y,ty,pos,af,g⟩ :: rest) (Fr n s ds) w:=FX i e k l hvs (mN T.nh j) h h1 f hi d hcs c K
theorem iC(c:St bs L w)(K:∀ b w', w.heap.size<=b->gw [] w w' -> St bs (blk b t cs :: L) w' -> WL r P ops Q rest (Fr n ((d,.pointer (some ⟨b,0,none⟩)) :: s) ds) w')
 (e:ev n s x=v:=by first|((conv=>lhs;whnf);done)|exact rfl) (hcs:v.cells.toList=cs:=by exact Cp) (a:gC ops n s g=true:=by exact rfl):WL r P ops Q (⟨some d,.box t x,ty,pos,af,g⟩ :: rest) (Fr n s ds) w:=bx a e hcs c K
theorem iE[T:TT P](c:St bs L w)(K:∀ b w', w.heap.size<=b->gw [] w w' -> St bs (blk b t cs :: L) w' -> WL r P ops Q rest (Fr n ((d,.pointer (some ⟨b,0,none⟩)) :: s) ds) w')
 (e:jb T.i t=some (sz,by_,z):=by exact rfl) (hcs:z.cells.toList=cs:=by exact Cp) (a:gC ops n s g=true:=by exact rfl):WL r P ops Q (⟨some d,.alloc t,ty,pos,af,g⟩ :: rest) (Fr n s ds) w:=al a (mN T.nh e) hcs c K
end
end Go.Sx
namespace Go.Sx
open Go
section
variable {H:Type} {enc:TypeId×Value->H} {P:Program} {w:World} {sp:Nat->Bool} {hd:Bool} {t e:TypeId} {fuel:Nat} {v:Value} {cs:List Value} {x:DataW H×List MemPlace} {k:IntKind}
theorem ae8{a:Addr}{u:Value}(h:w.cell? a=some u):a.spot=none:=by
 unfold World.cell? at h
 split at h
 . split at h
   . cases h
   . rename_i hs
     cases hq:a.spot with
     | none=>rfl
     | some q=>rw[hq]at hs;simp at hs
 . cases h
theorem Sl.RK{α:Type}[Inhabited α]{sz:Nat}{E:World->α->List Value->Prop}(L:P.underlying t=some (.slice e))(F:P.cellsOf e=sz)(hp:0<sz)
 (C:∀ n cs y,DataW.trod enc P w 0 sp hd n e cs=some y->∃ x:α,E w x cs) (h:DataW.trod enc P w 0 sp hd fuel t cs=some x):∃ v xs,cs=[v]/\Sl sz E (fun _=>True) w v xs:=by
 rcases Go.Deep.open_slice L h with ⟨B,_⟩|⟨a,len,A,m,n,D,Pl,rfl,_,I,hm,K,_,z⟩
 . exact⟨_,[],B,Sl.nil _ _ _ _⟩
 . rw[F]at z
   have O:len<=m:=by rw[K];split<;>omega
   obtain⟨X,k⟩:=Go.Deep.choose_lt (α:=α) (n:=len) (p:=fun i x=>∃ cs', w.cells? 0 (a.add (i*sz)) sz=some cs' /\ E w x cs') (fun i hi=>by
    obtain⟨cs', c,d⟩:=z i o_
    obtain⟨y,f⟩:=C _ _ _ d
    exact⟨y,cs', c,f⟩)
   refine⟨_,(List.range len).map X,rfl,some a,A,s_,by simp;exact I,hm,fun i y hi=>?_⟩
   have q:i<len:=by have:=(zh.1 hi).1;simpa using this
   have f:y=X i:=by
    rw[zx,ox q]at hi
    simpa using hi.symm
   subst f
   obtain⟨cs', c,d⟩:=k i q
   obtain⟨_,J,G⟩:=World.cells?_some c
   have r:a.spot=none:=by
    obtain⟨cs0,M,_⟩:=k 0 o_
    obtain⟨_,Q,N⟩:=World.cells?_some M
    have g:=N 0 hp
    have:cs0[0]? = some cs0[0]:=zm o_
    rw[this]at g
    have:=ae8 g
    simpa[Addr.add]using this
   obtain⟨b,o,s⟩:=a
   simp only at r
   subst r
   refine⟨b,o,cs', rfl,trivial,J,d,fun j u l=>?_⟩
   have H : j<sz:=by have:=(zh.1 l).1;omega
   have:=G j H
   rw[l]at this
   rw[Addr.add_lit,Addr.add_lit]at this
   exact this
theorem ia.acA{n:Int}(h:(Lit.int k n).wf=true):ia k n:=by
 simp only[Lit.wf,mC,decide_eq_true_eq]at h
 exact h
theorem we(c:P.underlying e=some (.int k))(h:DataW.trod enc P w 0 sp hd fuel e cs=some x):∃ n,cs=[.int k n]/\ia k n:=by
 obtain⟨m,a,_,b⟩:=DataW.trod_int c h
 exact⟨m,a,ia.acA b⟩
theorem P7{a:Array Field}(g:P.underlying t=some (.struct a))(h:DataW.trod enc P w 0 sp hd fuel t cs=some x):cs.length=P.cellsOf t/\∀ f∈a.toList,∃ n y,DataW.trod enc P w 0 sp hd n f.type ((cs.drop f.offset).take (P.cellsOf f.type))=some y:=by
 cases fuel with
 | zero=>simp[DataW.trod]at h
 | succ n =>
  unfold DataW.trod at h
  rw[g]at h
  simp only at h
  split at h
  . rename_i c
    refine⟨c,fun f b=>?_⟩
    obtain⟨i,hi⟩:=List.getElem?_of_mem b
    cases hm:(a.toList.mapM fun f=>DataW.trod enc P w 0 sp hd n f.type ((cs.drop f.offset).take (P.cellsOf f.type)))with
    | none=>rw[hm]at h;simp at h
    | some ys =>
     have:=mapM_some_get hm i f hi
     have d:=mapM_some_length hm
     have e:i<ys.length:=by rw[d];exact(zh.1 hi).1
     rw[zm e]at this
     exact⟨n,_,this⟩
  . simp at h
end
end Go.Sx
