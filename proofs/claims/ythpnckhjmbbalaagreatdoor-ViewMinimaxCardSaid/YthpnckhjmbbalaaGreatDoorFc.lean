/- Plain lemmas: rules for walking through code, one for each operation, over any program; an evaluator of closed calls with its soundness; and plain mathematics. No conditions. -/
import Derived.Test.YthpnckhjmbbalaaGreatDoorFb
import Derived.Test.YthpnckhjmbbalaaGreatDoorFa
set_option linter.unusedVariables false
set_option linter.unusedSectionVars false
set_option linter.unusedSimpArgs false
namespace Go.Sx
open Go
theorem abj{γ:Type}{m m2:List (Int×γ)}{a:Int}:gU (m++m2) a=if gU m a=none then gU m2 a else gU m a:=by
 induction m with
 | nil=>simp[gU]
 | cons p m c =>
  obtain⟨b,y⟩:=p
  simp only[ox,gU]
  split
  . simp
  . exact c
structure pq (im0 dn todo dn2 im2:IM):Prop where
 perm:(dn++todo).Perm im0
 same:dn2.map (fun p=>(p.1,p.2.2))=dn.map (fun p=>(p.1,p.2.2))
 keys:(im2.map Prod.fst).Nodup
 get:∀ a,gU im2 a=if gU dn2 a=none then gU im0 a else gU dn2 a
theorem pq.start{b:IM}(h:(b.map Prod.fst).Nodup):pq b [] b [] b:=⟨List.Perm.refl _,rfl,h,fun a=>by simp[gU]⟩
theorem pq.Qj{c a todo b im2:IM}(h:pq c a todo b im2):b.map Prod.fst=a.map Prod.fst:=by
 have:=congrArg (List.map Prod.fst) h.same
 rw[List.map_map,List.map_map]at this
 exact this
theorem pq.nodup{b a todo c im2:IM}(h:pq b a todo c im2)(d:(b.map Prod.fst).Nodup):((a++todo).map Prod.fst).Nodup:=((h.perm.map Prod.fst).nodup_iff).2 d
theorem pq.next{d b todo e c im2:IM}{p:Int×(Value×List Nat)}(h:pq d b todo c im2)(g:(d.map Prod.fst).Nodup)(hp:todo.Perm (p :: e))(v:Value) :
 pq d (b++[p]) e (c++[(p.1,(v,p.2.2))]) (gx im2 p.1 (v,p.2.2)):=by
 have j:(b++[p]++e).Perm (b++todo):=by
  rw[nr]
  exact(hp.symm.append_left b)
 have f:=h.nodup g
 have i:gU c p.1=none:=by
  rw[FH,h.Qj]
  intro hm
  rw[s9,zr]at f
  exact f.2.2 _ hm p.1 (zz.2 ⟨p,hp.mem_iff.2 s_,rfl⟩) rfl
 refine⟨j.trans h.perm,?_,wG h.keys _ _,fun a=>?_⟩
 . rw[s9,s9,h.same]
   rfl
 . rw[wB,abj,h.get]
   by_cases ha:p.1=a
   . subst ha
     simp[i,gU]
   . simp only[if_neg ha,gU]
     split<;>simp_all
theorem pq.at{a b todo f c im2:IM}{p:Int×(Value×List Nat)}(h:pq a b todo c im2)(d:(a.map Prod.fst).Nodup)(hp:todo.Perm (p :: f)):(fT a p.1).2=p.2.2:=by
 have e:(p.1,p.2)∈a:=h.perm.mem_iff.1 (xo _ (hp.mem_iff.2 s_))
 unfold fT
 rw[QN d e]
 rfl
theorem QO{γ:Type}{m m2:List (Int×γ)}(hp:m.Perm m2)(h:(m.map Prod.fst).Nodup)(a:Int):gU m a=gU m2 a:=by
 have b:(m2.map Prod.fst).Nodup:=((hp.map Prod.fst).nodup_iff).1 h
 cases hm:gU m a with
 | some x=>exact(QN b (hp.mem_iff.1 (QM hm))).symm
 | none =>
  rw[FH]at hm
  symm
  rw[FH]
  intro c
  exact hm (((hp.map Prod.fst).mem_iff).2 c)
theorem RN{γ:Type}:∀ {m m2:List (Int×γ)},(m.map Prod.fst).Nodup->(m2.map Prod.fst).Nodup->(∀ a,gU m a=gU m2 a)->m.Perm m2
 | [],m2,_,_,h=>by
  cases m2 with
  | nil=>exact List.Perm.refl _
  | cons p m2=>have:=h p.1;obtain⟨b,y⟩:=p;simp[gU]at this
 | p :: m,m2,h1,h2,h=>by
  obtain⟨b,y⟩:=p
  have hb:gU m2 b=some y:=by rw[<-h b];simp[gU]
  have f:=FI hb
  have d:=J9 h2 b
  simp only[ko,zw]at h1
  refine(List.Perm.cons _ (RN h1.2 d fun a=>?_)).trans f.symm
  rw[FG h2]
  have c:=h a
  simp only[gU]at c
  split
  . rename_i e
    subst e
    exact FH.2 h1.1
  . rename_i e
    rw[if_neg e]at c
    exact c
theorem QT{d c:IM}(h:c.map (fun p=>(p.1,p.2.2))=d.map (fun p=>(p.1,p.2.2)))(a:Int):(gU c a=none↔gU d a=none)/\(fT c a).2=(fT d a).2:=by
 induction d generalizing c with
 | nil =>
  cases c with
  | nil=>exact⟨Iff.rfl,rfl⟩
  | cons q c=>simp at h
 | cons p d g =>
  cases c with
  | nil=>simp at h
  | cons q c =>
   simp only[ko,List.cons.injEq,Prod.mk.injEq]at h
   obtain⟨⟨e1,e⟩,f⟩:=h
   obtain⟨b,v,xs⟩:=p
   obtain⟨b2,v2,i⟩:=q
   simp only at e1 e
   subst e1 e
   have:=g f
   unfold fT at this ⊢
   simp only[gU]
   split
   . simp
   . exact this
theorem pq.fin{b d todo e im2:IM}(h:pq b d todo e im2)(j:(b.map Prod.fst).Nodup)(n:todo=[]) :
 d.Perm b/\e.Perm im2/\(im2.map Prod.fst).Nodup/\∀ a,(gU im2 a=none↔gU b a=none)/\(fT im2 a).2=(fT b a).2:=by
 subst n
 have hp:d.Perm b:=by simpa using h.perm
 have f:(d.map Prod.fst).Nodup:=((hp.map Prod.fst).nodup_iff).2 j
 have m:(e.map Prod.fst).Nodup:=by rw[h.Qj];exact f
 have g:∀ a,gU e a=gU im2 a:=by
  intro a
  rw[h.get]
  split
  . rename_i i
    rw[i]
    have c:=((QT h.same a).1).1 i
    rw[QO hp f a]at c
    exact c.symm
  . rfl
 refine⟨hp,RN m h.keys g,h.keys,fun a=>?_⟩
 have c:=QT h.same a
 have k:=QO hp f a
 have l:=g a
 unfold fT at c ⊢
 rw[<-l,<-k]
 exact c
theorem Dk{v:Value}{e:TypeId}{cf:Nat->List Value}(b:∀ x:Nat,cf x=[.int .i64 (x:Int)])(ds:List Nat):fM cf v e 1 ds=ig .i64 v e (gA ds):=by
 have a:ds.flatMap cf=(gA ds).map (.int .i64):=by
  unfold gA
  induction ds with
  | nil=>rfl
  | cons d ds c=>simp[b,c]
 show row v e 1 ds.length _=row v e 1 (gA ds).length _
 rw[a,show (gA ds).length=ds.length by simp[gA]]
theorem St.adR{bs:List (World×List Nat)}{L:List fS}{w:World}{v:Value}{e:TypeId}{ds:List Nat}{cf:Nat->List Value}(a:∀ x:Nat,cf x=[.int .i64 (x:Int)])(h:St bs (ig .i64 v e (gA ds) :: L) w):St bs (fM cf v e 1 ds :: L) w:=by
 rw[Dk a]
 exact h
theorem St.SD {bs:List (World×List Nat)}{L:List fS}{w:World}{v:Value}{e:TypeId}{ds:List Nat}{cf:Nat->List Value}(a:∀ x:Nat,cf x=[.int .i64 (x:Int)])(h:St bs (fM cf v e 1 ds :: L) w):St bs (ig .i64 v e (gA ds) :: L) w:=by
 rw[Dk a]at h
 exact h
end Go.Sx
namespace Go.Sx
open Go
def lU{α:Type}(cf:α->List Value)(e:TypeId)(l:List (Value×List α)):fS:=gq (l.map fun p=>fM cf p.1 e 1 p.2)
abbrev xX(e:TypeId)(l:List (Value×List Nat)):fS:=lU fW e l
theorem set_perm{α:Type}:∀ (l:List α) (i:Nat) (x:α),i<l.length->(l.set i x).Perm (x :: l.eraseIdx i)
 | y :: l,0,x,_=>List.Perm.refl _
 | y :: l,i+1,x,h=>((set_perm l i x (by simpa using h)).cons y).trans (List.Perm.swap _ _ _)
 | [],i,x,h=>by simp at h
theorem PM{α:Type}[Inhabited α]{l:List α}{i:Nat}(h:i<l.length):l.Perm (fJ l i :: l.eraseIdx i):=by
 have a:=set_perm l i (fJ l i) h
 have b:l.set i (fJ l i)=l:=by
  apply ow
  intro j
  rw[vt]
  split
  . rename_i c
    subst c
    exact(gE h).symm
  . rfl
 rwa [b]at a
abbrev kI{α:Type}(p:Value×List α):List Value:=[p.1]
instance {α:Type}:Inhabited (Value×List α):=⟨(.slice none 0 0,[])⟩
section
variable {α:Type} {cf:α->List Value} {bs:List (World×List Nat)} {L:List fS} {w:World} {e:TypeId} {l:List (Value×List α)} {i:Nat}
theorem St.Jy{a:List (Value×List α)}(h:St bs (lU cf e l :: L) w)(hp:l.Perm a):St bs (lU cf e a :: L) w :=
 St.pack _ _ ((St.unpack h).perm ((hp.map _).append_right _))
theorem St.aao{p:Value×List α}(h:St bs (lU cf e (p :: l) :: L) w):St bs (fM cf p.1 e 1 p.2 :: lU cf e l :: L) w:=by
 have a:St bs (([fM cf p.1 e 1 p.2]++l.map fun p=>fM cf p.1 e 1 p.2)++L) w:=St.unpack h
 rw[nr]at a
 have b:=a.perm (L' := (l.map fun p=>fM cf p.1 e 1 p.2)++([fM cf p.1 e 1 p.2]++L)) (by
  rw[<-nr,<-nr]
  exact List.Perm.append_right _ rz)
 exact(St.pack _ _ b).swap
theorem St.IA{p:Value×List α}(h:St bs (fM cf p.1 e 1 p.2 :: lU cf e l :: L) w):St bs (lU cf e (p :: l) :: L) w:=by
 have a:St bs ((l.map fun p=>fM cf p.1 e 1 p.2)++(fM cf p.1 e 1 p.2 :: L)) w:=St.unpack h.swap
 refine St.pack _ _ (a.perm ?_)
 show List.Perm _ (fM cf p.1 e 1 p.2 :: ((l.map fun p=>fM cf p.1 e 1 p.2)++L))
 exact um
theorem St.CK(i:Nat)(h:St bs (lU cf e l :: L) w)(hi:i<l.length):St bs (fM cf (fJ l i).1 e 1 (fJ l i).2 :: lU cf e (l.eraseIdx i) :: L) w :=
 (h.Jy (PM hi)).aao
theorem St.Qn{v:Value}{xs:List α}(h:St bs (fM cf v e 1 xs :: lU cf e (l.eraseIdx i) :: L) w)(hi:i<l.length):St bs (lU cf e (fO l i (fun _=>(v,xs))) :: L) w :=
 (St.IA (p:=(v,xs)) h).Jy (set_perm l i (v,xs) hi).symm
theorem St.Jx(h:St bs (fM cf (fJ l i).1 e 1 (fJ l i).2 :: lU cf e (l.eraseIdx i) :: L) w)(hi:i<l.length):St bs (lU cf e l :: L) w :=
 (St.IA (p:=fJ l i) h).Jy (PM hi).symm
theorem St.aap(h:St bs L w):St bs (lU cf e [] :: L) w:=St.pack [] L h
theorem St.Qm(n:Nat)(h:St bs L w):St bs (lU cf e (List.replicate n (.slice none 0 0,[])) :: L) w:=by
 induction n with
 | zero=>exact h.aap
 | succ n a=>exact St.IA (p:=(.slice none 0 0,[])) (St.EA a e 1)
theorem wm{a b v:Value}(hi:i<l.length)(hv:(fJ l i).1=v):(a :: b :: l.flatMap kI)[2+i]? = some v:=by
 have h:=we (cf:=kI) (sz:=1) (fun _=>rfl) l i 0 (fJ l i) v (gE hi) (by rw[<-hv];rfl)
 rw[sC,qz]at h
 rw[Nat.add_comm]
 exact h
theorem Jv{a b v:Value}{xs:List α}(hi:i<l.length):setAt (a :: b :: l.flatMap kI) (2+i) [v]=a :: b :: (fO l i (fun _=>(v,xs))).flatMap kI:=by
 have h:=F7 (cf:=kI) (sz:=1) (off:=0) (vs:=[v]) (f:=fun _=>(v,xs)) (fun _=>rfl) hi rfl (zn _)
 rw[sC,qz]at h
 have c:=SS (a:=[a,b]) (b:=l.flatMap kI) (vs:=[v]) (o:=i)
 rw[h]at c
 exact c
theorem Z3{a b:Value}(hi:i<l.length):2+i+1<=(a :: b :: l.flatMap kI).length:=by
 rw[zh,zh,rP (sz:=1) (fun _=>rfl)]
 omega
end
end Go.Sx
namespace Go.Sx
open Go
def oF{α:Type}(cf:α->List Value)(sz:Nat)(e:TypeId)(m:List (Int×(Value×List α))):fS:=gq (m.map fun p=>fM cf p.2.1 e sz p.2.2)
section
variable {α:Type} {cf:α->List Value} {bs:List (World×List Nat)} {L:List fS} {w:World} {e:TypeId} {sz:Nat} {m:List (Int×(Value×List α))} {a:Int}
theorem St.Pr{m2:List (Int×(Value×List α))}(h:St bs (oF cf sz e m :: L) w)(hp:m.Perm m2):St bs (oF cf sz e m2 :: L) w :=
 St.pack _ _ ((St.unpack h).perm ((hp.map _).append_right _))
theorem St.Yu{p:Int×(Value×List α)}(h:St bs (oF cf sz e (p :: m) :: L) w):St bs (fM cf p.2.1 e sz p.2.2 :: oF cf sz e m :: L) w:=by
 have a:St bs (([fM cf p.2.1 e sz p.2.2]++m.map fun p=>fM cf p.2.1 e sz p.2.2)++L) w:=St.unpack h
 rw[nr]at a
 have b:=a.perm (L' := (m.map fun p=>fM cf p.2.1 e sz p.2.2)++([fM cf p.2.1 e sz p.2.2]++L)) (by
  rw[<-nr,<-nr]
  exact List.Perm.append_right _ rz)
 exact(St.pack _ _ b).swap
theorem St.V4{p:Int×(Value×List α)}(h:St bs (fM cf p.2.1 e sz p.2.2 :: oF cf sz e m :: L) w):St bs (oF cf sz e (p :: m) :: L) w:=by
 have a:St bs ((m.map fun p=>fM cf p.2.1 e sz p.2.2)++(fM cf p.2.1 e sz p.2.2 :: L)) w:=St.unpack h.swap
 refine St.pack _ _ (a.perm ?_)
 show List.Perm _ (fM cf p.2.1 e sz p.2.2 :: ((m.map fun p=>fM cf p.2.1 e sz p.2.2)++L))
 exact um
theorem St.Pu(a:Int)(h:St bs (oF cf sz e m :: L) w):St bs (fM cf (fT m a).1 e sz (fT m a).2 :: oF cf sz e (iJ m a) :: L) w:=by
 unfold fT
 cases hm:gU m a with
 | none =>
  rw[JS hm]
  exact St.EA h e sz
 | some x=>exact(h.Pr (FI hm)).Yu
theorem St.Pt{v:Value}{xs:List α}(h:St bs (fM cf v e sz xs :: oF cf sz e (iJ m a) :: L) w):St bs (oF cf sz e (gx m a (v,xs)) :: L) w :=
 (St.V4 (p:=(a,(v,xs))) h).Pr (C0 m a (v,xs)).symm
theorem St.Yv(h:St bs L w):St bs (oF cf sz e ([]:List (Int×(Value×List α))) :: L) w:=St.pack [] L h
end
end Go.Sx
namespace Go.Sx
open Go
structure jL where
 e:Nat
 d:Nat
instance:Inhabited jL:=⟨⟨0,0⟩⟩
def jL.cells(x:jL):List Value:=[.int .i64 x.e,.int .i64 x.d]
abbrev AM:=List (Int×(Value×List jL))
theorem Pv{m:AM}{N:Nat}(h:∀ c,(fT m c).2.length<=N)(a:Int)(v:Value)(x:jL):∀ c,(fT (gx m a (v,(fT m a).2++[x])) c).2.length<=N+1:=by
 intro c
 have d:=h a
 have b:=h c
 unfold fT
 rw[wB]
 split
 . show ((fT m a).2++[x]).length<=_
   rw[zt,zh,zm]
   omega
 . exact Nat.le_succ_of_le b
theorem Yy:∀ c,(fT ([]:AM) c).2.length<=0:=fun c=>zn 0
end Go.Sx
namespace Go.Sx
open Go
def qi(a b:Int):Int×Int:=if -9223372036854775808<=a+b/\a+b<=9223372036854775807 then(a+b,0)else(0,7)
theorem Ak{a b:Int}(h : -9223372036854775808<=a+b/\a+b<=9223372036854775807):qi a b=(a+b,0):=if_pos h
theorem Nk{a b:Int}(h:¬ (-9223372036854775808<=a+b/\a+b<=9223372036854775807)):qi a b=(0,7):=if_neg h
def rN(win now to:Int):Int:=if to<now then 10 else(qi to win).2
end Go.Sx
namespace Go.Sx
open Go
theorem Fo.top{xs:List Nd}{F:FT}(h:Fo xs F){j:Nat}(f:j≠0)(d:j<xs.length):∃ r,PR (gL (gr xs F)) j r:=by
 obtain⟨m,hd⟩:=h.dep d
 clear d
 induction hd with
 | zero=>exact absurd rfl f
 | @step T q j m c n t k s =>
  have hs:∀ v u,mG (gm xs false T) q v u->gL (gr xs F) v u:=fun v u hp=>⟨(gm xs false T,q),zz.2 ⟨(T,q),c,rfl⟩,hp⟩
  have o:=h.uZ c
  have hm:j∈gm xs false T:=(ni xs false T).mem_iff.2 n
  obtain⟨g, i⟩:∃ z,(gm xs false T).head? = some z:=by
   cases e:gm xs false T with
   | nil=>rw[e]at hm;simp at hm
   | cons z l=>exact⟨z,rfl⟩
  obtain⟨a,b⟩:=PR.Fi i o hs hm
  by_cases hq:q=0
  . exact⟨g, a hq⟩
  . obtain⟨r,p⟩:=s hq
    exact⟨r,b r hq p⟩
theorem Fo.Ju{xs:List Nd}{F:FT}(h:Fo xs F){j:Nat}(b:j≠0)(c:j<xs.length):Joined xs F j j:=by
 obtain⟨r,a⟩:=h.top b c
 exact⟨r,a,a⟩
section
variable {xs ys zs:List Nd} {F R R2:FT} {i j:Nat} {a b:Tr}
theorem Wl(m:Fo xs F)(n:Joined xs F i j)(h:ja xs F ys i a R)(k:ja (jy ys i) ((.nd a i .nil,0) :: R) zs j b R2)(hs:(fJ zs j).size=2):gm zs false (.nd b j .nil)=[i,j]:=by
 obtain⟨r,hi,o⟩:=n
 have d:=RK h.tM k (h.Qz o hi fun v u q f g=>m.nJ f g)
 have hv:=(k.fo.rep (.nd b j .nil,0) s_).2.2.1.size
 have e:=(ni zs false (.nd b j .nil)).length_eq
 have p:=k.seq
 rw[p]at e d ⊢
 have e1:((b.mem++j :: Tr.nil.mem).length:Int)=2:=by rw[<-hv];exact hs
 have c:(gm zs false b++[j]).length=2:=by
  rw[e]
  show (b.mem++j :: Tr.nil.mem).length=2
  omega
 cases hb:gm zs false b with
 | nil=>rw[hb]at c;simp at c
 | cons x l =>
  rw[hb]at c d
  cases l with
  | cons y l=>simp at c
  | nil =>
   simp at d
   subst d
   rfl
theorem aaM(f:Fo xs F)(h:ja xs F ys i a R)(k:ja (jy ys i) ((.nd a i .nil,0) :: R) zs j b R2)(t:¬ Joined xs F i j)(q:j≠0)(s:j<xs.length)(o:i≠0)(p:i<xs.length):∃ n,R2.Perm ((.nd a i .nil,0) :: n):=by
 rcases k.Bj (.nd a i .nil) s_ with ⟨c,_⟩|c
 . exact RM c
 . exfalso
   rw[h.tM.head]at c
   obtain⟨r,g⟩:=f.top q s
   obtain⟨m, l⟩:=f.top o p
   have w:r≠m := fun e=>t ⟨m, l, e▸g⟩
   obtain⟨x,p2⟩:=h.QA g l w fun v u z c d=>f.nJ c d
   have y:=k.top c (v:=j) (by simp[Tr.mem])
   have e:r=i:=PR.unique (P:=gL (gr (jy ys i) ((.nd a i .nil,0) :: R))) (fun v u z c d=>h.tM.fo.nJ c d) x y
   exact p2 (by rw[e];simp[Tr.mem])
end
theorem gf.lead{xs:List Nd}(h:gf xs){i:Nat}(hi:i<xs.length):gf (jy xs i):=h.iN hi fun x a b c d e=>⟨a,b,c,d,e⟩
theorem sQ(xs:List Nd)(i:Nat):(jy xs i).length=xs.length:=gB
end Go.Sx
namespace Go.Sx
open Go
theorem Rn{n k:Nat}(a:n<=1000000):gf (lB n k):=by
 have key:∀ i,i<n+1->fJ (lB n k) i=wC i\/fJ (lB n k) i=uQ:=fun i hi=>by
  rw[yE hi]
  split
  . exact .inl rfl
  . exact .inr rfl
 refine⟨fun i hi=>?_,fun i hi=>?_,fun i hi=>?_,fun i hi=>?_,fun i hi=>?_⟩<;>rw[sV]at * <;> rcases key i hi with e|e<;>rw[e]
 all_goals first
  | exact(by decide:gV .i64 0)
  | (simp only[wC,uQ];omega)
  | (show (-9223372036854775808:Int)<=0/\(0:Int)<=9223372036854775807;omega)
end Go.Sx
namespace Go.Sx
open Go
def Ad(S:rF)(i j:Nat):Prop:=i≠0/\j≠0/\(gL S i j\/gL S j i)
theorem Ad.symm{S:rF}{i j:Nat}:Ad S i j->Ad S j i:=fun⟨a,b,c⟩=>⟨b,a,c.symm⟩
theorem Ad.congr{S a : rF}(h:∀ v u,gL S v u↔gL a v u){i j:Nat}:Ad S i j↔Ad a i j:=by unfold Ad;rw[h,h]
theorem Dc{s:List Nat}{v u:Nat}(a:u≠0):mG s 0 v u↔∃ s1 s2,s=s1++u :: v :: s2:=by
 constructor
 . rintro⟨s1,s2,rfl,e⟩
   cases hl:s1.getLast? with
   | none=>rw[hl]at e;exact absurd e a
   | some x =>
    rw[hl]at e
    obtain⟨t,rfl⟩:=LK.1 hl
    exact⟨t,s2,by rw[show u=x from e];simp⟩
 . rintro⟨s1,s2,rfl⟩
   exact⟨s1++[u],s2,s_,s_⟩
theorem Rs{s:List Nat}{u v:Nat}:(∃ s1 s2,s.reverse=s1++u :: v :: s2)↔∃ s1 s2,s=s1++v :: u :: s2:=by
 constructor
 . rintro⟨s1,s2,e⟩
   have:=congrArg List.reverse e
   simp at this
   exact⟨s2.reverse,s1.reverse,this⟩
 . rintro⟨s1,s2,rfl⟩
   exact⟨s2.reverse,s1.reverse,s_⟩
theorem Ad.rev{s:List Nat}{R:rF}{i j:Nat}:Ad ((s.reverse,0) :: R) i j↔Ad ((s,0) :: R) i j:=by
 unfold Ad
 refine and_congr_right fun hi=>and_congr_right fun a=>?_
 simp only[gL.cons]
 rw[Dc a,Dc hi,Dc a,Dc hi,Rs,Rs]
 exact⟨fun h=>h.elim (fun h=>h.elim (fun h=>.inr (.inl h)) fun h=>.inl (.inr h)) fun h=>h.elim (fun h=>.inl (.inl h)) fun h=>.inr (.inr h),
  fun h=>h.elim (fun h=>h.elim (fun h=>.inr (.inl h)) fun h=>.inl (.inr h)) fun h=>h.elim (fun h=>.inl (.inl h)) fun h=>.inr (.inr h)⟩
section
variable {xs0 xs ys zs:List Nd} {F0 F R R2:FT} {i j:Nat} {a b:Tr}
theorem ja.ad(h:ja xs0 F0 ys i a R)(u v:Nat):Ad (gr ys ((.nd a i .nil,0) :: R)) u v↔Ad (gr xs0 F0) u v:=Ad.congr h.par
theorem ja.JJ(h:ja xs0 F0 ys i a R)(u v:Nat):Ad (gr (jy ys i) ((.nd a i .nil,0) :: R)) u v↔Ad (gr xs0 F0) u v:=by
 obtain⟨_,c,b,_⟩:=x8 h
 have d:gr (jy ys i) ((.nd a i .nil,0) :: R)=((gm ys false (.nd a i .nil)).reverse,0) :: gr ys R:=by
  simp only[gr,ko]at b ⊢;rw[c,b]
 rw[d,Ad.rev]
 exact h.ad u v
theorem D3.par(h:D3 ys i a R):gL (gr ys ((.nd a i .nil,0) :: R)) i 0:=by
 obtain⟨l,b⟩:∃ l,gm ys false (.nd a i .nil)=i :: l:=by
  have:=h.head
  cases e:gm ys false (.nd a i .nil)with
  | nil=>rw[e]at this;simp at this
  | cons x l=>rw[e]at this;simp at this;exact⟨l,by rw[this]⟩
 exact⟨(gm ys false (.nd a i .nil),0),by simp[gr],[],l,by rw[b];rfl,rfl⟩
theorem UL(h:ja xs F ys i a R)(k:ja (jy ys i) ((.nd a i .nil,0) :: R) zs j b R2)(l:Ad (gr xs F) i j):gm zs false (.nd b j .nil)=[i,j]:=by
 obtain⟨i0,p,hp⟩:=(h.JJ i j).2 l
 have d:=h.tM
 have g:=d.par
 have r:gL (gr (jy ys i) ((.nd a i .nil,0) :: R)) j i:=hp.resolve_left fun q=>p (d.fo.nJ q g)
 have u:=(k.par j i).2 r
 have t:=(k.par i 0).2 g
 have o:gL (gr zs ((.nd b j .nil,0) :: R2)) j ((gm zs false b).getLast?.getD 0):=⟨(gm zs false (.nd b j .nil),0),by simp[gr],gm zs false b,[],k.seq,rfl⟩
 have c:=k.fo.nJ o u
 have m:(gm zs false b).getLast? = some i:=by
  cases d:(gm zs false b).getLast? with
  | none=>rw[d]at c;exact absurd c.symm i0
  | some x=>rw[d]at c;simp only[zM]at c;rw[c]
 obtain⟨s,f⟩:=LK.1 m
 have hv:gL (gr zs ((.nd b j .nil,0) :: R2)) i (s.getLast?.getD 0):=⟨(gm zs false (.nd b j .nil),0),by simp[gr],s,[j],by rw[k.seq,f];simp,rfl⟩
 have e:=k.fo.nJ hv t
 have n:s=[]:=by
  cases hl2:s.getLast? with
  | none=>exact Hh.1 hl2
  | some x =>
   rw[hl2]at e
   simp only[zM]at e
   exact absurd e (k.fo.uZ (T:=.nd b j .nil) (q:=0) s_ x (by rw[k.seq,f];simp[By hl2]))
 rw[k.seq,f,n]
 rfl
theorem UK(h:ja xs F ys i a R)(k:ja (jy ys i) ((.nd a i .nil,0) :: R) zs j b R2)(e:Ad (gr xs F) i j):(fJ zs j).size=2:=by
 have d:=UL h k e
 have hv:=(k.fo.rep (.nd b j .nil,0) s_).2.2.1.size
 have c:=(ni zs false (.nd b j .nil)).length_eq
 rw[d]at c
 have:(b.mem++j :: Tr.nil.mem).length=2:=c.symm
 rw[hv,this]
 rfl
theorem Sn{xs:List Nd}{i k:Nat}(hi:i<xs.length):lR xs (lJ xs i k) i:=by
 unfold lJ
 have key:∀ (y:List Nd),i<y.length->∀ (f:Nd->Nd),(∀ x,∃ s t g,f x={ x with size:=s,total:=t,first:=g })->lR y (fO y i f) i:=fun y h f c=>by
  obtain⟨s,t,g,e⟩:=c (fJ y i)
  exact⟨gB,fun j d=>jQ (fun e=>d e.symm),s,t,g,by rw[jS h,e]⟩
 split
 . exact .refl _ _
 . have b:=key xs hi (fun x=>{ x with size:=IntKind.i64.wrap (x.size+(fJ xs k).size) }) fun x=>⟨_,_,_,rfl⟩
   have a:=b.trans (key _ (by rw[gB];exact hi) (fun x=>{ x with total:=IntKind.i64.wrap (x.total+(fJ (fO xs i (fun x=>{ x with size:=IntKind.i64.wrap (x.size+(fJ xs k).size) })) k).total) }) fun x=>⟨_,_,_,rfl⟩)
   dsimp only
   split
   . exact a.trans (key _ (by rw[gB,gB];exact hi) _ fun x=>⟨_,_,_,rfl⟩)
   . exact a
theorem Kz{xs:List Nd}{i:Nat}(hi:i<xs.length):lR xs (iH xs i) i:=by
 unfold iH
 have b:lR xs (fO xs i (fun x=>{ x with size:=1,first:=i,total:=IntKind.i64.wrap (1+x.iL) })) i:=⟨gB,fun j c=>jQ (fun e=>c e.symm),_,_,_,jS hi⟩
 have a:=b.trans (Sn (k:=(fJ xs i).k0) (by rw[gB];exact hi))
 exact a.trans (Sn (by rw[a.len];exact hi))
theorem lR.fk{xs ys:List Nd}(h:lR xs ys i)(k:Nat):(fJ ys k).flip=(fJ xs k).flip/\(fJ ys k).key=(fJ xs k).key:=by
 by_cases e:k=i
 . subst e
   obtain⟨s,t,f,e⟩:=h.here
   rw[e]
   exact⟨rfl,rfl⟩
 . rw[h.other k e]
   exact⟨rfl,rfl⟩
theorem GK{xs:List Nd}{f:Nd->Nd}(hi:i<xs.length)(a:∀ x,(f x).flip=x.flip/\(f x).key=x.key)(k:Nat):(fJ (fO xs i f) k).flip=(fJ xs k).flip/\(fJ (fO xs i f) k).key=(fJ xs k).key:=by
 by_cases e:i=k
 . subst e
   rw[jS hi]
   exact a _
 . rw[jQ e]
   exact⟨rfl,rfl⟩
theorem QD{zs:List Nd}{a b:Nat}(g:a<zs.length)(hb:b<zs.length)(k:Nat):(fJ (lq zs a b) k).flip=(fJ zs k).flip/\(fJ (lq zs a b) k).key=(fJ zs k).key:=by
 unfold lq
 have c:=Kz (xs:=fO (fO zs a (fun x=>{ x with up:=b })) b (fun x=>{ x with iL:=IntKind.i64.wrap (x.iL+(fJ (fO zs a (fun x=>{ x with up:=b })) a).total) })) (i:=b) (by rw[gB,gB];exact hb)
 have d:=GK (xs:=fO zs a (fun x=>{ x with up:=b })) (i:=b) (f:=fun x=>{ x with iL:=IntKind.i64.wrap (x.iL+(fJ (fO zs a (fun x=>{ x with up:=b })) a).total) }) (by rw[gB];exact hb) (fun x=>⟨rfl,rfl⟩) k
 have e:=GK (xs:=zs) (i:=a) (f:=fun x=>{ x with up:=b }) g (fun x=>⟨rfl,rfl⟩) k
 exact⟨(c.fk k).1.trans (d.1.trans e.1),(c.fk k).2.trans (d.2.trans e.2)⟩
theorem TR{us:List Nd}{i j:Nat}(hi:i<us.length)(d:j<us.length)(k:Nat):(fJ (nQ us i j) k).flip=(fJ us k).flip/\(fJ (nQ us i j) k).key=(fJ us k).key:=by
 unfold nQ
 have a:=Kz (xs:=fO (fO us i (fun x=>{ x with up:=0 })) j (fun x=>{ x with k0:=0 })) (i:=j) (by rw[gB,gB];exact d)
 have b:=GK (xs:=fO us i (fun x=>{ x with up:=0 })) (i:=j) (f:=fun x=>{ x with k0:=0 }) (by rw[gB];exact d) (fun x=>⟨rfl,rfl⟩) k
 have c:=GK (xs:=us) (i:=i) (f:=fun x=>{ x with up:=0 }) hi (fun x=>⟨rfl,rfl⟩) k
 exact⟨(a.fk k).1.trans (b.1.trans c.1),(a.fk k).2.trans (b.2.trans c.2)⟩
theorem SU{ys:List Nd}{i:Nat}{c:Int}(hi:i<ys.length)(k:Nat):(fJ (qY ys i c) k).flip=(fJ ys k).flip/\(fJ (qY ys i c) k).key=if k=i then c else(fJ ys k).key:=by
 unfold qY
 have a:=Kz (xs:=fO ys i (fun x=>{ x with key:=c })) (i:=i) (by rw[gB];exact hi)
 refine⟨(a.fk k).1.trans ?_,(a.fk k).2.trans ?_⟩
 all_goals
  by_cases e:k=i
  . subst e
    simp[jS hi]
  . simp[jQ (fun h=>e h.symm:i≠k),e]
theorem aaI{d:FT}(h:Fo zs ((.nd b j .nil,0) :: (.nd a i .nil,0) :: d))(hd:(gm zs false (.nd a i .nil)).head? = some i)(u v:Nat) :
 Ad (gr (lq zs i j) ((.nd b j .nil,0) :: (.nd a i .nil,j) :: d)) u v↔Ad (gr zs ((.nd b j .nil,0) :: (.nd a i .nil,0) :: d)) u v\/(u=i/\v=j)\/(u=j/\v=i):=by
 have o:=h.rep (.nd b j .nil,0) s_
 have n:=h.rep (.nd a i .nil,0) s_
 have w:=fun k=>(QD (zs:=zs) (a:=i) (b:=j) n.1.2 o.1.2 k).1
 have m:∀ t,gm (lq zs i j) false t=gm zs false t:=fun t=>qZ fun k _=>w k
 have s:gr (lq zs i j) d=gr zs d:=by
  unfold gr
  exact zK fun e _=>by rw[m]
 obtain⟨l,p⟩:∃ l,gm zs false (.nd a i .nil)=i :: l:=by
  cases e:gm zs false (.nd a i .nil)with
  | nil=>rw[e]at hd;simp at hd
  | cons x l=>rw[e]at hd;simp at hd;exact⟨l,by rw[hd]⟩
 have e1:gr (lq zs i j) ((.nd b j .nil,0) :: (.nd a i .nil,j) :: d)=(gm zs false (.nd b j .nil),0) :: (i :: l,j) :: gr zs d:=by
  show (gm (lq zs i j) false (.nd b j .nil),0) :: (gm (lq zs i j) false (.nd a i .nil),j) :: gr (lq zs i j) d=_
  rw[m,m,p,s]
 have r:gr zs ((.nd b j .nil,0) :: (.nd a i .nil,0) :: d)=(gm zs false (.nd b j .nil),0) :: (i :: l,0) :: gr zs d:=by
  show (gm zs false (.nd b j .nil),0) :: (gm zs false (.nd a i .nil),0) :: gr zs d=_
  rw[p]
 rw[e1,r]
 unfold Ad
 simp only[gL.cons,qq]
 have i0:=n.1.1
 have q:=o.1.1
 constructor
 . rintro⟨f,g,c⟩
   rcases c with (c|(⟨rfl,rfl⟩|c)|c)|(c|(⟨rfl,rfl⟩|c)|c)
   . exact .inl ⟨f,g,.inl (.inl c)⟩
   . exact .inr (.inl ⟨rfl,rfl⟩)
   . exact .inl ⟨f,g,.inl (.inr (.inl (.inr c)))⟩
   . exact .inl ⟨f,g,.inl (.inr (.inr c))⟩
   . exact .inl ⟨f,g,.inr (.inl c)⟩
   . exact .inr (.inr ⟨rfl,rfl⟩)
   . exact .inl ⟨f,g,.inr (.inr (.inl (.inr c)))⟩
   . exact .inl ⟨f,g,.inr (.inr (.inr c))⟩
 . rintro(⟨f,g,c⟩|⟨rfl,rfl⟩|⟨rfl,rfl⟩)
   . refine⟨f,g,?_⟩
     rcases c with (c|(⟨_,c⟩|c)|c)|(c|(⟨_,c⟩|c)|c)
     . exact .inl (.inl c)
     . exact absurd c g
     . exact .inl (.inr (.inl (.inr c)))
     . exact .inl (.inr (.inr c))
     . exact .inr (.inl c)
     . exact absurd c f
     . exact .inr (.inr (.inl (.inr c)))
     . exact .inr (.inr (.inr c))
   . exact⟨i0,q,.inl (.inr (.inl (.inl ⟨rfl,rfl⟩)))⟩
   . exact⟨q,i0,.inr (.inr (.inl (.inl ⟨rfl,rfl⟩)))⟩
theorem Wa{us:List Nd}(h:Fo us ((.nd (.nd .nil i .nil) j .nil,0) :: R))(hs:gm us false (.nd (.nd .nil i .nil) j .nil)=[i,j])(u v:Nat) :
 Ad (gr (nQ us i j) ((.nd .nil i .nil,0) :: (.nd .nil j .nil,0) :: R)) u v↔Ad (gr us ((.nd (.nd .nil i .nil) j .nil,0) :: R)) u v/\¬ ((u=i/\v=j)\/(u=j/\v=i)):=by
 have o:=h.rep (.nd (.nd .nil i .nil) j .nil,0) s_
 have r:=fun k=>(TR (us:=us) (i:=i) (j:=j) o.2.2.2.1.1.2 o.1.2 k).1
 have l:∀ t,gm (nQ us i j) false t=gm us false t:=fun t=>qZ fun k _=>r k
 have p:gr (nQ us i j) R=gr us R:=by
  unfold gr
  exact zK fun e _=>by rw[l]
 have one:∀ k,gm us false (.nd .nil k .nil)=[k]:=fun k=>by simp only[gm];cases (fJ us k).flip<;>rfl
 have e1:gr (nQ us i j) ((.nd .nil i .nil,0) :: (.nd .nil j .nil,0) :: R)=([i],0) :: ([j],0) :: gr us R:=by
  show (gm (nQ us i j) false (.nd .nil i .nil),0) :: (gm (nQ us i j) false (.nd .nil j .nil),0) :: gr (nQ us i j) R=_
  rw[l,l,one,one,p]
 have m:gr us ((.nd (.nd .nil i .nil) j .nil,0) :: R)=([i,j],0) :: gr us R:=by
  show (gm us false (.nd (.nd .nil i .nil) j .nil),0) :: gr us R=_
  rw[hs]
 have d:=Gj (xs:=us) h.nodup
 rw[m]at d
 have f:∀ x y,(x=i\/x=j)->¬ gL (gr us R) x y:=fun x y s ⟨e,q,hp⟩=>by
  have b:=tQ hp
  simp only[uS,zy,zr]at d
  exact d.2.2 x (by rcases s with rfl|rfl<;>simp) x (qx.2 ⟨e,q,b⟩) rfl
 have w:i≠j:=by
  simp only[uS,zy,zr]at d
  intro e
  subst e
  simp at d
 rw[e1,m]
 unfold Ad
 simp only[gL.cons,qq,Db,or_false]
 constructor
 . rintro⟨b,c,a⟩
   rcases a with (⟨_,a⟩|⟨_,a⟩|a)|(⟨_,a⟩|⟨_,a⟩|a)
   . exact absurd a c
   . exact absurd a c
   . refine⟨⟨b,c,.inl (.inr a)⟩,?_⟩
     rintro(⟨rfl,rfl⟩|⟨rfl,rfl⟩)
     . exact f _ _ (.inl rfl) a
     . exact f _ _ (.inr rfl) a
   . exact absurd a b
   . exact absurd a b
   . refine⟨⟨b,c,.inr (.inr a)⟩,?_⟩
     rintro(⟨rfl,rfl⟩|⟨rfl,rfl⟩)
     . exact f _ _ (.inr rfl) a
     . exact f _ _ (.inl rfl) a
 . rintro⟨⟨b,c,a⟩,n⟩
   refine⟨b,c,?_⟩
   rcases a with ((⟨_,a⟩|⟨a,g⟩)|a)|((⟨_,a⟩|⟨a,g⟩)|a)
   . exact absurd a c
   . exact absurd (.inr ⟨a,g⟩) n
   . exact .inl (.inr (.inr a))
   . exact absurd a b
   . exact absurd (.inl ⟨g,a⟩) n
   . exact .inr (.inr (.inr a))
end
end Go.Sx
namespace Go.Sx
open Go
structure QS where
 iv:Value
 pv:Value
 ps:List (Option Nat)
 fP:List gG
 pl:List Nat
structure QS.ok (n:Nat) (s:QS):Prop where
 hp:Hp n s.fP s.pl
 gH:jw n s.ps s.pl
 ord:Ord s.fP
theorem QS.ok.free{n:Nat}{s:QS}(h:s.ok n){i:Nat}(hi:i<n)(d:∀ e∈s.fP,e.ix≠i):fJ s.pl i=0:=by
 rcases uf (fJ s.pl i)with a|a
 . exact a
 . obtain⟨b,c⟩:=h.hp.of i (fJ s.pl i-1) hi o_
   exact absurd c (d _ (qR.2 ⟨_,b,rfl⟩))
theorem QS.ok.lt{n:Nat}{s:QS}(h:s.ok n){e:gG}(a:e∈s.fP):e.ix<n:=by
 obtain⟨p,hp,rfl⟩:=qR.1 a
 exact h.hp.ix p hp
theorem QS.ok.inj{n:Nat}{s:QS}(h:s.ok n){e f:gG}(a:e∈s.fP)(b:f∈s.fP)(d:e.ix=f.ix):e=f:=by
 obtain⟨p,hp,rfl⟩:=qR.1 a
 obtain⟨q,c,rfl⟩:=qR.1 b
 rw[h.hp.inj hp c d]
structure ur (s0 s:List gG) (ds:List Nat) (now:Int):Prop where
 rest:∀ e,e∈s↔e∈s0/\e.ix∉ds
 Ji:∀ i∈ds,∃ e∈s0,e.ix=i/\e.key<=now
 nd:ds.Nodup
 len:s.length+ds.length=s0.length
theorem ur.start(s:List gG)(now:Int):ur s s [] now:=⟨fun e=>by simp,fun i hi=>by simp at hi,zN,s_⟩
theorem ur.step{s0 s s1:List gG}{ds:List Nat}{now:Int}(h:ur s0 s ds now)(f:0<s.length)(hk:(fJ s 0).key<=now)(hm:∀ e,e∈s1↔e∈s/\e.ix≠(fJ s 0).ix)(k:s1.length+1=s.length):ur s0 s1 (ds++[(fJ s 0).ix]) now:=by
 have j:fJ s 0∈s:=qR.2 ⟨0,f,rfl⟩
 have d:=(h.rest _).1 j
 refine⟨fun e=>?_,fun i hi=>?_,?_,?_⟩
 . rw[hm,h.rest,zp,z8,not_or,and_assoc]
 . rcases zp.1 hi with c|c
   . exact h.Ji i c
   . rw[z8]at c
     subst c
     exact⟨_,d.1,rfl,hk⟩
 . refine zr.2 ⟨h.nd,s_,?_⟩
   intro a g b hb
   rw[z8]at hb
   subst hb
   rintro rfl
   exact d.2 g
 . have:=h.len
   rw[zt]
   simp
   omega
structure p5 (n:Nat) (s0 s:QS) (ds:List Nat) (now:Int):Prop where
 ok:s.ok n
 rest:∀ e,e∈s.fP↔e∈s0.fP/\now<e.key
 out:∀ i,i∈ds↔∃ e∈s0.fP,e.ix=i/\e.key<=now
 nd:ds.Nodup
 len:ds.length<=n
theorem ur.fin{n:Nat}{s0 s:QS}{ds:List Nat}{now:Int}(h:ur s0.fP s.fP ds now)(d:s0.ok n)(h1:s.ok n)(hd:s.fP.length=0\/now<(fJ s.fP 0).key):p5 n s0 s ds now:=by
 have g:∀ e∈s.fP,now<e.key:=by
  intro e a
  rcases hd with c|c
  . rw[BD]at c;rw[c]at a;simp at a
  . have:=h1.ord.min a
    unfold iC at this
    omega
 have m:∀ e,e∈s.fP↔e∈s0.fP/\now<e.key:=by
  intro e
  constructor
  . intro a;exact⟨((h.rest e).1 a).1,g e a⟩
  . rintro⟨a,l⟩
    refine(h.rest e).2 ⟨a,fun b=>?_⟩
    obtain⟨f,j,k,o⟩:=h.Ji _ b
    have:=d.inj a j k.symm
    subst this
    omega
 refine⟨h1,m,fun i=>⟨h.Ji i,?_⟩,h.nd,?_⟩
 . rintro⟨e,a,rfl,l⟩
   by_cases b:e.ix∈ds
   . exact b
   . have:=g e ((h.rest e).2 ⟨a,b⟩)
     omega
 . have:=h.len
   have:=d.hp.len
   omega
end Go.Sx
namespace Go.Sx
open Go
structure Ed where
 a:Nat
 b:Nat
 exp:Int
 tree:Bool
 deriving Inhabited
def Ed.enc(e:Ed):Value:=.agg #[.int .i64 (e.a:Int),.int .i64 (e.b:Int),.int .i64 e.exp,.bool e.tree]
structure GW where
 fb:Nat
 nb:Nat
 hb:Nat
 mb:Nat
 trees:Int
 q:QS
 m:List (Int×Ed)
structure Ed.In (fN:Nat) (e:Ed):Prop where
 a:e.a<fN
 b:e.b<fN
 exp:gV .i64 e.exp
structure GW.ok (fN fL:Nat) (g:GW):Prop where
 v2:2<=fN
 vn:fN<=4096
 en:fL<=16384
 ed:∀ p∈g.m,p.2.In fN
theorem GW.ok.get{fN fL:Nat}{g:GW}(h:g.ok fN fL)(k:Int):(fT g.m k).In fN:=by
 unfold fT
 cases hm:gU g.m k with
 | none=>exact⟨ou d_ h.v2,ou d_ h.v2,⟨d_,d_⟩⟩
 | some x=>exact h.ed _ (QM hm)
theorem GW.ok.put{fN fL:Nat}{g:GW}(h:g.ok fN fL){k:Int}{e:Ed}(b:e.In fN){fb nb hb mb:Nat}{c:Int}{q:QS}:GW.ok fN fL ⟨fb,nb,hb,mb,c,q,gx g.m k e⟩ :=
 ⟨h.v2,h.vn,h.en,fun p hp=>by
  rcases zg.1 ((C0 g.m k e).mem_iff.1 hp)with rfl|a
  . exact b
  . exact h.ed p ((CY g.m k).subset a)⟩
theorem GW.ok.del{fN fL:Nat}{g:GW}(h:g.ok fN fL){k:Int}{fb nb hb mb:Nat}{a:Int}{q:QS}:GW.ok fN fL ⟨fb,nb,hb,mb,a,q,iJ g.m k⟩ :=
 ⟨h.v2,h.vn,h.en,fun p hp=>h.ed p ((CY g.m k).subset hp)⟩
theorem GW.ok.same{fN fL:Nat}{g:GW}(h:g.ok fN fL){fb nb hb mb:Nat}{a:Int}{q:QS}:GW.ok fN fL ⟨fb,nb,hb,mb,a,q,g.m⟩:=⟨h.v2,h.vn,h.en,h.ed⟩
end Go.Sx
namespace Go.Sx
open Go
inductive Cn (A:Nat->Nat->Prop):Nat->Nat->Prop where
 | refl (i:Nat):Cn A i i
 | step {i j k:Nat} (h:A i j) (t:Cn A j k):Cn A i k
section
variable {A B:Nat->Nat->Prop} {i j k:Nat}
theorem Cn.one(h:A i j):Cn A i j:=.step h (.refl _)
theorem Cn.trans(h:Cn A i j)(t:Cn A j k):Cn A i k:=by
 induction h with
 | refl=>exact t
 | step h _ a=>exact .step h (a t)
theorem Cn.symm(hs:∀ i j,A i j->A j i)(h:Cn A i j):Cn A j i:=by
 induction h with
 | refl=>exact .refl _
 | step h _ a=>exact a.trans (.one (hs _ _ h))
theorem Cn.bind(h:∀ i j,A i j->Cn B i j)(t:Cn A i j):Cn B i j:=by
 induction t with
 | refl=>exact .refl _
 | step a _ b=>exact(h _ _ a).trans b
theorem Cn.mono(h:∀ i j,A i j->B i j)(t:Cn A i j):Cn B i j:=t.bind fun i j a=>.one (h i j a)
def kz(A:Nat->Nat->Prop):List Nat->Prop
 | []=>True
 | [_]=>True
 | x :: y :: l=>A x y/\kz A (y :: l)
theorem kz.tail{x:Nat}{l:List Nat}(h:kz A (x :: l)):kz A l:=by
 cases l with
 | nil=>trivial
 | cons y l=>exact h.2
theorem kz.right:∀ {s t:List Nat},kz A (s++t)->kz A t
 | [],_,h=>h
 | x :: s,t,h=>kz.right (s:=s) (kz.tail h)
theorem kz.left:∀ {s t:List Nat},kz A (s++t)->kz A s
 | [],_,_=>trivial
 | [x],_,_=>trivial
 | x :: y :: s,t,h=>⟨h.1,kz.left (s:=y :: s) h.2⟩
theorem kz.mid{x y:Nat}:∀ {s t:List Nat},kz A (s++x :: y :: t)->A x y
 | [],_,h=>h.1
 | [z],_,h=>h.2.1
 | z :: z2 :: s,t,h=>kz.mid (s:=z2 :: s) h.2
theorem kz.cn{φ:Nat->Nat}:∀ {p:List Nat},kz A p->(∀ s x y t,p=s++x :: y :: t->A x y->Cn B (φ x) (φ y))->∀ {a b:Nat},p.head? = some a->p.getLast? = some b->Cn B (φ a) (φ b)
 | [],_,_,a,b,h,_=>by simp at h
 | [x],_,_,a,b,h,h2=>by simp at h h2;subst h h2;exact .refl _
 | x :: y :: l,hp,hs,a,b,h,h2=>by
  simp at h
  subst h
  have c:(y :: l).getLast? = some b:=by rw[<-h2];simp[List.getLast?_cons_cons]
  exact(hs [] _ y l rfl hp.1).trans (kz.cn hp.2 (fun s u v t e=>hs (x :: s) u v t (by rw[e];rfl)) rfl c)
end
def nD(t1:Int)(t2:Nat)(e1:Int)(a:Nat):Prop:=t1<e1\/(t1=e1/\t2<=a)
abbrev EM:=Nat->Option Ed
def EM.set(E:EM)(k:Nat)(x:Option Ed):EM:=fun j=>if j=k then x else E j
def ends(e:Ed)(u v:Nat):Prop:=(u=e.a/\v=e.b)\/(u=e.b/\v=e.a)
def Ea(E:EM)(t1:Int)(t2:Nat)(u v:Nat):Prop:=∃ k e,E k=some e/\nD t1 t2 e.exp k/\ends e u v
def Et(E:EM)(t1:Int)(t2:Nat)(u v:Nat):Prop:=∃ k e,E k=some e/\e.tree=true/\nD t1 t2 e.exp k/\ends e u v
def Eo(E:EM)(k:Nat)(u v:Nat):Prop:=∃ j e,j≠k/\E j=some e/\e.tree=true/\ends e u v
theorem ends.symm{e:Ed}{u v:Nat}:ends e u v->ends e v u:=fun h=>h.elim (fun⟨a,b⟩=>.inr ⟨b,a⟩) fun⟨a,b⟩=>.inl ⟨b,a⟩
theorem Eo.symm{E:EM}{k u v:Nat}:Eo E k u v->Eo E k v u:=fun⟨j,e,a,b,c,d⟩=>⟨j,e,a,b,c,d.symm⟩
theorem Cn.more{A:Nat->Nat->Prop}{a b i j:Nat}(h:Cn (fun i j=>A i j\/(i=a/\j=b)\/(i=b/\j=a)) i j):Cn A i j\/(Cn A i a/\Cn A b j)\/(Cn A i b/\Cn A a j):=by
 induction h with
 | refl=>exact .inl (.refl _)
 | step s _ c =>
  rcases s with s|⟨rfl,rfl⟩|⟨rfl,rfl⟩
  . exact c.imp (fun h=>.step s h) fun h=>h.imp (fun h=>⟨.step s h.1,h.2⟩) fun h=>⟨.step s h.1,h.2⟩
  . rcases c with h|h|h
    . exact .inr (.inl ⟨.refl _,h⟩)
    . exact .inr (.inl ⟨.refl _,h.2⟩)
    . exact .inl h.2
  . rcases c with h|h|h
    . exact .inr (.inr ⟨.refl _,h⟩)
    . exact .inl h.2
    . exact .inr (.inr ⟨.refl _,h.2⟩)
def sS:Int:=9223372036854775807
def nG(fL k:Nat)(e:Ed)(i j:Nat):Prop:=(i=k/\(j=fL+e.a\/j=fL+e.b))\/(j=k/\(i=fL+e.a\/i=fL+e.b))
structure iB (fN fL:Nat) (E:EM) (A:Nat->Nat->Prop) (key:Nat->Int):Prop where
 lo:∀ k e,E k=some e->k<fL/\e.a<fN/\e.b<fN/\e.a≠e.b/\e.exp<=sS
 jT:∀ i j,A i j↔∃ k e,E k=some e/\e.tree=true/\nG fL k e i j
 kv:∀ v,v<fN->key (fL+v)=sS
 ks:∀ k e,E k=some e->e.tree=true->key k=e.exp
 C1:∀ t1 t2 u v,Ea E t1 t2 u v->Cn (Et E t1 t2) u v
 vR:∀ k e,E k=some e->e.tree=true->¬ Cn (Eo E k) e.a e.b
theorem Et.symm{E:EM}{t1:Int}{t2 u v:Nat}:Et E t1 t2 u v->Et E t1 t2 v u:=fun⟨k,e,c,d,f,g⟩=>⟨k,e,c,d,f,g.elim (fun⟨a,b⟩=>.inr ⟨b,a⟩) fun⟨a,b⟩=>.inl ⟨b,a⟩⟩
section
variable {fN fL:Nat} {E:EM} {A:Nat->Nat->Prop} {key:Nat->Int}
def rp(fL:Nat)(E:EM)(i:Nat):Nat:=if i<fL then((E i).getD default).a else i-fL
theorem ng{v:Nat}:rp fL E (fL+v)=v:=by unfold rp;rw[if_neg o_];omega
theorem rZ{k:Nat}{e:Ed}(h:E k=some e)(hk:k<fL):rp fL E k=e.a:=by unfold rp;rw[if_pos hk,h];rfl
theorem iB.step(h:iB fN fL E A key){t1:Int}{t2 i j:Nat}{E2:EM}(l:A i j)(f:∀ k e,E k=some e->e.tree=true->(k=i\/k=j)->Et E2 t1 t2 e.a e.b):Cn (Et E2 t1 t2) (rp fL E i) (rp fL E j):=by
 obtain⟨k,e,c,g,m⟩:=(h.jT i j).1 l
 have d:=h.lo k e c
 rcases m with ⟨rfl,rfl|rfl⟩|⟨rfl,rfl|rfl⟩
 . rw[ng,rZ c d.1];exact .refl _
 . rw[ng,rZ c d.1];exact .one (f _ e c g (.inl rfl))
 . rw[ng,rZ c d.1];exact .refl _
 . rw[ng,rZ c d.1];exact .one (f _ e c g (.inr rfl)).symm
theorem iB.aeJ(h:iB fN fL E A key){B:Nat->Nat->Prop}{i j:Nat}(l:A i j)(f:∀ k e,E k=some e->e.tree=true->(k=i\/k=j)->B e.a e.b/\B e.b e.a):Cn B (rp fL E i) (rp fL E j):=by
 obtain⟨k,e,c,g,m⟩:=(h.jT i j).1 l
 have d:=h.lo k e c
 rcases m with ⟨rfl,rfl|rfl⟩|⟨rfl,rfl|rfl⟩
 . rw[ng,rZ c d.1];exact .refl _
 . rw[ng,rZ c d.1];exact .one (f _ e c g (.inl rfl)).1
 . rw[ng,rZ c d.1];exact .refl _
 . rw[ng,rZ c d.1];exact .one (f _ e c g (.inr rfl)).2
theorem iB.Yg(h:iB fN fL E A key){B:Nat->Nat->Prop}(d:∀ u v,B u v->∃ k e,E k=some e/\e.tree=true/\ends e u v){u v:Nat}(t:Cn B u v):Cn A (fL+u) (fL+v):=by
 induction t with
 | refl=>exact .refl _
 | step b _ g =>
  refine Cn.trans ?_ g
  obtain⟨k,e,a,c,f⟩:=d _ _ b
  rcases f with ⟨rfl,rfl⟩|⟨rfl,rfl⟩
  . exact .step ((h.jT _ _).2 ⟨k,e,a,c,.inr ⟨rfl,.inl rfl⟩⟩) (.one ((h.jT _ _).2 ⟨k,e,a,c,.inl ⟨rfl,.inr rfl⟩⟩))
  . exact .step ((h.jT _ _).2 ⟨k,e,a,c,.inr ⟨rfl,.inr rfl⟩⟩) (.one ((h.jT _ _).2 ⟨k,e,a,c,.inl ⟨rfl,.inl rfl⟩⟩))
theorem iB.tY(h:iB fN fL E A key){i j:Nat}(a:A i j):A j i:=by
 obtain⟨k,e,b,d,c⟩:=(h.jT i j).1 a
 exact(h.jT j i).2 ⟨k,e,b,d,c.symm⟩
theorem iB.two(h:iB fN fL E A key){u v:Nat}{t1:Int}{t2:Nat}(c:Et E t1 t2 u v):Cn A (fL+u) (fL+v):=by
 obtain⟨k,e,a,b,_,d⟩:=c
 rcases d with ⟨rfl,rfl⟩|⟨rfl,rfl⟩
 . exact .step ((h.jT _ _).2 ⟨k,e,a,b,.inr ⟨rfl,.inl rfl⟩⟩) (.one ((h.jT _ _).2 ⟨k,e,a,b,.inl ⟨rfl,.inr rfl⟩⟩))
 . exact .step ((h.jT _ _).2 ⟨k,e,a,b,.inr ⟨rfl,.inr rfl⟩⟩) (.one ((h.jT _ _).2 ⟨k,e,a,b,.inl ⟨rfl,.inl rfl⟩⟩))
theorem iB.afr(h:iB fN fL E A key){u v:Nat}{t1:Int}{t2:Nat}(b:Cn (Et E t1 t2) u v):Cn A (fL+u) (fL+v):=by
 induction b with
 | refl=>exact .refl _
 | step a _ c=>exact(h.two a).trans c
def vC(E:EM)(u v:Nat):Prop:=∃ k e,E k=some e/\ends e u v
theorem iB.conn(h:iB fN fL E A key){u v:Nat}:Cn A (fL+u) (fL+v)↔Cn (vC E) u v:=by
 constructor
 . intro d
   have key:∀ i j,Cn A i j->Cn (vC E) (rp fL E i) (rp fL E j):=fun i j t=>by
    induction t with
    | refl=>exact .refl _
    | @step i j k a _ g =>
     refine Cn.trans ?_ g
     obtain⟨k,e,b,l,f⟩:=(h.jT i j).1 a
     have c:=h.lo k e b
     rcases f with ⟨rfl,rfl|rfl⟩|⟨rfl,rfl|rfl⟩
     . rw[ng,rZ b c.1];exact .refl _
     . rw[ng,rZ b c.1];exact .one ⟨_,e,b,.inl ⟨rfl,rfl⟩⟩
     . rw[ng,rZ b c.1];exact .refl _
     . rw[ng,rZ b c.1];exact .one ⟨_,e,b,.inr ⟨rfl,rfl⟩⟩
   have:=key _ _ d
   rw[ng,ng]at this
   exact this
 . intro d
   induction d with
   | refl=>exact .refl _
   | @step u v w a _ g =>
    refine Cn.trans ?_ g
    obtain⟨k,e,b,f⟩:=a
    exact h.afr (h.C1 e.exp k u v ⟨k,e,b,.inr ⟨rfl,zn _⟩,f⟩)
theorem nD.trans{a c e:Int}{b d f:Nat}(h:nD a b c d)(k:nD c d e f):nD a b e f:=by unfold nD at *;omega
structure Pm (A:Nat->Nat->Prop) (key:Nat->Int) (i j f:Nat) (q:List Nat):Prop where
 head:q.head? = some i
 last:q.getLast? = some j
 nd:q.Nodup
 uW:kz A q
 mem:f∈q
 min:∀ x∈q,x=f\/key f<key x\/(key f=key x/\f<x)
abbrev sH(fL:Nat)(A:Nat->Nat->Prop)(key:Nat->Int)(a b f:Nat)(q:List Nat):Prop:=Pm A key (fL+a) (fL+b) f q
variable {a b f:Nat} {q:List Nat}
theorem sH.nb(p:sH fL A key a b f q)(g:a≠b){x:Nat}(e:x∈q):∃ y∈q,A x y\/A y x:=by
 obtain⟨s,t,rfl⟩:=BG e
 cases t with
 | cons y t=>exact⟨y,s_,.inl p.uW.mid⟩
 | nil =>
  rcases List.eq_nil_or_concat s with rfl|⟨h, y,rfl⟩
  . have c:=p.head
    have d:=p.last
    simp at c d
    omega
  . refine⟨y,s_,.inr ?_⟩
    have c:=p.uW
    rw[List.concat_eq_append,nr]at c
    exact c.mid
theorem iB.Rj(h:iB fN fL E A key){x y:Nat}(c:A x y):(x<fL/\∃ e,E x=some e/\e.tree=true)\/∃ v,v<fN/\x=fL+v:=by
 obtain⟨k,e,b,f,d⟩:=(h.jT x y).1 c
 have a:=h.lo k e b
 rcases d with ⟨rfl,_⟩|⟨_,rfl|rfl⟩
 . exact .inl ⟨a.1,e,b,f⟩
 . exact .inr ⟨_,a.2.1,rfl⟩
 . exact .inr ⟨_,a.2.2.1,rfl⟩
theorem iB.slot(h:iB fN fL E A key)(p:sH fL A key a b f q)(o:a≠b):∃ e,E f=some e/\e.tree=true/\f<fL:=by
 have z:∀ x∈q,(x<fL/\∃ e,E x=some e/\e.tree=true)\/∃ v,v<fN/\x=fL+v:=fun x w=>by
  obtain⟨y,_,g⟩:=p.nb o w
  rcases g with g|g
  . exact h.Rj g
  . exact h.Rj (h.tY g)
 rcases z f p.mem with ⟨c,e,d,m⟩|⟨v,hv,rfl⟩
 . exact⟨e,d,m,c⟩
 . exfalso
   obtain⟨i,F,e⟩:∃ y t,q=(fL+a) :: y :: t:=by
    have c:=p.head
    have d:=p.last
    match q,c,d with
    | [],c,_=>simp at c
    | [x],c,d=>simp at c d;omega
    | x :: y :: t,c,_=>simp at c;exact⟨y,t,by rw[c]⟩
   subst_vars
   have n:A (fL+a) i:=p.uW.1
   obtain⟨k,e,l,u,s⟩:=(h.jT _ _).1 n
   have r:=h.lo k e l
   have c:i=k:=by
    rcases s with ⟨d,_⟩|⟨d,_⟩
    . omega
    . exact d
   subst c
   have B:=h.kv v hv
   have C:=h.ks _ e l u
   have D:=r.2.2.2.2
   rcases p.min i s_ with j|j|j<;>omega
theorem iB.later(h:iB fN fL E A key)(p:sH fL A key a b f q)(n:a≠b){o e:Ed}{k:Nat}(g:E f=some o)(i:o.tree=true)(hk:k∈q)(d:E k=some e)(j:e.tree=true):nD o.exp f e.exp k:=by
 have l:=h.ks f o g i
 have m:=h.ks k e d j
 unfold nD
 rcases p.min k hk with rfl|c|c
 . grind
 . left;omega
 . right;omega
theorem iB.part(h:iB fN fL E A key){E2:EM}{t1:Int}{t2:Nat}{s:List Nat}{x y:Nat}(hp:kz A s)(j:s.head? = some x)(l:s.getLast? = some y)(hs:∀ k e,k∈s->E k=some e->e.tree=true->Et E2 t1 t2 e.a e.b):Cn (Et E2 t1 t2) (rp fL E x) (rp fL E y) :=
 hp.cn (fun s1 u v s2 e c=>h.step c fun k d f i g=>hs k d (by rw[e];rcases g with rfl|rfl<;>simp) f i) j l
theorem EM.kK{E:EM}{k j:Nat}{x:Option Ed}(h:j≠k):E.set k x j=E j:=if_neg h
theorem EM.kr{E:EM}{k:Nat}{x:Option Ed}:E.set k x k=x:=if_pos rfl
theorem iB.add(h:iB fN fL E A key){x:Nat}{e:Ed}(J:E x=none)(G:x<fL/\e.a<fN/\e.b<fN/\e.a≠e.b/\e.exp<=sS)(I:e.tree=true)(q:¬ Cn A (fL+e.a) (fL+e.b)){A' : Nat->Nat->Prop}{key' : Nat->Int}(C:∀ i j,A' i j↔A i j\/nG fL x e i j)(hk:∀ y,key' y=if y=x then e.exp else key y):iB fN fL (E.set x (some e)) A' key' := by
 have H:∀ {k d},E k=some d->k≠x:=fun g f=>by rw[f,J]at g;cases g
 refine⟨fun k d hd=>?_,fun i j=>?_,fun v hv=>?_,fun k d hd p=>?_,fun L M u v ⟨k,d,hd,f,m⟩=>?_,fun k d hd p r=>?_⟩
 . by_cases e1:k=x
   . subst e1;rw[EM.kr]at hd;cases hd;exact G
   . rw[EM.kK e1]at hd;exact h.lo k d hd
 . rw[C,h.jT]
   constructor
   . grind [EM.kK,EM.kr]
   . grind [EM.kr,EM.kK]
 . rw[hk,if_neg o_];exact h.kv v hv
 . by_cases e1:k=x
   . subst e1;rw[EM.kr]at hd;cases hd;rw[hk,if_pos rfl]
   . rw[EM.kK e1]at hd;rw[hk,if_neg e1];exact h.ks k d hd p
 . by_cases e1:k=x
   . subst e1;rw[EM.kr]at hd;cases hd;exact .one ⟨k,e,EM.kr,I,f,m⟩
   . rw[EM.kK e1]at hd
     exact(h.C1 L M u v ⟨k,d,hd,f,m⟩).mono fun i j ⟨K,z,a1,a2,a3,w⟩=>⟨K,z,by rw[EM.kK (H a1)];exact a1,a2,a3,w⟩
 . have o:∀ {B:Nat->Nat->Prop},(∀ u v,B u v->∃ k e,E k=some e/\e.tree=true/\ends e u v)->∀ {u v},Cn B u v->Cn A (fL+u) (fL+v):=fun {B} D {u v} t=>h.Yg D t
   by_cases e1:k=x
   . subst e1;rw[EM.kr]at hd;cases hd
     exact q (o (fun u v ⟨j,d,g,f,m,n⟩=>⟨j,d,by rw[EM.kK g]at f;exact f,m,n⟩) r)
   . rw[EM.kK e1]at hd
     have hk:∀ u v,Eo E k u v->∃ k e,E k=some e/\e.tree=true/\ends e u v:=fun u v ⟨j,d,_,f,m,n⟩=>⟨j,d,f,m,n⟩
     have F:Cn (fun i j=>Eo E k i j\/(i=e.a/\j=e.b)\/(i=e.b/\j=e.a)) d.a d.b:=r.mono fun i j ⟨l,c,g,f,m,n⟩=>by
      by_cases e2:l=x
      . subst e2;rw[EM.kr]at f;cases f;exact .inr n
      . rw[EM.kK e2]at f;exact .inl ⟨l,c,g,f,m,n⟩
     have s:Cn A (fL+d.a) (fL+d.b):=o (B:=fun u v=>∃ j c,E j=some c/\c.tree=true/\ends c u v) (fun u v h=>h) (.one ⟨k,d,hd,p,.inl ⟨rfl,rfl⟩⟩)
     rcases F.more with g|⟨g,f⟩|⟨g,f⟩
     . exact h.vR k d hd p g
     . exact q (((o hk g).symm fun i j=>h.tY).trans (s.trans ((o hk f).symm fun i j=>h.tY)))
     . exact q ((o hk f).trans ((s.symm fun i j=>h.tY).trans (o hk g)))
theorem iB.keep(h:iB fN fL E A key){x:Nat}{e o:Ed}(L:E x=none)(H:x<fL/\e.a<fN/\e.b<fN/\e.a≠e.b/\e.exp<=sS)(B:e.tree=false)(p:sH fL A key e.a e.b f q)(J:E f=some o)(K:o.tree=true)(I:nD e.exp x o.exp f):iB fN fL (E.set x (some e)) A key:=by
 have z:∀ {k d},E k=some d->k≠x:=fun s g=>by rw[g,L]at s;cases s
 refine⟨fun k d hd=>?_,fun i j=>?_,h.kv,fun k d hd r=>?_,fun t1 t2 u v ⟨k,d,hd,g,m⟩=>?_,fun k d hd r n=>?_⟩
 . by_cases e1:k=x
   . grind [EM.kr]
   . rw[EM.kK e1]at hd;exact h.lo k d hd
 . rw[h.jT]
   constructor
   . grind [EM.kK]
   . grind [EM.kr,EM.kK]
 . by_cases e1:k=x
   . grind [EM.kr]
   . rw[EM.kK e1]at hd;exact h.ks k d hd r
 . by_cases e1:k=x
   . subst e1;rw[EM.kr]at hd;cases hd
     have n:=h.part (E2:=E.set k (some e)) (t1:=t1) (t2:=t2) p.uW p.head p.last fun y t G w C=>⟨y,t,by rw[EM.kK (z w)];exact w,C,g.trans (I.trans (h.later p H.2.2.2.1 J K G w C)),.inl ⟨rfl,rfl⟩⟩
     rw[ng,ng]at n
     rcases m with ⟨rfl,rfl⟩|⟨rfl,rfl⟩
     . exact n
     . exact n.symm fun i j=>Et.symm
   . rw[EM.kK e1]at hd
     exact(h.C1 t1 t2 u v ⟨k,d,hd,g,m⟩).mono fun i j ⟨y,t,a1,a2,a3,D⟩=>⟨y,t,by rw[EM.kK (z a1)];exact a1,a2,a3,D⟩
 . by_cases e1:k=x
   . subst e1;rw[EM.kr]at hd;cases hd;rw[B]at r;cases r
   . rw[EM.kK e1]at hd
     refine h.vR k d hd r (n.mono fun i j ⟨l,c,s,g,m,F⟩=>?_)
     by_cases e2:l=x
     . subst e2;rw[EM.kr]at g;cases g;rw[B]at m;cases m
     . rw[EM.kK e2]at g;exact⟨l,c,s,g,m,F⟩
theorem iB.IC(h:iB fN fL E A key)(p:sH fL A key a b f q)(C:a≠b){o:Ed}(G:E f=some o)(D:f<fL):∃ s t u v,q=s++f :: t/\s.head? = some (fL+a)/\s.getLast? = some (fL+u)/\t.head? = some (fL+v)/\t.getLast? = some (fL+b)/\ends o u v/\f∉s/\f∉t:=by
 obtain⟨s,t,e⟩:=BG p.mem
 have l:=p.nd
 have j:=p.head
 have c:=p.last
 have hp:=p.uW
 rw[e]at l j c hp
 have g:=zr.1 l
 have w:f∉s:=fun hm=>g.2.2 f hm f s_ rfl
 have x:f∉t:=(zw.1 g.2.1).1
 rcases List.eq_nil_or_concat s with rfl|⟨I, y1,e1⟩
 . simp at j;omega
 rw[List.concat_eq_append]at e1
 cases t with
 | nil=>rw[Hj]at c;simp at c;omega
 | cons y2 t' =>
  subst e1
  have a1:A y1 f:=by rw[nr]at hp;exact hp.mid
  have a2:A f y2:=hp.mid
  have F:y1≠y2:=fun m=>g.2.2 y1 s_ y2 s_ m
  have look:∀ y,A y f->∃ u,y=fL+u/\(u=o.a\/u=o.b):=fun y z=>by
   obtain⟨k,d,n,B,r⟩:=(h.jT _ _).1 z
   have hd:=h.lo k d n
   rcases r with ⟨_,i|i⟩|⟨rfl,i⟩
   . omega
   . omega
   . grind
  obtain⟨u,rfl,H⟩:=look y1 a1
  obtain⟨v,rfl,hv⟩:=look y2 (h.tY a2)
  refine⟨_,_,u,v,e,?_,s_,s_,?_,?_,w,x⟩
  . grind
  . grind
  . grind [ends]
theorem iB.swap(h:iB fN fL E A key){x:Nat}{e o:Ed}(W:E x=none)(O:x<fL/\e.a<fN/\e.b<fN/\e.a≠e.b/\e.exp<=sS)(V:e.tree=true)(p:sH fL A key e.a e.b f q)(D:E f=some o)(U:o.tree=true)(ag:nD o.exp f e.exp x){o' : Ed}(ai : o'.a=o.a/\o'.b=o.b/\o'.exp=o.exp/\o'.tree=false)
 {A' : Nat->Nat->Prop} {key' : Nat->Int} (R:∀ i j,A' i j↔(A i j/\¬ nG fL f o i j)\/nG fL x e i j) (hk:∀ y,key' y=if y=x then e.exp else key y):iB fN fL ((E.set f (some o')).set x (some e)) A' key' := by
 have G:∀ {k d},E k=some d->k≠x:=fun m g=>by rw[g,W]at m;cases m
 have ae:=G D
 have T:=h.lo f o D
 obtain⟨o1,o2,o3,Y⟩:=ai
 have get:∀ k,k≠x->k≠f->((E.set f (some o')).set x (some e)) k=E k:=fun k m g=>by rw[EM.kK m,EM.kK g]
 have K:((E.set f (some o')).set x (some e)) f=some o' := by rw[EM.kK ae,EM.kr]
 have aj:∀ z B,nD z B o.exp f->∀ u v,ends o u v->Cn (Et ((E.set f (some o')).set x (some e)) z B) u v:=fun z B g=>by
  obtain⟨s,t,u,v,L,s1,s2,Z, aa, P,n1,X⟩:=h.IC p O.2.2.2.1 D T.1
  have hp:=p.uW
  rw[L]at hp
  have ac:∀ k d,k∈q->k≠f->E k=some d->d.tree=true->Et ((E.set f (some o')).set x (some e)) z B d.a d.b:=fun k d hk af hd w =>
   ⟨k,d,by rw[get k (G hd) af];exact hd,w,g.trans (h.later p O.2.2.2.1 D U hk hd w),.inl ⟨rfl,rfl⟩⟩
  have I:=h.part hp.left s1 s2 fun k d hk=>ac k d (by rw[L];simp[hk]) fun e1=>n1 (e1▸hk)
  have J:=h.part hp.right.tail Z aa fun k d hk=>ac k d (by rw[L];simp[hk]) fun e1=>X (e1▸hk)
  rw[ng,ng]at I J
  have sy:=fun {i j:Nat} (c:Cn (Et ((E.set f (some o')).set x (some e)) z B) i j)=>c.symm fun i j=>Et.symm
  have F:Cn (Et ((E.set f (some o')).set x (some e)) z B) u v:=(sy I).trans ((Cn.one ⟨x,e,EM.kr,V,g.trans ag,.inl ⟨rfl,rfl⟩⟩).trans (sy J))
  rintro i j ab
  unfold ends at P ab
  rcases P with ⟨rfl,rfl⟩|⟨rfl,rfl⟩<;>rcases ab with ⟨rfl,rfl⟩|⟨rfl,rfl⟩
  . exact F
  . exact sy F
  . exact sy F
  . exact F
 refine⟨fun k d hd=>?_,fun i j=>?_,fun v hv=>?_,fun k d hd w=>?_,fun z B u v ⟨k,d,hd,g,r⟩=>?_,fun k d hd w N=>?_⟩
 . by_cases e1:k=x
   . subst e1;rw[EM.kr]at hd;cases hd;exact O
   . by_cases n:k=f
     . subst n;rw[K]at hd;cases hd;rw[o1,o2,o3];exact T
     . rw[get k e1 n]at hd;exact h.lo k d hd
 . rw[R,h.jT]
   constructor
   . rintro(⟨⟨k,d,m,g,r⟩,C⟩|m)
     . by_cases n:k=f
       . subst n;rw[D]at m;cases m;exact absurd r C
       . exact⟨k,d,by rw[get k (G m) n];exact m,g,r⟩
     . exact⟨x,e,EM.kr,V,m⟩
   . rintro⟨k,d,m,g,r⟩
     by_cases e1:k=x
     . subst e1;rw[EM.kr]at m;cases m;exact .inr r
     . by_cases n:k=f
       . subst n;rw[K]at m;cases m;rw[Y]at g;cases g
       . rw[get k e1 n]at m
         refine .inl ⟨⟨k,d,m,g,r⟩,fun C=>?_⟩
         have al:=h.lo k d m
         unfold nG at r C
         omega
 . rw[hk,if_neg o_];exact h.kv v hv
 . by_cases e1:k=x
   . subst e1;rw[EM.kr]at hd;cases hd;rw[hk,if_pos rfl]
   . by_cases n:k=f
     . subst n;rw[K]at hd;cases hd;rw[Y]at w;cases w
     . rw[get k e1 n]at hd;rw[hk,if_neg e1];exact h.ks k d hd w
 . by_cases e1:k=x
   . subst e1;rw[EM.kr]at hd;cases hd;exact .one ⟨k,e,EM.kr,V,g,r⟩
   . by_cases n:k=f
     . subst n;rw[K]at hd;cases hd
       rw[o3]at g
       exact aj z B g u v (by unfold ends at *;rw[<-o1,<-o2];exact r)
     . rw[get k e1 n]at hd
       refine(h.C1 z B u v ⟨k,d,hd,g,r⟩).bind fun i j ⟨H,M,a1,a2,a3,a4⟩=>?_
       by_cases e3:H=f
       . grind
       . exact .one ⟨H,M,by rw[get H (G a1) e3];exact a1,a2,a3,a4⟩
 . have S:¬ Cn (Eo E f) e.a e.b:=fun N=>by
    obtain⟨s,t,u,v,L,s1,s2,Z, aa, P,n1,X⟩:=h.IC p O.2.2.2.1 D T.1
    have hp:=p.uW
    rw[L]at hp
    have sy:=fun {i j:Nat} (c:Cn (Eo E f) i j)=>c.symm fun i j=>Eo.symm
    have pr:∀ {l:List Nat} {x y:Nat},kz A l->f∉l->l.head? = some x->l.getLast? = some y->Cn (Eo E f) (rp fL E x) (rp fL E y):=fun {l x y} ak ah W hy =>
     ak.cn (fun l1 c d l2 e R=>h.aeJ R fun H M m g r=>by
      have G:H≠f:=fun n=>ah (by rw[e,<-n];rcases r with rfl|rfl<;>simp)
      exact⟨⟨H,M,G,m,g,.inl ⟨rfl,rfl⟩⟩,⟨H,M,G,m,g,.inr ⟨rfl,rfl⟩⟩⟩) W hy
    have I:=pr hp.left n1 s1 s2
    have J:=pr hp.right.tail X Z aa
    rw[ng,ng]at I J
    have F:Cn (Eo E f) u v:=(sy I).trans (N.trans (sy J))
    rcases P with ⟨rfl,rfl⟩|⟨rfl,rfl⟩
    . exact h.vR f o D U F
    . exact h.vR f o D U (sy F)
   have old:∀ l c,l≠x->((E.set f (some o')).set x (some e)) l=some c->c.tree=true->l≠f/\E l=some c:=fun l c m g r=>by
    by_cases n:l=f
    . subst n;rw[K]at g;cases g;rw[Y]at r;cases r
    . rw[get l m n]at g;exact⟨n,g⟩
   by_cases e1:k=x
   . subst e1;rw[EM.kr]at hd;cases hd
     exact S (N.mono fun i j ⟨l,c,m,g,r,C⟩=>by obtain⟨a1,a2⟩:=old l c m g r;exact⟨l,c,a1,a2,r,C⟩)
   . obtain⟨a1,a2⟩:=old k d e1 hd w
     have ad:Cn (fun i j=>(∃ l c,l≠k/\l≠f/\E l=some c/\c.tree=true/\ends c i j)\/(i=e.a/\j=e.b)\/(i=e.b/\j=e.a)) d.a d.b:=N.mono fun i j ⟨l,c,m,g,r,C⟩=>by
      by_cases n:l=x
      . subst n;rw[EM.kr]at g;cases g;exact .inr C
      . obtain⟨b1,b2⟩:=old l c n g r;exact .inl ⟨l,c,m,b1,b2,r,C⟩
     have u6:∀ {i j:Nat},Cn (fun i j=>∃ l c,l≠k/\l≠f/\E l=some c/\c.tree=true/\ends c i j) i j->Cn (Eo E f) i j:=fun t=>t.mono fun i j ⟨l,c,_,b1,b2,b3,Q⟩=>⟨l,c,b1,b2,b3,Q⟩
     have sy:=fun {i j:Nat} (c:Cn (Eo E f) i j)=>c.symm fun i j=>Eo.symm
     have dd:Cn (Eo E f) d.a d.b:=.one ⟨k,d,a1,a2,w,.inl ⟨rfl,rfl⟩⟩
     rcases ad.more with m|⟨m,g⟩|⟨m,g⟩
     . exact h.vR k d a2 w (m.mono fun i j ⟨l,c,b0,_,b2,b3,Q⟩=>⟨l,c,b0,b2,b3,Q⟩)
     . exact S ((sy (u6 m)).trans (dd.trans (sy (u6 g))))
     . exact S ((u6 g).trans ((sy dd).trans (u6 m)))
theorem iB.apart(h:iB fN fL E A key)(p:sH fL A key a b f q)(F:a≠b){o:Ed}(L:E f=some o)(I:f<fL){A' : Nat->Nat->Prop}(g:∀ i j,A' i j↔A i j/\¬ nG fL f o i j)(w:¬ Cn A' (fL+o.a) (fL+o.b)):¬ Cn A' (fL+a) (fL+b):=by
 intro G
 obtain⟨s,t,u,v,M,s1,s2,R,S,N,n1,Q⟩:=h.IC p F L I
 have hp:=p.uW
 rw[M]at hp
 have k:∀ i j,A' i j->A' j i:=fun i j r=>(g j i).2 ⟨h.tY ((g i j).1 r).1,fun D=>((g i j).1 r).2 D.symm⟩
 have part:∀ {l:List Nat} {x y:Nat},kz A l->f∉l->l.head? = some x->l.getLast? = some y->Cn A' x y:=fun {l x y} J K O P =>
  (J.cn (φ:=id) (B:=A') (fun T c d U e H=>.one ((g c d).2 ⟨H,fun n=>by
   have:f∈l:=by rw[e];unfold nG at n;rcases n with ⟨rfl,_⟩|⟨rfl,_⟩<;>simp
   exact K this⟩)) O P)
 have z:=part hp.left n1 s1 s2
 have C:=part hp.right.tail Q R S
 have m:Cn A' (fL+u) (fL+v):=(z.symm k).trans (G.trans (C.symm k))
 rcases N with ⟨rfl,rfl⟩|⟨rfl,rfl⟩
 . exact w m
 . exact w (m.symm k)
theorem iB.pop(h:iB fN fL E A key){o:Ed}(y:E f=some o)(x:∀ k e,E k=some e->k=f\/o.exp<e.exp\/(o.exp=e.exp/\f<k)){A' : Nat->Nat->Prop}(s:∀ i j,A' i j↔A i j/\¬ (o.tree=true/\nG fL f o i j)):iB fN fL (E.set f none) A' key:=by
 have B:=h.lo f o y
 have a:∀ {k d},(E.set f none) k=some d->k≠f/\E k=some d:=fun {k d} m=>by
  grind [EM.kr,EM.kK]
 refine⟨fun k d hd=>h.lo k d (a hd).2,fun i j=>?_,h.kv,fun k d hd=>h.ks k d (a hd).2,fun D F u v ⟨k,d,hd,b,g⟩=>?_,fun k d hd w t=>h.vR k d (a hd).2 w (t.mono fun i j ⟨l,c,m,b,g,n⟩=>⟨l,c,m,(a b).2,g,n⟩)⟩
 . rw[s,h.jT]
   constructor
   . grind [EM.kK]
   . grind [nG]
 . obtain⟨n,p⟩:=a hd
   have C:=x k d p
   refine(h.C1 d.exp k u v ⟨k,d,p,.inr ⟨rfl,zn _⟩,g⟩).mono fun i j ⟨z,r,a1,a2,a3,q⟩=>⟨z,r,?_,a2,b.trans a3,q⟩
   rw[EM.kK]
   . exact a1
   . grind [nD]
end
end Go.Sx
namespace Go.Sx
open Go
theorem Fo.AV{xs:List Nd}{F:FT}(b:Fo xs F){v u:Nat}(h:gL (gr xs F) v u):v<xs.length/\u<xs.length:=by
 obtain⟨e,d,hp⟩:=h
 obtain⟨a,c,rfl⟩:=zz.1 d
 have hm:∀ x∈gm xs false a.1,x<xs.length:=fun x f=>((b.rep a c).o5 x ((ni xs false a.1).mem_iff.1 f)).2
 exact⟨hm v (tQ hp),(acp hp).elim (hm u) fun h=>h▸b.par a c⟩
def vz(xs:List Nd)(F:FT)(i j:Nat):Prop:=Ad (gr xs F) (i+1) (j+1)
section
variable {xs ys zs:List Nd} {F R R2:FT} {i j:Nat} {a b:Tr}
theorem aaf(a:Fo xs F)(hi:i+1<xs.length)(m:j+1<xs.length):Joined xs F (i+1) (j+1)↔Cn (vz xs F) i j:=by
 constructor
 . rintro⟨r,d,e⟩
   have key:∀ v r,PR (gL (gr xs F)) v r->v≠0->Cn (vz xs F) (v-1) (r-1):=fun v r h=>by
    induction h with
    | top _=>exact fun _=>.refl _
    | @step v u r hp k _ f =>
     intro hv
     refine .step ?_ (f k)
     unfold vz
     rw[show v-1+1=v by omega,show u-1+1=u by omega]
     exact⟨hv,k,.inl hp⟩
   exact(key _ _ d o_).trans ((key _ _ e o_).symm fun i j=>Ad.symm)
 . intro h
   have n:∀ v u g, gL (gr xs F) v u->gL (gr xs F) v g -> u=g := fun v u g => a.nJ
   have o:∀ {x y z},Joined xs F x y->Joined xs F y z->Joined xs F x z:=fun⟨r,a1,a2⟩ ⟨p, b1,b2⟩=>⟨r,a1,by rw[PR.unique n a2 b1];exact b2⟩
   clear m
   induction h with
   | refl=>exact a.Ju o_ hi
   | @step x y z l t f =>
    have:Joined xs F (x+1) (y+1)/\y+1<xs.length:=by
     obtain⟨d,e,b|b⟩:=l
     . obtain⟨r,c⟩:=a.top e (a.AV b).2
       exact⟨⟨r,.step b e c,c⟩,(a.AV b).2⟩
     . obtain⟨r,c⟩:=a.top d (a.AV b).2
       exact⟨⟨r,c,.step b d c⟩,(a.AV b).1⟩
    exact o this.1 (f this.2)
theorem R7{A:Nat->Nat->Prop}:∀ {p:List Nat},(∀ s x y t,p=s++x :: y :: t->A x y)->kz A p
 | [],_=>trivial
 | [_],_=>trivial
 | x :: y :: l,h=>⟨h [] x y l rfl,R7 fun s u v t e=>h (x :: s) u v t (by rw[e];rfl)⟩
theorem R8{A:Nat->Nat->Prop}:∀ {p:List Nat},(∀ x∈p,x≠0)->kz (fun x y=>A (x-1) (y-1)) p->kz A (p.map (· - 1))
 | [],_,_=>trivial
 | [_],_,_=>trivial
 | x :: y :: l,h0,h=>⟨h.1,R8 (p:=y :: l) (fun z a=>h0 z (mO _ a)) h.2⟩
theorem acs(D:Fo xs F)(h:ja xs F ys (i+1) a R)(k:ja (jy ys (i+1)) ((.nd a (i+1) .nil,0) :: R) zs (j+1) b R2)(E:Joined xs F (i+1) (j+1)){key:Nat->Int}(hk:∀ x,x+1<xs.length->(fJ xs (x+1)).key=key x) :
 ∃ q,Pm (vz xs F) key i j ((fJ zs (j+1)).first-1) q:=by
 obtain⟨p,hp⟩:∃ p,gm zs false (.nd b (j+1) .nil)=p:=⟨_,rfl⟩
 have d:∀ x∈p,x≠0:=fun x c=>k.fo.uZ (T:=.nd b (j+1) .nil) (q:=0) s_ x (by rw[hp];exact c)
 have g:p.Perm (Tr.nd b (j+1) .nil).mem:=by rw[<-hp];exact ni zs false _
 have z:=k.fo.rep (.nd b (j+1) .nil,0) s_
 have o:∀ x∈p,x<zs.length:=fun x c=>(z.o5 x (g.mem_iff.1 c)).2
 have K:zs.length=xs.length:=by have:=k.len;rw[sQ]at this;exact this.trans h.len
 obtain⟨r,hi,G⟩:=E
 have m:=RK h.tM k (h.Qz G hi fun v u O B C=>D.nJ B C)
 have hs:=k.seq
 rw[hp]at m hs
 have n:∀ x,(fJ zs x).key=(fJ xs x).key:=fun x=>(k.key x).trans (((x8 h).2.2.2.2.2 x).trans (h.key x))
 have l:D1 zs (fJ zs (j+1)).first (Tr.nd b (j+1) .nil).mem:=z.2.2.1.first
 have I:=d _ (g.mem_iff.2 l.1)
 refine⟨p.map (· - 1),⟨by rw[List.head?_map,m];rfl,by rw[hs,s9,Hj];rfl,?_,R8 d (R7 fun s x y t e=>?_),zz.2 ⟨_,g.mem_iff.2 l.1,rfl⟩,fun x c=>?_⟩⟩
 . have w:p.Nodup:=g.nodup_iff.2 k.fo.split.1
   rw[List.nodup_iff_pairwise_ne]at w ⊢
   rw[Ho]
   refine w.imp_of_mem fun {x y} c f L=>?_
   have:=d x c
   have:=d y f
   omega
 . have c:=d x (by rw[e];simp)
   have f:=d y (by rw[e];simp)
   show vz xs F (x-1) (y-1)
   unfold vz
   rw[show x-1+1=x by omega,show y-1+1=y by omega]
   have H:gL (gr zs ((.nd b (j+1) .nil,0) :: R2)) y x:=⟨(gm zs false (.nd b (j+1) .nil),0),by simp[gr],by rw[hp];exact(Dc c).2 ⟨s,t,e⟩⟩
   exact(h.JJ x y).1 ((k.ad x y).1 ⟨c,f,.inr H⟩)
 . obtain⟨y,f,rfl⟩:=zz.1 c
   have M:=d y f
   have N:=o y f
   have J:=o _ (g.mem_iff.2 l.1)
   rcases l.2 y (g.mem_iff.1 f)with e|e
   . left;rw[e]
   . right
     have k1:=hk ((fJ zs (j+1)).first-1) o_
     have A:=hk (y-1) o_
     rw[show (fJ zs (j+1)).first-1+1=(fJ zs (j+1)).first by omega]at k1
     rw[show y-1+1=y by omega]at A
     unfold kT at e
     rw[decide_eq_true_iff,n,n,k1,A]at e
     omega
end
theorem kz.mono{A B:Nat->Nat->Prop}(h:∀ i j,A i j->B i j):∀ {p:List Nat},kz A p->kz B p
 | [],_=>trivial
 | [_],_=>trivial
 | _ :: y :: l,hp=>⟨h _ _ hp.1,kz.mono h (p:=y :: l) hp.2⟩
theorem Pm.mono{A B:Nat->Nat->Prop}{key:Nat->Int}{i j f:Nat}{q:List Nat}(p:Pm A key i j f q)(h:∀ i j,A i j->B i j):Pm B key i j f q:=⟨p.head,p.last,p.nd,p.uW.mono h,p.mem,p.min⟩
section
variable {xs ys zs us:List Nd} {F R R2:FT} {i j:Nat} {a b:Tr}
theorem aeb{xs ys:List Nd}(h:∀ k,(fJ ys k).flip=(fJ xs k).flip)(F:FT):gr ys F=gr xs F:=by
 unfold gr
 exact zK fun e _=>by rw[qZ fun k _=>h k]
theorem aef(h:ja xs F ys i a R)(c:Int)(u v:Nat):Ad (gr (qY ys i c) ((.nd a i .nil,0) :: R)) u v↔Ad (gr xs F) u v:=by
 rw[aeb (fun k=>(SU (h.fo.rep (.nd a i .nil,0) s_).1.2 k).1)]
 exact h.ad u v
theorem aeg(h:ja xs F ys i a R)(c:Int)(k:Nat):(fJ (qY ys i c) k).key=if k=i then c else(fJ xs k).key:=by
 rw[(SU (h.fo.rep (.nd a i .nil,0) s_).1.2 k).2,h.key]
theorem UJ(c:Fo xs F)(f:Ad (gr xs F) i j):Joined xs F i j:=by
 obtain⟨d,e,a|a⟩:=f
 . obtain⟨r,b⟩:=c.top e (c.AV a).2
   exact⟨r,.step a e b,b⟩
 . obtain⟨r,b⟩:=c.top d (c.AV a).2
   exact⟨r,b,.step a d b⟩
theorem FY(h:ja xs F ys i a R)(k:ja (jy ys i) ((.nd a i .nil,0) :: R) zs j b R2)(x:Nat):(fJ zs x).key=(fJ xs x).key:=(k.key x).trans (((x8 h).2.2.2.2.2 x).trans (h.key x))
theorem FX(h:ja xs F ys i a R)(k:ja (jy ys i) ((.nd a i .nil,0) :: R) zs j b R2)(u v:Nat):Ad (gr zs ((.nd b j .nil,0) :: R2)) u v↔Ad (gr xs F) u v:=(k.ad u v).trans (h.JJ u v)
theorem aaK(f:Fo xs F)(h:ja xs F ys i a R)(k:ja (jy ys i) ((.nd a i .nil,0) :: R) zs j b R2)(s:¬ Joined xs F i j)(p:j≠0)(q:j<xs.length)(n:i≠0)(o:i<xs.length):(gm zs false (.nd a i .nil)).head? = some i:=by
 rcases k.Bj (.nd a i .nil) s_ with ⟨_,d⟩|c
 . rw[Gl d]
   exact h.tM.head
 . exfalso
   rw[h.tM.head]at c
   obtain⟨r,g⟩:=f.top p q
   obtain⟨m, l⟩:=f.top n o
   have t:r≠m := fun e=>s ⟨m, l, e▸g⟩
   obtain⟨w,p2⟩:=h.QA g l t fun v u y c d=>f.nJ c d
   have x:=k.top c (v:=j) (by simp[Tr.mem])
   have e:r=i:=PR.unique (P:=gL (gr (jy ys i) ((.nd a i .nil,0) :: R))) (fun v u y c d=>h.tM.fo.nJ c d) w x
   exact p2 (by rw[e];simp[Tr.mem])
theorem aaJ{c:FT}(e:Fo xs F)(h:ja xs F ys i a R)(k:ja (jy ys i) ((.nd a i .nil,0) :: R) zs j b R2)(n:¬ Joined xs F i j)(l:j≠0)(m:j<xs.length)(f:i≠0)(g:i<xs.length)(d:R2.Perm ((.nd a i .nil,0) :: c))(u v:Nat) :
 Ad (gr (lq zs i j) ((.nd b j .nil,0) :: (.nd a i .nil,j) :: c)) u v↔Ad (gr xs F) u v\/(u=i/\v=j)\/(u=j/\v=i):=by
 rw[aaI (k.fo.perm (d.cons _)) (aaK e h k n l m f g)]
 have hp:Ad (gr zs ((.nd b j .nil,0) :: (.nd a i .nil,0) :: c)) u v↔Ad (gr zs ((.nd b j .nil,0) :: R2)) u v:=Ad.congr fun x y=>gL.perm ((d.cons _).symm.map _)
 rw[hp,FX h k]
theorem aaL(h:ja xs F ys i a R)(k:ja (jy ys i) ((.nd a i .nil,0) :: R) zs j b R2)(x:Nat):(fJ (lq zs i j) x).key=(fJ xs x).key:=by
 have c:i<zs.length:=by rw[k.len,sQ];exact(h.fo.rep (.nd a i .nil,0) s_).1.2
 exact(QD c (k.fo.rep (.nd b j .nil,0) s_).1.2 x).2.trans (FY h k x)
theorem We(k:ja xs F us j (.nd .nil i .nil) R):gm us false (.nd (.nd .nil i .nil) j .nil)=[i,j]:=by
 rw[k.seq]
 simp only[gm]
 cases (fJ us i).flip<;>rfl
theorem Wb{zs:List Nd}(h:Fo zs ((.nd .nil i .nil,0) :: (.nd .nil j .nil,0) :: R)):¬ Joined zs ((.nd .nil i .nil,0) :: (.nd .nil j .nil,0) :: R) i j:=by
 rintro⟨r,c,d⟩
 have b:∀ v u a, gL (gr zs ((.nd .nil i .nil,0) :: (.nd .nil j .nil,0) :: R)) v u->gL (gr zs ((.nd .nil i .nil,0) :: (.nd .nil j .nil,0) :: R)) v a -> u=a := fun v u a => h.nJ
 have one:∀ k,gm zs false (.nd .nil k .nil)=[k]:=fun k=>by simp only[gm];cases (fJ zs k).flip<;>rfl
 have g:gL (gr zs ((.nd .nil i .nil,0) :: (.nd .nil j .nil,0) :: R)) i 0:=⟨([i],0),by simp[gr,one],[],[],rfl,rfl⟩
 have p2:gL (gr zs ((.nd .nil i .nil,0) :: (.nd .nil j .nil,0) :: R)) j 0:=⟨([j],0),by simp[gr,one],[],[],rfl,rfl⟩
 have e:i=j:=(PR.unique b (.top g) c).trans (PR.unique b (.top p2) d).symm
 have f:=h.nodup
 subst e
 simp[jO,Tr.mem]at f
end
end Go.Sx
namespace Go.Sx
open Go
section
variable {A:Nat->Nat->Prop} {k x y fL:Nat} {e:Ed}
theorem ZT(h:∀ i,¬ A k i/\¬ A i k){j:Nat}(t:Cn A k j):j=k:=by
 cases t with
 | refl=>rfl
 | step a _=>exact absurd a (h _).1
theorem ZU(h:∀ i,¬ A k i/\¬ A i k)(c:¬ Cn A x y)(hk:k≠y):¬ Cn (fun i j=>A i j\/(i=k/\j=x)\/(i=x/\j=k)) k y:=by
 intro t
 have key:∀ i j,Cn (fun i j=>A i j\/(i=k/\j=x)\/(i=x/\j=k)) i j->Cn A (if i=k then x else i) (if j=k then x else j):=fun i j t=>by
  induction t with
  | refl=>exact .refl _
  | @step i j l a _ b =>
   refine Cn.trans ?_ b
   rcases a with a|⟨rfl,rfl⟩|⟨rfl,rfl⟩
   . rw[if_neg (fun e=>(h _).1 (e▸a)),if_neg (fun e=>(h _).2 (e▸a))]
     exact .one a
   . rw[if_pos rfl]
     split<;>exact .refl _
   . rw[if_pos rfl]
     split<;>exact .refl _
 grind
theorem abO(P:Prop)(i j:Nat):((P\/(i=k/\j=fL+e.a)\/(i=fL+e.a/\j=k))\/(i=k/\j=fL+e.b)\/(i=fL+e.b/\j=k))↔P\/nG fL k e i j:=by
 grind [nG]
theorem Ri(P:Prop)(i j:Nat):((P/\¬ ((i=k/\j=fL+e.a)\/(i=fL+e.a/\j=k)))/\¬ ((i=k/\j=fL+e.b)\/(i=fL+e.b/\j=k)))↔P/\¬ nG fL k e i j:=by
 grind [nG]
theorem Wc(hs:∀ i j,A i j->A j i)(g:A k y)(m:x≠y)(l:k≠y)(f:¬ Cn (fun i j=>A i j/\¬ ((i=k/\j=x)\/(i=x/\j=k))) k x):¬ Cn (fun i j=>(A i j/\¬ ((i=k/\j=x)\/(i=x/\j=k)))/\¬ ((i=k/\j=y)\/(i=y/\j=k))) x y:=by
 intro t
 refine f (.step (j:=y) ⟨g,o_⟩ ?_)
 have e:Cn (fun i j=>A i j/\¬ ((i=k/\j=x)\/(i=x/\j=k))) x y:=t.mono fun i j h=>h.1
 exact e.symm fun i j ⟨a,b⟩=>⟨hs i j a,fun c=>b (c.elim (fun⟨c,d⟩=>.inr ⟨d,c⟩) fun⟨c,d⟩=>.inl ⟨d,c⟩)⟩
end
def gF(m:List (Int×Ed)):EM:=fun k=>gU m (k:Int)
def Ed.er(e:Ed):Nat×Nat×Int:=(e.a,e.b,e.exp)
def GW.qd(s:GW):Prop:=∀ x:gG,x∈s.q.fP↔∃ e,gF s.m x.ix=some e/\e.exp=x.key
section
variable {m m2:List (Int×Ed)} {k f:Nat} {e o:Ed}
theorem oB:gF (gx m (k:Int) e)=(gF m).set k (some e):=by
 grind [gF,EM.set,wB]
theorem L9(a:(m.map Prod.fst).Nodup):gF (iJ m (k:Int))=(gF m).set k none:=by
 grind [gF,EM.set,FG]
theorem xx(h:gF m k=some e):fT m (k:Int)=e:=by
 unfold fT
 rw[show gU m (k:Int)=some e from h]
 rfl
theorem EM.set_set{E:EM}{k:Nat}{x y:Option Ed}:(E.set k x).set k y=E.set k y:=by
 funext j
 unfold EM.set
 split<;>rfl
theorem EM.aed{E:EM}{k f:Nat}{x y z:Option Ed}:((E.set k x).set f y).set k z=(E.set f y).set k z:=by
 grind [EM.set]
def xz(m m2:List (Int×Ed))(k:Nat)(t:Option (Nat×Nat×Int)):Prop:=∀ j,(gF m2 j).map Ed.er=if j=k then t else(gF m j).map Ed.er
theorem GW.Df{s s2:GW}{k a b:Nat}{exp:Int}(h:s.qd)(p:gF s.m k=none)(o:xz s.m s2.m k (some (a,b,exp)))(r:∀ x,x∈s2.q.fP↔x∈s.q.fP\/x=⟨k,exp⟩):s2.qd:=by
 intro x
 rw[r,h x]
 have c:=o x.ix
 by_cases hk:x.ix=k
 . rw[if_pos hk]at c
   obtain⟨e,i,g⟩:=Bv.1 c
   unfold Ed.er at g
   simp only[Prod.mk.injEq]at g
   rw[hk,p]
   rw[hk]at i
   constructor
   . grind
   . rintro⟨e', d,f⟩
     rw[i]at d
     cases d
     right
     obtain⟨t,xk⟩:=x
     simp only at hk f
     rw[hk,<-f,g.2.2]
 . rw[if_neg hk]at c
   constructor
   . rintro(⟨e,d,f⟩|rfl)
     . rw[d]at c
       obtain⟨j,l,n⟩:=Bv.1 c
       grind [Ed.er]
     . exact absurd rfl hk
   . rintro⟨e,d,f⟩
     rw[d]at c
     obtain⟨j,l,n⟩:=Bv.1 c.symm
     grind [Ed.er]
theorem GW.Sg{s s2:GW}{i:Nat}(h:s.qd)(a:gF s2.m=(gF s.m).set i none)(b:∀ e,e∈s2.q.fP↔e∈s.q.fP/\e.ix≠i):s2.qd:=by
 intro x
 rw[b,h x,a]
 grind [EM.set]
section
variable {fN fL a b:Nat} {A:Nat->Nat->Prop} {key:Nat->Int} {exp:Int} {q:List Nat}
theorem iB.Jp(h:iB fN fL (gF m) A key)(d:gF m k=none)(hk:k<fL)(i:Nat):¬ A k i/\¬ A i k:=by
 have a:∀ i,¬ A k i:=fun i b=>by
  obtain⟨j,e,a,_,c⟩:=(h.jT k i).1 b
  grind [nG]
 exact⟨a i,fun b=>a i (h.tY b)⟩
abbrev C3(fL:Nat)(A:Nat->Nat->Prop)(k:Nat)(e:Ed):Nat->Nat->Prop:=fun i j=>A i j\/nG fL k e i j
abbrev rV(fL:Nat)(A:Nat->Nat->Prop)(k:Nat)(e:Ed):Nat->Nat->Prop:=fun i j=>A i j/\¬ nG fL k e i j
abbrev CL(key:Nat->Int)(k:Nat)(x:Int):Nat->Int:=fun y=>if y=k then x else key y
theorem iB.own(h:iB fN fL (gF m) A key)(c:gF m f=some o)(d:(fT m (f:Int)).tree=true):f<fL/\A f (fL+(fT m (f:Int)).a)/\A f (fL+(fT m (f:Int)).b)/\(fT m (f:Int)).a≠(fT m (f:Int)).b:=by
 rw[xx c]at d ⊢
 have e:=h.lo f o c
 exact⟨e.1,(h.jT _ _).2 ⟨f,o,c,d,.inl ⟨rfl,.inl rfl⟩⟩,(h.jT _ _).2 ⟨f,o,c,d,.inl ⟨rfl,.inr rfl⟩⟩,e.2.2.2.1⟩
theorem iB.UO(h:iB fN fL (gF m) A key)(g:gF m k=none)(f:k<fL/\a<fN/\b<fN/\a≠b/\exp<=sS)(l:¬ Cn A (fL+a) (fL+b)){m1 m4:List (Int×Ed)}(h1:m1=gx m (k:Int) ⟨a,b,exp,false⟩)(c:m4=gx m1 (k:Int) ⟨(fT m1 (k:Int)).a,(fT m1 (k:Int)).b,(fT m1 (k:Int)).exp,true⟩) :
 iB fN fL (gF m4) (C3 fL A k (fT m1 (k:Int))) (CL key k (fT m1 (k:Int)).exp)/\xz m m4 k (some (a,b,exp)):=by
 have e:fT m1 (k:Int)=⟨a,b,exp,false⟩:=xx (by rw[h1,oB,EM.kr])
 rw[e]at c ⊢
 have d:gF m4=(gF m).set k (some ⟨a,b,exp,true⟩):=by rw[c,h1,oB,oB,EM.set_set]
 refine⟨?_,fun j=>?_⟩
 . rw[d]
   exact h.add g f rfl l (fun i j=>Iff.rfl) fun y=>rfl
 . rw[d]
   unfold EM.set
   split<;>rfl
theorem iB.Nl(h:iB fN fL (gF m) A key)(i:gF m k=none)(d:k<fL/\a<fN/\b<fN/\a≠b/\exp<=sS)(p:sH fL A key a b f q)(g:∀ o,gF m f=some o->nD exp k o.exp f){m1:List (Int×Ed)}(h1:m1=gx m (k:Int) ⟨a,b,exp,false⟩) :
 iB fN fL (gF m1) A key/\xz m m1 k (some (a,b,exp)):=by
 obtain⟨o,e,l,_⟩:=h.slot p d.2.2.2.1
 have c:gF m1=(gF m).set k (some ⟨a,b,exp,false⟩):=by rw[h1,oB]
 refine⟨?_,fun j=>?_⟩
 . rw[c]
   exact h.keep i d rfl p e l (g o e)
 . rw[c]
   unfold EM.set
   split<;>rfl
theorem iB.first(h:iB fN fL (gF m) A key)(r:gF m k=none)(i:a≠b)(p:sH fL A key a b f q){m1:List (Int×Ed)}(h1:m1=gx m (k:Int) e) :
 f<fL/\f≠k/\gF m f=some (fT m1 (f:Int))/\(fT m1 (f:Int)).tree=true/\A f (fL+(fT m1 (f:Int)).a)/\A f (fL+(fT m1 (f:Int)).b)/\(fT m1 (f:Int)).a≠(fT m1 (f:Int)).b:=by
 obtain⟨o,c,d,j⟩:=h.slot p i
 have g:f≠k:=fun e=>by rw[e,r]at c;cases c
 have l:fT m1 (f:Int)=o:=xx (by rw[h1,oB,EM.kK g];exact c)
 rw[l]
 have n:=h.lo f o c
 exact⟨j,g,c,d,(h.jT _ _).2 ⟨f,o,c,d,.inl ⟨rfl,.inl rfl⟩⟩,(h.jT _ _).2 ⟨f,o,c,d,.inl ⟨rfl,.inr rfl⟩⟩,n.2.2.2.1⟩
theorem iB.Nn(h:iB fN fL (gF m) A key)(d:gF m k=none)(c:k<fL/\a<fN/\b<fN/\a≠b/\exp<=sS)(p:sH fL A key a b f q){m1 m3 m4:List (Int×Ed)}(h1:m1=gx m (k:Int) ⟨a,b,exp,false⟩)(t:nD (fT m1 (f:Int)).exp f exp k)
 (l:m3=gx m1 (f:Int) ⟨(fT m1 (f:Int)).a,(fT m1 (f:Int)).b,(fT m1 (f:Int)).exp,false⟩) (s:¬ Cn (rV fL A f (fT m1 (f:Int))) (fL+(fT m1 (f:Int)).a) (fL+(fT m1 (f:Int)).b)) :
 (∀ i,¬ rV fL A f (fT m1 (f:Int)) k i/\¬ rV fL A f (fT m1 (f:Int)) i k)/\¬ Cn (rV fL A f (fT m1 (f:Int))) (fL+(fT m3 (k:Int)).a) (fL+(fT m3 (k:Int)).b) /\
  (m4=gx m3 (k:Int) ⟨(fT m3 (k:Int)).a,(fT m3 (k:Int)).b,(fT m3 (k:Int)).exp,true⟩->iB fN fL (gF m4) (C3 fL (rV fL A f (fT m1 (f:Int))) k (fT m3 (k:Int))) (CL key k (fT m3 (k:Int)).exp)/\xz m m4 k (some (a,b,exp))):=by
 obtain⟨w,z,g,u,_⟩:=h.first d c.2.2.2.1 p h1
 have x:fT m3 (k:Int)=⟨a,b,exp,false⟩:=xx (by rw[l,h1,oB,oB,EM.kK (fun e=>z e.symm),EM.kr])
 rw[x]
 generalize fT m1 (f:Int)=o at t l s g u ⊢
 refine⟨fun i=>⟨fun n=>(h.Jp d c.1 i).1 n.1,fun n=>(h.Jp d c.1 i).2 n.1⟩,h.apart p c.2.2.2.1 g w (fun i j=>Iff.rfl) s,fun v=>?_⟩
 have r:gF m4=((gF m).set f (some ⟨o.a,o.b,o.exp,false⟩)).set k (some ⟨a,b,exp,true⟩):=by rw[v,l,h1,oB,oB,oB,EM.aed]
 refine⟨?_,fun j=>?_⟩
 . rw[r]
   exact h.swap (e:=⟨a,b,exp,true⟩) (o' := ⟨o.a,o.b,o.exp,false⟩) d c rfl p g u t ⟨rfl,rfl,rfl,rfl⟩ (fun i j=>Iff.rfl) fun y=>rfl
 . rw[r]
   unfold EM.set
   by_cases e1:j=k
   . rw[if_pos e1,if_pos e1];rfl
   . rw[if_neg e1,if_neg e1]
     by_cases e2:j=f
     . rw[if_pos e2,e2,g];rfl
     . rw[if_neg e2]
theorem iB.acY(h:iB fN fL (gF m) A key)(d:gF m f=some o)(c:∀ k e,gF m k=some e->k=f\/o.exp<e.exp\/(o.exp=e.exp/\f<k))(g:o.tree=false):iB fN fL ((gF m).set f none) A key :=
 h.pop d c fun i j=>⟨fun a=>⟨a,fun b=>by rw[g]at b;cases b.1⟩,fun a=>a.1⟩
theorem iB.acZ(h:iB fN fL (gF m) A key)(c:gF m f=some o)(b:∀ k e,gF m k=some e->k=f\/o.exp<e.exp\/(o.exp=e.exp/\f<k))(d:o.tree=true):iB fN fL ((gF m).set f none) (rV fL A f o) key :=
 h.pop c b fun i j=>and_congr Iff.rfl (not_congr ⟨fun a=>⟨d,a⟩,fun a=>a.2⟩)
theorem GW.Sf{s:GW}(h:s.qd){i:Nat}{k:Int}(hi:(⟨i,k⟩:gG)∈s.q.fP)(hm:∀ e∈s.q.fP,¬ iC e ⟨i,k⟩):∃ o,gF s.m i=some o/\o.exp=k/\∀ j e,gF s.m j=some e->j=i\/o.exp<e.exp\/(o.exp=e.exp/\i<j):=by
 obtain⟨o,b,c⟩:=(h _).1 hi
 refine⟨o,b,c,fun j e a=>?_⟩
 have d:=hm ⟨j,e.exp⟩ ((h _).2 ⟨e,a,rfl⟩)
 grind [iC]
end
end
def tZ(m:List (Int×Ed)):Nat:=(m.filter fun p=>p.2.tree).length
def kn(m:List (Int×Ed))(t:Int):Prop:=(m.map Prod.fst).Nodup/\t=IntKind.i64.wrap (tZ m:Int)/\∀ p∈m,∃ k:Nat,p.1=(k:Int)
section
variable {m:List (Int×Ed)} {t:Int} {k f:Nat} {e o:Ed}
theorem Td{m m2:List (Int×Ed)}(h:m.Perm m2):tZ m=tZ m2:=(h.filter _).length_eq
theorem Tc{p:Int×Ed}:tZ (p :: m)=tZ m+if p.2.tree=true then 1 else 0:=by
 grind [tZ]
theorem K8{k:Int}:tZ (gx m k e)=tZ (iJ m k)+if e.tree=true then 1 else 0:=by rw[Td (C0 m k e),Tc]
theorem K7{k:Int}(h:gU m k=some e):tZ m=tZ (iJ m k)+if e.tree=true then 1 else 0:=by rw[Td (FI h),Tc]
theorem kn.nil:kn [] 0:=⟨zN,by rw[IntKind.wrap_i64];decide,fun p h=>(mo h).elim⟩
theorem kn.kp(h:kn m t):∀ p∈gx m (k:Int) e,∃ k:Nat,p.1=(k:Int):=fun p hp=>by
 rcases zg.1 ((C0 m (k:Int) e).mem_iff.1 hp)with rfl|a
 . exact⟨k,rfl⟩
 . exact h.2.2 p ((CY m _).subset a)
theorem kn.put(h:kn m t)(b:gF m k=none)(a:e.tree=false):kn (gx m (k:Int) e) t:=by
 refine⟨wG h.1 _ _,?_,h.kp⟩
 rw[h.2.1,K8,JS b,if_neg (by rw[a];decide)]
 rfl
theorem kn.Px(h:kn m t)(d:gF m k=some o)(c:o.tree=false)(b:e.tree=true):kn (gx m (k:Int) e) (IntKind.i64.wrap (t+1)):=by
 refine⟨wG h.1 _ _,?_,h.kp⟩
 have a:=K7 (show gU m (k:Int)=some o from d)
 rw[if_neg (by rw[c];decide)]at a
 rw[h.2.1,K8,if_pos b,IntKind.wrap_i64,IntKind.wrap_i64,IntKind.wrap_i64]
 omega
theorem kn.loose(h:kn m t)(c:gF m k=some o)(d:o.tree=true)(b:e.tree=false):kn (gx m (k:Int) e) (IntKind.i64.wrap (t-1)):=by
 refine⟨wG h.1 _ _,?_,h.kp⟩
 have a:=K7 (show gU m (k:Int)=some o from c)
 rw[if_pos d]at a
 rw[h.2.1,K8,if_neg (by rw[b];decide),IntKind.wrap_i64,IntKind.wrap_i64,IntKind.wrap_i64]
 omega
theorem kn.del(h:kn m t)(c:gF m k=some o)(b:o.tree=false):kn (iJ m (k:Int)) t:=by
 refine⟨J9 h.1 _,?_,fun p hp=>h.2.2 p ((CY m _).subset hp)⟩
 have a:=K7 (show gU m (k:Int)=some o from c)
 rw[if_neg (by rw[b];decide)]at a
 rw[h.2.1,a]
 rfl
theorem kn.pop(h:kn m t)(b:gF m k=some o)(c:o.tree=true)(a:e.tree=false):kn (iJ (gx m (k:Int) e) (k:Int)) (IntKind.i64.wrap (t-1)) :=
 (h.loose b c a).del (o:=e) (by rw[oB,EM.kr]) a
theorem kn.swap(h:kn m t)(i:gF m k=none)(d:f≠k)(j:gF m f=some o)(l:o.tree=true){a e1 b:Ed}(c:a.tree=false)(h1:e1.tree=false)(g:b.tree=true):kn (gx (gx (gx m (k:Int) a) (f:Int) e1) (k:Int) b) (IntKind.i64.wrap (IntKind.i64.wrap (t-1)+1)) :=
 ((h.put i c).loose (o:=o) (by rw[oB,EM.kK d];exact j) l h1).Px (o:=a) (by rw[oB,EM.kK fun e=>d e.symm,oB,EM.kr]) c g
end
theorem abX{n u v:Nat}:¬ Ad (gr (lB n n) (newF n)) u v:=by
 have one:∀ v u,gL (gr (lB n n) (newF n)) v u->u=0:=fun v u ⟨e,d,hp⟩=>by
  grind [gr,newF,gm,lB,fJ,qq,Db]
 rintro⟨b,c,a|a⟩
 . exact c (one _ _ a)
 . exact b (one _ _ a)
theorem abY{n k:Nat}(h:k+1<n+1):(fJ (lB n n) (k+1)).key=0:=by
 rw[yE h,if_pos o_]
 rfl
abbrev pP(fL k:Nat):Nat->Int:=fun x=>if fL<=x/\x<fL+k then sS else 0
theorem aag{fL k x:Nat}:(if x=fL+k then(9223372036854775807:Int)else pP fL k x)=pP fL (k+1) x:=by
 unfold pP sS
 grind
theorem iB.new{fN fL:Nat}:iB fN fL (gF []) (fun _ _=>False) (pP fL fN) :=
 ⟨fun k e h=>(by cases h),fun i j=>⟨fun h=>h.elim,fun⟨k,e,h,_⟩=>(by cases h)⟩,fun v hv=>if_pos o_,fun k e h=>(by cases h),fun a b u v ⟨k,e,h,_⟩=>(by cases h),fun k e h=>(by cases h)⟩
end Go.Sx
namespace Go.Sx
open Go
def ic(n c:Nat):Nat:=if c+1=n then 0 else c+1
def dst(n a b:Nat):Nat:=if a<=b then b-a else b+n-a
theorem Ka{n c:Nat}(h:c<n):ic n c<n:=by unfold ic;split<;>omega
theorem ab4{n c:Nat}(h:c<n):(c+1)%n=ic n c:=by
 unfold ic
 split
 . rename_i e;rw[e,Nat.mod_self]
 . exact Nat.mod_eq_of_lt o_
theorem EO{n a b:Nat}(c:a<n)(hb:b<n):dst n a b<n:=by unfold dst;split<;>omega
theorem uF(n a:Nat):dst n a a=0:=by simp[dst]
theorem ER{n a b:Nat}(c:a<n)(hb:b<n):dst n a b=0↔a=b:=by unfold dst;split<;>omega
theorem Wr{n a c:Nat}(b:a<n)(d:c<n)(h:ic n c≠a):dst n a (ic n c)=dst n a c+1:=by
 unfold dst ic at *
 split at h<;>split<;>(try split)<;>(try split)<;>omega
theorem EP{n z c:Nat}(b:z<n)(a:c<n)(h:c≠z):dst n (ic n c) z+1=dst n c z:=by
 unfold dst ic at *
 (repeat' split)<;>omega
theorem EN{n a b c:Nat}(d:a<n)(hb:b<n)(e:c<n)(h:dst n a b=dst n a c):b=c:=by
 unfold dst at h
 (repeat' split at h)<;>omega
abbrev rC(n a b q:Nat):Prop:=dst n a q<dst n a b
def rE(n:Nat)(cs:List Nat)(hm:Nat->Nat):Prop:=∀ c i q,c<n->q<n->fJ cs c=i+1->rC n (hm i) c q->fJ cs q≠0
def uJ(n:Nat)(cs:List Nat)(ok:Nat->Bool):Nat->Nat->Nat×Bool
 | 0,_=>(0,false)
 | f+1,c=>if fJ cs c=0 then(c,false)else if ok (fJ cs c-1)then(c,true)else uJ n cs ok f (ic n c)
theorem PD{n:Nat}{cs:List Nat}{ok:Nat->Bool}{z:Nat}(i:z<n)(j:fJ cs z=0):∀ (f c:Nat),c<n->dst n c z<f -> 
 ∃ r,r<n/\dst n c r<=dst n c z/\(∀ q,q<n->dst n c q<dst n c r->fJ cs q≠0/\ok (fJ cs q-1)=false)/\((uJ n cs ok f c=(r,false)/\fJ cs r=0)\/(uJ n cs ok f c=(r,true)/\fJ cs r≠0/\ok (fJ cs r-1)=true)):=by
 intro f
 induction f with
 | zero=>intro c _ h;omega
 | succ f o =>
  intro c a s
  unfold uJ
  by_cases h1:fJ cs c=0
  . exact⟨c,a,by rw[uF];omega,fun q _ b=>by rw[uF]at b;omega,.inl ⟨by rw[if_pos h1],h1⟩⟩
  . rw[if_neg h1]
    by_cases h2:ok (fJ cs c-1)=true
    . exact⟨c,a,by rw[uF];omega,fun q _ b=>by rw[uF]at b;omega,.inr ⟨by rw[if_pos h2],h1,h2⟩⟩
    . rw[if_neg h2]
      have k:c≠z:=fun e=>h1 (by rw[e];exact j)
      have hs:=EP i a k
      obtain⟨r,g,hd,b,m⟩:=o (ic n c) (Ka a) o_
      have l:c≠r:=by
       intro e
       subst e
       have e1:dst n (ic n c) c=n-1:=by unfold dst ic;(repeat' split)<;>omega
       have p:dst n (ic n c) z<n-1:=by
        have:=EO a i
        omega
       omega
      have u:=EP g a l
      refine⟨r,g,o_,fun q d t=>?_,m⟩
      by_cases hqc:c=q
      . subst hqc
        exact⟨h1,by simpa using h2⟩
      . have v:=EP d a hqc
        exact b q d o_
theorem YK{n:Nat}{cs:List Nat}{ok:Nat->Bool}{hm:Nat->Nat}{p i:Nat}(m:rE n cs hm)(hp:p<n)(hi:fJ cs p=i+1)(b:hm i<n)(o:ok i=true)(t:∀ q j,q<n->fJ cs q=j+1->ok j=true->q=p)(u:∃ z,z<n/\fJ cs z=0):uJ n cs ok n (hm i)=(p,true):=by
 obtain⟨z,k,v⟩:=u
 obtain⟨r,c,hd,s,h⟩:=PD (ok:=ok) k v n (hm i) b (EO b k)
 rcases h with ⟨d,a⟩|⟨d,a,l⟩
 . exfalso
   rcases xu (dst n (hm i) r) (dst n (hm i) p)with f|f
   . exact m p i r hp c hi f a
   . rcases xu (dst n (hm i) p) (dst n (hm i) r)with g|g
     . have:=(s p hp g).2
       rw[hi,Nat.add_sub_cancel,o]at this
       cases this
     . have e:=EN b c hp o_
       rw[e,hi]at a
       omega
 . have:=t r (fJ cs r-1) c o_ l
   rw[d,this]
theorem YJ{n:Nat}{cs:List Nat}{ok:Nat->Bool}{c:Nat}(e:c<n)(i:∀ q j,q<n->fJ cs q=j+1->ok j=false)(o:∃ z,z<n/\fJ cs z=0):∃ r,r<n/\uJ n cs ok n c=(r,false)/\fJ cs r=0/\∀ q,q<n->rC n c r q->fJ cs q≠0:=by
 obtain⟨z,g,p⟩:=o
 obtain⟨r,f,hd,k,h⟩:=PD (ok:=ok) g p n c e (EO e g)
 rcases h with ⟨a,b⟩|⟨a,b,d⟩
 . exact⟨r,f,a,b,fun q m l=>(k q m l).1⟩
 . have:=i r (fJ cs r-1) f o_
   rw[this]at d
   cases d
theorem rE.put{n:Nat}{cs:List Nat}{hm:Nat->Nat}{r i:Nat}(h:rE n cs hm)(s:cs.length=n)(u:r<n)(o:fJ cs r=0)(m:∀ q,q<n->rC n (hm i) r q->fJ cs q≠0)(p:hm i<n):rE n (fO cs r (fun _=>i+1)) hm:=by
 intro c j q g d a b
 have l:=fun q=>ji (xs:=cs) (k:=r) (j:=q) (f:=fun _=>i+1) o_
 rw[l]at a ⊢
 split
 . omega
 . rename_i t
   split at a
   . rename_i e
     have:j=i:=by omega
     subst this
     subst e
     exact m q d b
   . exact h c j q g d a b
structure pn (n:Nat) (hm:Nat->Nat) (i0:Nat) (cs0 cs:List Nat) (hole c z:Nat):Prop where
 len:cs.length=n
 wh:hole<n
 N1:c<n
 DW:z<n
 home:∀ p i,p<n->p≠hole->fJ cs p=i+1->hm i<n
 inj:∀ p q,p<n->q<n->p≠hole->q≠hole->fJ cs p≠0->fJ cs p=fJ cs q->p=q
 mem:∀ i,(∃ p,p<n/\p≠hole/\fJ cs p=i+1)↔i≠i0/\∃ p,p<n/\fJ cs0 p=i+1
 way:∀ p i q,p<n->q<n->p≠hole->q≠hole->fJ cs p=i+1->rC n (hm i) p q->fJ cs q≠0
 RJ:∀ p i,p<n->p≠hole->fJ cs p=i+1->rC n (hm i) p hole->dst n hole c<dst n hole p
 zero:fJ cs z=0
 zc:dst n hole c<dst n hole z
theorem pn.start{n:Nat}{hm:Nat->Nat}{i0:Nat}{cs:List Nat}{hole z:Nat}(j:rE n cs hm)(l:cs.length=n)(b:hole<n)(hi:fJ cs hole=i0+1)(g:z<n)(h:fJ cs z=0)(k:∀ p i,p<n->fJ cs p=i+1->hm i<n)
 (f:∀ p q,p<n->q<n->fJ cs p≠0->fJ cs p=fJ cs q->p=q):pn n hm i0 cs cs hole hole z:=by
 have o:hole≠z:=fun e=>by rw[e,h]at hi;omega
 refine⟨l,b,b,g,fun p i hp _=>k p i hp,fun p q hp d _ _=>f p q hp d,fun i=>⟨?_,?_⟩,fun p i q hp d _ _ a m=>j p i q hp d a m,fun p i hp c _ _=>?_,h,?_⟩
 . rintro⟨p,hp,c,a⟩
   refine⟨fun e=>c (f p hole hp b o_ (by rw[a,hi,e])),p,hp,a⟩
 . rintro⟨c,p,hp,a⟩
   exact⟨p,hp,fun e=>c (by rw[e,hi]at a;omega),a⟩
 . rw[uF]
   have:=mt (ER b hp).1 (fun e=>c e.symm)
   omega
 . rw[uF]
   have:=mt (ER b g).1 o
   omega
section
variable {n:Nat} {hm:Nat->Nat} {i0:Nat} {cs0 cs:List Nat} {hole c z:Nat}
theorem pn.next(h:pn n hm i0 cs0 cs hole c z):ic n c<n/\ic n c≠hole/\dst n hole (ic n c)=dst n hole c+1/\c≠z/\dst n (ic n c) z<dst n c z:=by
 have i:=h.zc
 have a:=h.N1
 have b:=h.wh
 have d:=h.DW
 have f:c≠z:=fun e=>by rw[e]at i;omega
 have hs:=EP d a f
 have g:ic n c≠hole:=by
  intro e
  have:dst n hole c=n-1:=by rw[<-e];unfold dst ic;(repeat' split)<;>omega
  have:=EO b d
  omega
 exact⟨Ka a,g,Wr b a g,f,o_⟩
theorem pn.skip(h:pn n hm i0 cs0 cs hole c z){i:Nat}(hi:fJ cs (ic n c)=i+1)(k:dst n (hm i) (ic n c)<dst n hole (ic n c)):pn n hm i0 cs0 cs hole (ic n c) z:=by
 obtain⟨a,m,o,q,r⟩:=h.next
 refine⟨h.len,h.wh,a,h.DW,h.home,h.inj,h.mem,h.way,fun p j hp b f d=>?_,h.zero,?_⟩
 . have s:=h.RJ p j hp b f d
   have:p≠ic n c:=by
    intro e
    subst e
    have:j=i:=by omega
    subst this
    have t:=h.home _ _ a b f
    have l:=h.wh
    unfold rC dst at *
    (repeat' split at d)<;>(repeat' split at k)<;>omega
   have g:dst n hole p≠dst n hole (ic n c):=fun e=>this (EN h.wh hp a e)
   omega
 . have:z≠ic n c:=fun e=>by
    have:=h.zero
    rw[e,hi]at this
    omega
   have g:dst n hole z≠dst n hole (ic n c):=fun e=>this (EN h.wh h.DW a e)
   have:=h.zc
   omega
theorem pn.move(h:pn n hm i0 cs0 cs hole c z){i:Nat}(hi:fJ cs (ic n c)=i+1)(w:¬ dst n (hm i) (ic n c)<dst n hole (ic n c)):pn n hm i0 cs0 (fO cs hole (fun _=>i+1)) (ic n c) (ic n c) z:=by
 obtain⟨b,g,E,F,G⟩:=h.next
 have y:=h.len
 have v:=h.wh
 have x:=h.home _ _ b g hi
 have d:=fun q=>ji (xs:=cs) (k:=hole) (j:=q) (f:=fun _=>i+1) o_
 have C:hole≠z:=fun e=>by
  have:=h.zc
  rw[<-e,uF]at this
  omega
 have D:z≠ic n c:=fun e=>by
  have:=h.zero
  rw[e,hi]at this
  omega
 have B:rC n (hm i) (ic n c) hole:=by
  unfold rC dst at *
  (repeat' split at w)<;>(repeat' split)<;>omega
 refine⟨by rw[gB];exact y,b,b,h.DW,fun p j hp m a=>?_,fun p q hp o t u s l=>?_,fun j=>?_,fun p j q hp o t u a r=>?_,fun p j hp m a r=>?_,?_,?_⟩
 . rw[d]at a
   split at a
   . have:j=i:=by omega
     subst this
     exact x
   . rename_i A
     exact h.home p j hp (fun e=>A e.symm) a
 . rw[d]at s l
   rw[d]at l
   by_cases e1:hole=p
   . by_cases e2:hole=q
     . omega
     . rw[if_pos e1,if_neg e2]at l
       have:=h.inj q (ic n c) o b (fun e=>e2 e.symm) g o_ o_
       exact absurd this u
   . by_cases e2:hole=q
     . rw[if_neg e1,if_pos e2]at l
       have:=h.inj p (ic n c) hp b (fun e=>e1 e.symm) g o_ o_
       exact absurd this t
     . rw[if_neg e1,if_neg e2]at l
       rw[if_neg e1]at s
       exact h.inj p q hp o (fun e=>e1 e.symm) (fun e=>e2 e.symm) s l
 . rw[<-h.mem j]
   constructor
   . rintro⟨p,hp,m,a⟩
     rw[d]at a
     by_cases e1:hole=p
     . rw[if_pos e1]at a
       exact⟨ic n c,b,g,o_⟩
     . rw[if_neg e1]at a
       exact⟨p,hp,fun e=>e1 e.symm,a⟩
   . rintro⟨p,hp,m,a⟩
     by_cases e1:p=ic n c
     . refine⟨hole,v,fun e=>g e.symm,?_⟩
       rw[d,if_pos rfl]
       rw[e1,hi]at a
       omega
     . refine⟨p,hp,e1,?_⟩
       rw[d,if_neg (fun e=>m e.symm)]
       exact a
 . rw[d]at a ⊢
   by_cases e2:hole=q
   . rw[if_pos e2];omega
   . rw[if_neg e2]
     by_cases e1:hole=p
     . rw[if_pos e1]at a
       have:j=i:=by omega
       subst this
       subst e1
       exact h.way (ic n c) j q b o g (fun e=>e2 e.symm) hi (Nat.lt_trans r B)
     . rw[if_neg e1]at a
       exact h.way p j q hp o (fun e=>e1 e.symm) (fun e=>e2 e.symm) a r
 . rw[uF]
   have:=mt (ER b hp).1 (fun e=>m e.symm)
   omega
 . rw[d,if_neg C]
   exact h.zero
 . rw[uF]
   have:=mt (ER b h.DW).1 (fun e=>D e.symm)
   omega
theorem pn.done(h:pn n hm i0 cs0 cs hole c z)(o:fJ cs (ic n c)=0)(F:∃ p,p<n/\fJ cs0 p=i0+1) :
 rE n (fO cs hole (fun _=>0)) hm/\(∀ p q,p<n->q<n->fJ (fO cs hole (fun _=>0)) p≠0->fJ (fO cs hole (fun _=>0)) p=fJ (fO cs hole (fun _=>0)) q->p=q) /\
 (∀ i,(∃ p,p<n/\fJ (fO cs hole (fun _=>0)) p=i+1)↔i≠i0/\∃ p,p<n/\fJ cs0 p=i+1):=by
 obtain⟨r,t,u,D,v⟩:=h.next
 have G:=h.len
 have B:=h.wh
 have d:=fun q=>ji (xs:=cs) (k:=hole) (j:=q) (f:=fun _=>0) o_
 refine⟨fun p i q hp m a l=>?_,fun p q hp m g b=>?_,fun i=>?_⟩
 . rw[d]at a ⊢
   by_cases e1:hole=p
   . rw[if_pos e1]at a;omega
   . rw[if_neg e1]at a
     have E:=h.home p i hp (fun e=>e1 e.symm) a
     by_cases e2:hole=q
     . exfalso
       subst e2
       have w:=h.RJ p i hp (fun e=>e1 e.symm) a l
       have x:p≠ic n c:=fun e=>by rw[e,o]at a;omega
       have y:dst n hole p≠dst n hole (ic n c):=fun e=>x (EN B hp r e)
       have A:rC n (hm i) p (ic n c):=by
        have s:dst n hole (ic n c)<dst n hole p:=by omega
        clear w y u v
        unfold rC dst at *
        (repeat' split at l)<;>(repeat' split at s)<;>(repeat' split)<;>omega
       exact h.way p i (ic n c) hp r (fun e=>e1 e.symm) t a A o
     . rw[if_neg e2]
       exact h.way p i q hp m (fun e=>e1 e.symm) (fun e=>e2 e.symm) a l
 . rw[d]at g b
   rw[d]at b
   by_cases e1:hole=p
   . rw[if_pos e1]at g;omega
   . rw[if_neg e1]at g b
     by_cases e2:hole=q
     . rw[if_pos e2]at b;omega
     . rw[if_neg e2]at b
       exact h.inj p q hp m (fun e=>e1 e.symm) (fun e=>e2 e.symm) g b
 . rw[<-h.mem i]
   constructor
   . rintro⟨p,hp,a⟩
     rw[d]at a
     by_cases e1:hole=p
     . rw[if_pos e1]at a;omega
     . rw[if_neg e1]at a
       exact⟨p,hp,fun e=>e1 e.symm,a⟩
   . rintro⟨p,hp,C,a⟩
     exact⟨p,hp,by rw[d,if_neg (fun e=>C e.symm)];exact a⟩
end
end Go.Sx
namespace Go.Sx
open Go
structure AW where
 bv:Value
 A:As
structure AW.put (A A2:As) (i:Nat):Prop where
 n:A2.n=A.n
 used:A2.used=A.used+1
 gX:∀ j,A2.gX j↔A.gX j\/j=i
 new:¬ A.gX i
 oU:(i<A.begun/\A2.begun=A.begun)\/(i=A.begun/\A2.begun=A.begun+1)
structure AW.del (A A2:As) (i:Nat):Prop where
 n:A2.n=A.n
 oU:A2.begun=A.begun
 used:A2.used=A.used-1
 pos:0<A.used
 gX:∀ j,A2.gX j↔A.gX j/\j≠i
def kL(a:Int):Int:=(tE .xor .u64 a (a.fdiv (2 ^ 33))).getD 0
def mc(c a:Int):Int:=IntKind.u64.wrap (a*c)
def AD(id:Int):Int:=kL (mc 14181476777654086739 (kL (mc 18397679294719823053 (kL id))))
def kE(n:Nat)(id:Int):Nat:=(AD id%(n:Int)).toNat
theorem xV{n:Nat}{id:Int}(h:0<n):kE n id<n:=by
 have a:=Int.emod_lt_of_pos (AD id) (show (0:Int)<n by omega)
 have b:=DS (AD id) (show (n:Int)≠0 by omega)
 unfold kE
 omega
theorem ZE{n:Nat}{id:Int}(h:0<n):AD id%(n:Int)=(kE n id:Int):=by
 have a:=DS (AD id) (show (n:Int)≠0 by omega)
 unfold kE
 omega
def P2(n:Nat):Prop:=∃ k,k<=40/\n=2 ^ k
theorem P2.pos{n:Nat}(h:P2 n):0<n:=by
 obtain⟨k,_,rfl⟩:=h
 exact Nat.two_pow_pos k
theorem P2.le{n:Nat}(h:P2 n):n<=1099511627776:=by
 obtain⟨k,a,rfl⟩:=h
 calc 2 ^ k<=2 ^ 40:=Nat.pow_le_pow_right d_ a
  _=1099511627776:=by decide
theorem P2.TN{n:Nat}(h:P2 n)(x:Int):((BitVec.ofInt 64 x) &&& (BitVec.ofInt 64 ((n:Int)-1))).toNat=(x%(n:Int)).toNat:=by
 have g:=h.pos
 have f:=h.le
 obtain⟨k,d,rfl⟩:=h
 rw[BitVec.toNat_and,BitVec.toNat_ofInt,BitVec.toNat_ofInt]
 have e:(((2 ^ k:Nat):Int)-1)%((2 ^ 64:Nat):Int)=((2 ^ k-1:Nat):Int):=by
  grind
 rw[e,nq,Nat.and_two_pow_sub_one_eq_mod]
 have hd:(((2 ^ k:Nat):Int)) ∣ ((2 ^ 64:Nat):Int):=by
  refine Int.natCast_dvd_natCast.2 (Nat.pow_dvd_pow 2 o_)
 have c:0<=x%((2 ^ 64:Nat):Int):=DS _ d_
 have a:=Int.emod_emod_of_dvd x hd
 have b:((x%((2 ^ 64:Nat):Int)).toNat%2 ^ k:Nat)=((x%((2 ^ 64:Nat):Int))%((2 ^ k:Nat):Int)).toNat:=by
  grind
 rw[b,a]
theorem P2.Nr{n:Nat}(h:P2 n)(x:Int):tE .and .i64 x ((n:Int)-1)=some (x%(n:Int)):=by
 have a:=Int.emod_lt_of_pos x (show (0:Int)<n by have:=h.pos;omega)
 have b:=DS x (show (n:Int)≠0 by have:=h.pos;omega)
 have c:=h.le
 have e:=h.TN x
 show some (IntKind.i64.wrap (((BitVec.ofInt 64 x) &&& (BitVec.ofInt 64 ((n:Int)-1))).toNat:Int))=_
 rw[e,oL o_]
 congr 1
 omega
theorem P2.UZ{n:Nat}(h:P2 n)(x:Int):tE .and .u64 x ((n:Int)-1)=some (x%(n:Int)):=by
 have a:=Int.emod_lt_of_pos x (show (0:Int)<n by have:=h.pos;omega)
 have b:=DS x (show (n:Int)≠0 by have:=h.pos;omega)
 have c:=h.le
 have e:=h.TN x
 show some (IntKind.u64.wrap (((BitVec.ofInt 64 x) &&& (BitVec.ofInt 64 ((n:Int)-1))).toNat:Int))=_
 rw[e,GM o_]
 congr 1
 omega
theorem P2.nx{n c:Nat}(h:P2 n)(a:c<n):tE .and .i64 ((c:Int)+1) ((n:Int)-1)=some ((ic n c:Nat):Int):=by
 rw[h.Nr,<-ab4 a]
 rfl
theorem P2.dst{n a b:Nat}(h:P2 n)(c:a<n)(hb:b<n):tE .and .i64 ((b:Int)-(a:Int)) ((n:Int)-1)=some ((dst n a b:Nat):Int):=by
 rw[h.Nr]
 congr 1
 unfold Sx.dst
 split
 . rw[Int.emod_eq_of_lt o_ o_]
   omega
 . rw[show (b:Int)-(a:Int)=((b:Int)-a+n)+n*(-1) by omega,Int.add_mul_emod_self_left,Int.emod_eq_of_lt o_ o_]
   omega
theorem LI(a:Int):tE .xor .u64 a (a.fdiv (2 ^ 33))=some (kL a):=rfl
theorem P2.home{n:Nat}(h:P2 n)(id:Int):tE .and .u64 (AD id) ((n:Int)-1)=some ((kE n id:Nat):Int):=by
 rw[h.UZ,ZE h.pos]
def ij(x:Int):List Value:=[.int .u64 x]
structure TW where
 iv:Value
 cv:Value
 w:AW
 ids:List Int
 cs:List Nat
abbrev TW.A(t:TW):As:=t.w.A
abbrev TW.n(t:TW):Nat:=t.cs.length
structure TW.ok (t:TW):Prop where
 p2:P2 t.n
 top:t.n<=1000000
 two:2<=t.n
 room:2*t.A.n<=t.n
 an:t.A.n<=65536
 tJ:t.ids.length=t.A.begun
 ids:∀ i,gV .u64 (fJ t.ids i)
 cell:∀ i,(∃ p,p<t.n/\fJ t.cs p=i+1)↔t.A.gX i
 inj:∀ p q,p<t.n->q<t.n->fJ t.cs p≠0->fJ t.cs p=fJ t.cs q->p=q
 uniq:∀ i j,t.A.gX i->t.A.gX j->fJ t.ids i=fJ t.ids j->i=j
 F3:rE t.n t.cs (fun i=>kE t.n (fJ t.ids i))
 oU:t.A.begun<=t.A.n
 ul:t.A.used<=t.A.n
structure TW.Sz (n:Nat):Prop where
 p2:P2 n
 two:2<=n
 top:n<=1000000
theorem TW.ok.sz{t:TW}(h:t.ok):TW.Sz t.n:=⟨h.p2,h.two,h.top⟩
def TW.mem(t:TW)(id:Int):Prop:=∃ i,t.A.gX i/\fJ t.ids i=id
theorem TW.ok.val{t:TW}(h:t.ok){p i:Nat}(hp:p<t.n)(c:fJ t.cs p=i+1):t.A.gX i/\i<t.A.begun/\i<t.ids.length/\i<t.A.n:=by
 have a:=(h.cell i).1 ⟨p,hp,c⟩
 have b:=a.1
 have d:=h.tJ
 have e:=h.oU
 exact⟨a,b,o_,o_⟩
theorem TW.ok.zero{t:TW}(h:t.ok):∃ z,z<t.n/\fJ t.cs z=0:=by
 by_cases hz:∃ z,z<t.n/\fJ t.cs z=0
 . exact hz
 . exfalso
   have a:∀ p,p<t.n->fJ t.cs p≠0:=fun p hp c=>hz ⟨p,hp,c⟩
   have d:((List.range t.n).map fun p=>fJ t.cs p-1).length<=t.A.n:=by
    refine AQ _ _ ?_ ?_
    . unfold List.Nodup
      rw[Ho]
      refine List.Pairwise.imp_of_mem ?_ (List.pairwise_lt_range (n:=t.n))
      intro p q hp b g e
      rw[l7]at hp b
      have a1:=a p hp
      have a2:=a q b
      have:=h.inj p q hp b a1 o_
      omega
    . intro j f
      obtain⟨p,hp,rfl⟩:=zz.1 f
      rw[l7]at hp
      have a1:=a p hp
      exact(h.val hp (i:=fJ t.cs p-1) o_).2.2.2
   rw[zu,qy]at d
   have:=h.room
   have:=h.two
   omega
def TW.find(t:TW)(id:Int):Nat×Bool:=uJ t.n t.cs (fun i=>fJ t.ids i==id) t.n (kE t.n id)
theorem TW.ok.I5{t:TW}(h:t.ok){i:Nat}(hi:t.A.gX i):∃ p,p<t.n/\fJ t.cs p=i+1/\t.find (fJ t.ids i)=(p,true):=by
 obtain⟨p,hp,a⟩:=(h.cell i).2 hi
 refine⟨p,hp,a,?_⟩
 refine YK (hm:=fun i=>kE t.n (fJ t.ids i)) h.F3 hp a (xV (by have:=h.two;omega)) s_ ?_ h.zero
 intro q j b c e
 have d:=(h.val b c).1
 have:=h.uniq j i d hi (by simpa using e)
 subst this
 exact h.inj q p b hp o_ o_
theorem TW.ok.PE{t:TW}(h:t.ok){id:Int}(c:¬ t.mem id):∃ r,r<t.n/\t.find id=(r,false)/\fJ t.cs r=0/\∀ q,q<t.n->rC t.n (kE t.n id) r q->fJ t.cs q≠0:=by
 refine YJ (xV (by have:=h.two;omega)) ?_ h.zero
 intro q j d a
 have b:=(h.val d a).1
 have:fJ t.ids j≠id:=fun e=>c ⟨j,b,e⟩
 simpa using this
def tS(ids:List Int)(i:Nat)(id:Int):List Int:=fO (if i=ids.length then ids++[0]else ids) i (fun _=>id)
theorem Sc{ids:List Int}{i:Nat}{id:Int}(h:i<=ids.length)(j:Nat):fJ (tS ids i id) j=if i=j then id else fJ ids j:=by
 grind [tS,ji,fJ]
theorem ac6{ids:List Int}{i:Nat}{id:Int}(h:i<=ids.length):(tS ids i id).length=if i=ids.length then ids.length+1 else ids.length:=by
 unfold tS
 rw[gB]
 split<;>simp
section
variable {t:TW}
theorem TW.ok.put(h:t.ok){id:Int}(G:¬ t.mem id)(L:gV .u64 id){v2:AW}{i r:Nat}(B:v2.A.ok)(hp:AW.put t.A v2.A i)(C:r<t.n)(D:fJ t.cs r=0)(P:∀ q,q<t.n->rC t.n (kE t.n id) r q->fJ t.cs q≠0)(iv cv:Value){is2:List Int}{cs2:List Nat}(E:is2=tS t.ids i id)(hcs:cs2=fO t.cs r (fun _=>i+1)) :
 TW.ok ⟨iv,cv,v2,is2,cs2⟩/\∀ x,TW.mem ⟨iv,cv,v2,is2,cs2⟩ x↔t.mem x\/x=id:=by
 have Q:=h.tJ
 have F:i<=t.ids.length:=by
  rcases hp.oU with d|d<;>omega
 have m:∀ j,fJ is2 j=if i=j then id else fJ t.ids j:=by rw[E];exact Sc F
 have y:∀ q,fJ cs2 q=if r=q then i+1 else fJ t.cs q:=by rw[hcs];exact fun q=>ji C
 have o:cs2.length=t.n:=by rw[hcs];exact gB
 have O:is2.length=if i=t.ids.length then t.ids.length+1 else t.ids.length:=by rw[E];exact ac6 F
 have v:=hp.gX
 have H:=hp.new
 have w:∀ j,t.A.gX j->i≠j:=fun j g e=>H (e▸g)
 have N:∀ x,TW.mem ⟨iv,cv,v2,is2,cs2⟩ x↔t.mem x\/x=id:=by
  intro x
  constructor
  . rintro⟨j,g,u⟩
    change fJ is2 j=x at u
    rw[m]at u
    split at u
    . exact .inr u.symm
    . rename_i M
      rcases(v j).1 g with d|d
      . exact .inl ⟨j,d,u⟩
      . exact absurd d.symm M
  . rintro(⟨j,g,u⟩|rfl)
    . exact⟨j,(v j).2 (.inl g),by show fJ is2 j=x;rw[m,if_neg (w j g)];exact u⟩
    . exact⟨i,(v i).2 (.inr rfl),by show fJ is2 i=x;rw[m,if_pos rfl]⟩
 have R:∀ p,p<t.n->fJ t.cs p≠i+1:=fun p k f=>H (h.val k f).1
 refine⟨⟨?_,?_,?_,?_,?_,?_,?_,?_,?_,?_,?_,?_,?_⟩,N⟩
 . show P2 cs2.length;rw[o];exact h.p2
 . show cs2.length<=_;rw[o];exact h.top
 . show 2<=cs2.length;rw[o];exact h.two
 . show 2*v2.A.n<=cs2.length;rw[o,hp.n];exact h.room
 . show v2.A.n<=_;rw[hp.n];exact h.an
 . show is2.length=v2.A.begun
   rw[O]
   rcases hp.oU with d|d
   . rw[if_neg o_];omega
   . rw[if_pos o_];omega
 . intro j
   show gV .u64 (fJ is2 j)
   rw[m]
   split
   . exact L
   . exact h.ids j
 . intro j
   show (∃ p,p<cs2.length/\fJ cs2 p=j+1)↔v2.A.gX j
   rw[o,v]
   constructor
   . rintro⟨p,k, f⟩
     rw[y]at f
     split at f
     . exact .inr o_
     . exact .inl ((h.cell j).1 ⟨p,k, f⟩)
   . rintro(d|rfl)
     . obtain⟨p,k, f⟩:=(h.cell j).2 d
       refine⟨p,k, ?_⟩
       rw[y,if_neg (fun e=>by rw[e,f]at D;omega)]
       exact f
     . exact⟨r,C,by rw[y,if_pos rfl]⟩
 . intro p q k s
   show fJ cs2 p≠0->fJ cs2 p=fJ cs2 q->p=q
   change p<cs2.length at k
   change q<cs2.length at s
   rw[o]at k s
   rw[y,y]
   intro a b
   by_cases d:r=p
   . grind
   . by_cases l:r=q
     . grind
     . rw[if_neg d,if_neg l]at b
       rw[if_neg d]at a
       exact h.inj p q k s a b
 . intro a b K hb
   show fJ is2 a=fJ is2 b->a=b
   rw[m,m]
   intro e
   rcases(v a).1 K with d|d<;>rcases(v b).1 hb with l|l
   . rw[if_neg (w a d),if_neg (w b l)]at e
     exact h.uniq a b d l e
   . rw[if_neg (w a d),if_pos l.symm]at e
     exact absurd ⟨a,d,e⟩ G
   . rw[if_pos d.symm,if_neg (w b l)]at e
     exact absurd ⟨b,l,e.symm⟩ G
   . omega
 . show rE cs2.length _ (fun j=>kE cs2.length (fJ is2 j))
   rw[o]
   have I:rE t.n t.cs (fun j=>kE t.n (fJ is2 j)):=by
    intro c j q f s g z
    have d:=w j (h.val f g).1
    simp only[m,if_neg d]at z
    exact h.F3 c j q f s g z
   have J:=I.put rfl C D (i:=i) (by
    intro q s z
    simp only[m,if_pos]at z
    exact P q s z) (xV (by have:=h.two;omega))
   rw[hcs]
   exact J
 . show v2.A.begun<=v2.A.n
   exact B.le
 . show v2.A.used<=v2.A.n
   have:=B.used
   have:=B.le
   omega
end
section
variable {t:TW}
def TW.rest(t:TW)(id:Int)(k c:Nat):Prop:=t.find id=uJ t.n t.cs (fun i=>fJ t.ids i==id) (t.n-k) c
theorem TW.ady(t:TW)(id:Int):t.rest id 0 (kE t.n id):=rfl
theorem TW.KB{id:Int}{k c:Nat}(h:t.rest id k c)(hk:k<t.n):t.find id=if fJ t.cs c=0 then(c,false)else if (fJ t.ids (fJ t.cs c-1)==id)=true then(c,true)else uJ t.n t.cs (fun i=>fJ t.ids i==id) (t.n-(k+1)) (ic t.n c):=by
 have e:t.n-k=(t.n-(k+1))+1:=by omega
 unfold TW.rest at h
 rw[e]at h
 exact h
theorem TW.adz{id:Int}{k c:Nat}(h:t.rest id k c)(hk:k<t.n)(a:fJ t.cs c=0):t.find id=(c,false):=by
 rw[TW.KB h hk,if_pos a]
theorem TW.adw{id:Int}{k c j:Nat}(h:t.rest id k c)(hk:k<t.n)(b:fJ t.cs c=j+1)(a:fJ t.ids j=id):t.find id=(c,true):=by
 rw[TW.KB h hk,if_neg o_,if_pos (by rw[b];simpa using a)]
theorem TW.adx{id:Int}{k c j:Nat}(h:t.rest id k c)(hk:k<t.n)(b:fJ t.cs c=j+1)(a:fJ t.ids j≠id):t.rest id (k+1) (ic t.n c):=by
 have:=TW.KB h hk
 rw[if_neg o_,if_neg (by rw[b];simpa using a)]at this
 exact this
theorem TW.adv{id:Int}{c:Nat}(h:t.rest id t.n c):t.find id=(0,false):=by
 unfold TW.rest at h
 rw[Nat.sub_self]at h
 exact h
end
def TW.kN(t:TW)(id:Int)(z:Nat)(b:Bool):Prop:=(b=true/\t.A.gX z/\fJ t.ids z=id)\/(b=false/\z=0/\¬ t.mem id)
section
variable {t:TW}
theorem TW.ok.del(h:t.ok){i:Nat}(hi:t.A.gX i){v2:AW}(r:v2.A.ok)(hd:AW.del t.A v2.A i){cs2:List Nat}(m:cs2.length=t.n)
 (o:rE t.n cs2 (fun j=>kE t.n (fJ t.ids j))/\(∀ p q,p<t.n->q<t.n->fJ cs2 p≠0->fJ cs2 p=fJ cs2 q->p=q)/\(∀ s,(∃ p,p<t.n/\fJ cs2 p=s+1)↔s≠i/\∃ p,p<t.n/\fJ t.cs p=s+1)) (iv cv:Value) {is2:List Int} (v:is2=fO t.ids i (fun _=>0)) :
 TW.ok ⟨iv,cv,v2,is2,cs2⟩/\∀ x,TW.mem ⟨iv,cv,v2,is2,cs2⟩ x↔t.mem x/\x≠fJ t.ids i:=by
 obtain⟨B,H,y⟩:=o
 have D:i<t.ids.length:=by have:=hi.1;have:=h.tJ;omega
 have g:∀ j,fJ is2 j=if i=j then 0 else fJ t.ids j:=by rw[v];exact fun j=>ji D
 have l:=hd.gX
 have G:∀ j,(∃ p,p<t.n/\fJ cs2 p=j+1)↔v2.A.gX j:=by
  intro j
  rw[y,l,h.cell]
  exact And.comm
 refine⟨⟨?_,?_,?_,?_,?_,?_,?_,?_,?_,?_,?_,?_,?_⟩,fun x=>⟨?_,?_⟩⟩
 . show P2 cs2.length;rw[m];exact h.p2
 . show cs2.length<=_;rw[m];exact h.top
 . show 2<=cs2.length;rw[m];exact h.two
 . show 2*v2.A.n<=cs2.length;rw[m,hd.n];exact h.room
 . show v2.A.n<=_;rw[hd.n];exact h.an
 . show is2.length=v2.A.begun;rw[v,gB,hd.oU];exact h.tJ
 . intro j
   show gV .u64 (fJ is2 j)
   rw[g]
   split
   . exact⟨d_,d_⟩
   . exact h.ids j
 . grind
 . grind
 . intro a b C hb
   show fJ is2 a=fJ is2 b->a=b
   have d:=(l a).1 C
   have u:=(l b).1 hb
   rw[g,g,if_neg (fun e=>d.2 e.symm),if_neg (fun e=>u.2 e.symm)]
   exact h.uniq a b d.1 u.1
 . show rE cs2.length _ (fun j=>kE cs2.length (fJ is2 j))
   rw[m]
   intro c j q o F k z
   have d:j≠i:=((y j).1 ⟨c,o,k⟩).1
   simp only[g,if_neg (fun e=>d e.symm:¬ i=j)]at z
   exact B c j q o F k z
 . show v2.A.begun<=v2.A.n
   exact r.le
 . show v2.A.used<=v2.A.n
   have:=r.used
   have:=r.le
   omega
 . rintro⟨j,k,f⟩
   change fJ is2 j=x at f
   have d:=(l j).1 k
   rw[g,if_neg (fun e=>d.2 e.symm)]at f
   exact⟨⟨j,d.1,f⟩,fun e=>d.2 (h.uniq j i d.1 hi (f.trans e))⟩
 . rintro⟨⟨j,k,f⟩,E⟩
   have w:j≠i:=fun e=>E (by rw[<-f,e])
   exact⟨j,(l j).2 ⟨k,w⟩,by show fJ is2 j=x;rw[g,if_neg (fun e=>w e.symm)];exact f⟩
theorem TW.ok.copy(h:t.ok){v2:AW}{f:List (Option Nat)}(hv:v2.A={ t.A with ps:=f })(iv cv:Value):TW.ok ⟨iv,cv,v2,t.ids,t.cs⟩/\∀ x,TW.mem ⟨iv,cv,v2,t.ids,t.cs⟩ x↔t.mem x:=by
 have c:∀ j,v2.A.gX j↔t.A.gX j:=fun j=>by rw[hv];rfl
 have e1:v2.A.n=t.A.n:=by rw[hv]
 have d:v2.A.begun=t.A.begun:=by rw[hv]
 refine⟨⟨h.p2,h.top,h.two,?_,?_,?_,h.ids,?_,h.inj,?_,h.F3,?_,?_⟩,fun x=>?_⟩
 . show 2*v2.A.n<=_;rw[e1];exact h.room
 . show v2.A.n<=_;rw[e1];exact h.an
 . show t.ids.length=v2.A.begun;rw[d];exact h.tJ
 . exact fun i=>(h.cell i).trans (c i).symm
 . exact fun a b e hb=>h.uniq a b ((c a).1 e) ((c b).1 hb)
 . show v2.A.begun<=v2.A.n;rw[e1,d];exact h.oU
 . show v2.A.used<=v2.A.n;rw[hv];exact h.ul
 . exact exists_congr fun i=>and_congr_left fun _=>c i
theorem P2.two:P2 2:=⟨1,d_,rfl⟩
theorem P2.Wh{n:Nat}(h:P2 n)(b:n<=1000000):P2 (n*2):=by
 obtain⟨k,a,rfl⟩:=h
 refine⟨k+1,?_,by rw[DV]⟩
 by_cases h9:k+1<=40
 . exact h9
 . grind
theorem TW.tP{m n:Nat}{v:AW}(hv:v.A=As.new m)(hm:m<=65536)(r:P2 n)(h1:2<=n)(l:2*m<=n)(o:n<=1000000)(iv cv:Value):TW.ok ⟨iv,cv,v,[],List.replicate n 0⟩/\∀ x,¬ TW.mem ⟨iv,cv,v,[],List.replicate n 0⟩ x:=by
 have s:(List.replicate n 0).length=n:=xm
 have k:∀ p,fJ (List.replicate n 0) p=0:=by
  intro p
  simp only[fJ,uk]
  split<;>rfl
 have f:∀ j,¬ v.A.gX j:=fun j d=>by rw[hv]at d;exact absurd d.1 (by simp[As.new])
 have e1:v.A.n=m:=by rw[hv];rfl
 have g:v.A.begun=0:=by rw[hv];rfl
 refine⟨⟨?_,?_,?_,?_,?_,?_,?_,?_,?_,?_,?_,?_,?_⟩,fun x ⟨j,d,_⟩=>f j d⟩
 . grind
 . grind
 . grind
 . grind
 . show v.A.n<=_;rw[e1];exact hm
 . grind
 . intro j
   have e:fJ ([]:List Int) j=0:=by show (none:Option Int).getD default=0;rfl
   show gV .u64 (fJ ([]:List Int) j)
   rw[e]
   exact⟨d_,d_⟩
 . grind
 . intro p q _ _ h
   exact absurd (k p) h
 . exact fun a b i=>absurd i (f a)
 . intro c j q _ _ d
   grind
 . show v.A.begun<=v.A.n;rw[g];omega
 . show v.A.used<=v.A.n;rw[hv];exact oN _
end
end Go.Sx
namespace Go.Sx
open Go
structure Lv where
 slot:Int
 seq:Int
 u:Int
 v:Int
 wt:Int
 t:Int
 exp:Int
structure Cf where
 win:Int
 fL:Int
 fN:Int
 kH:Int
instance:Inhabited Lv:=⟨⟨0,0,0,0,0,0,0⟩⟩
def Lv.cells(x:Lv):List Value:=[.int .i64 x.slot,.int .u64 x.seq,.int .u64 x.u,.int .u64 x.v,.int .i64 x.wt,.int .i64 x.t,.int .i64 x.exp]
structure Lv.ok (x:Lv):Prop where
 slot:gV .i64 x.slot
 seq:gV .u64 x.seq
 u:gV .u64 x.u
 v:gV .u64 x.v
 wt:gV .i64 x.wt
 t:gV .i64 x.t
 exp:gV .i64 x.exp
end Go.Sx
namespace Go.Sx
open Go
end Go.Sx
namespace Go.Sx
open Go
structure fV where
 je:Nat
 tb:Nat
 ab:Nat
 mb:Nat
 lv:Value
 last:Int
 aw:AW
 t:TW
 live:List Lv
 im:IM
abbrev fV.A(s:fV):As:=s.aw.A
abbrev Lv.at(x:Lv)(id:Int):Prop:=x.u=id\/x.v=id
def fV.inc(s:fV)(id:Int):List Nat:=(fT s.im id).2
structure fV.ok (fN fL:Nat) (s:fV):Prop where
 n:s.A.n=fL
 tn:s.t.A.n=fN
 en:fL<=16384
 vn:fN<=4096
 kS:s.A.ok
 tok:s.t.ok
 ll:s.live.length=s.A.begun
 slot:∀ i,s.A.gX i->(fJ s.live i).slot=(i:Int)
 Fx:∀ i,(fJ s.live i).ok
 ne:∀ i,s.A.gX i->(fJ s.live i).u≠(fJ s.live i).v
 mem:∀ id,s.t.mem id↔∃ i,s.A.gX i/\(fJ s.live i).at id
 keys:(s.im.map Prod.fst).Nodup
 inc:∀ id i,i∈s.inc id↔s.A.gX i/\(fJ s.live i).at id
 nd:∀ id,(s.inc id).Nodup
 empty:∀ id,gU s.im id=none↔s.inc id=[]
 seq:∀ i,s.A.gX i->(fJ s.live i).seq<=s.last
 Gk:∀ i j,s.A.gX i->s.A.gX j->(fJ s.live i).seq=(fJ s.live j).seq->i=j
 sP:0<=s.last
def fV.has(s:fV)(x:Lv):Prop:=∃ i,s.A.gX i/\fJ s.live i=x
noncomputable def TW.cnt(t:TW)(id:Int):Nat:=by
 classical
 exact if t.mem id then 0 else 1
theorem TW.xN{t:TW}{id:Int}(h:t.mem id):t.cnt id=0:=by unfold TW.cnt;exact if_pos h
theorem TW.tF{t:TW}{id:Int}(h:¬ t.mem id):t.cnt id=1:=by unfold TW.cnt;exact if_neg h
theorem TW.kN.cnt{t:TW}{id:Int}{z:Nat}{b:Bool}(h:t.kN id z b):t.cnt id=if b then 0 else 1:=by
 rcases h with ⟨rfl,a,c⟩|⟨rfl,_,h⟩
 . exact TW.xN ⟨z,a,c⟩
 . exact TW.tF h
noncomputable def fV.gP(s:fV)(fN fL:Nat)(u v:Int):Int:=by
 classical
 exact if u=v then 9 else if fL<=s.A.used then 12 else if fN<s.t.A.used+(s.t.cnt u+s.t.cnt v)then 11 else 0
theorem fV.NV{s:fV}{fN fL:Nat}{u v:Int}(h:u=v):s.gP fN fL u v=9:=by unfold fV.gP;rw[if_pos h]
theorem fV.NU{s:fV}{fN fL:Nat}{u v:Int}(h:u≠v)(h1:fL<=s.A.used):s.gP fN fL u v=12:=by unfold fV.gP;rw[if_neg h,if_pos h1]
theorem fV.Co{s:fV}{fN fL:Nat}{u v:Int}(h:u≠v)(h1:¬ fL<=s.A.used)(a:fN<s.t.A.used+(s.t.cnt u+s.t.cnt v)):s.gP fN fL u v=11:=by unfold fV.gP;rw[if_neg h,if_neg h1,if_pos a]
theorem fV.Am{s:fV}{fN fL:Nat}{u v:Int}(h:u≠v)(h1:¬ fL<=s.A.used)(a:¬ fN<s.t.A.used+(s.t.cnt u+s.t.cnt v)):s.gP fN fL u v=0:=by unfold fV.gP;rw[if_neg h,if_neg h1,if_neg a]
theorem fV.EJ{s:fV}{fN fL:Nat}{u v:Int}(h:s.gP fN fL u v=0):u≠v/\s.A.used<fL/\s.t.A.used+(s.t.cnt u+s.t.cnt v)<=fN:=by
 grind [fV.NV,fV.NU,fV.Co]
def yI(ls:List Lv)(i:Nat)(x:Lv):List Lv:=fO (if i=ls.length then ls++[default]else ls) i (fun _=>x)
theorem ac7{ls:List Lv}{i:Nat}{x:Lv}(h:i<=ls.length)(j:Nat):fJ (yI ls i x) j=if i=j then x else fJ ls j:=by
 grind [yI,ji,fJ]
theorem ac8{ls:List Lv}{i:Nat}{x:Lv}(h:i<=ls.length):(yI ls i x).length=if i=ls.length then ls.length+1 else ls.length:=by
 unfold yI
 rw[gB]
 split<;>simp
section
variable {fN fL:Nat} {s:fV}
theorem fV.ok.ins(h:s.ok fN fL){e:Lv}{i:Nat}{l:AW}{p:TW}(hp:AW.put s.A l.A i)(q:l.A.ok)(S:p.ok)(J:e.slot=(i:Int))(w:e.seq=s.last+1)(I:e.ok)(N:e.u≠e.v)
 (Q:∀ x,p.mem x↔(s.t.mem x\/x=e.u)\/x=e.v) (R:p.A.n=s.t.A.n) {lv2 G v2:Value} {ls:List Lv} (E:ls=yI s.live i e) {im2:IM}
 (C:im2=gx (gx s.im e.u (G,s.inc e.u++[i])) e.v (v2,s.inc e.v++[i])) :
 fV.ok fN fL ⟨s.je,s.tb,s.ab,s.mb,lv2,s.last+1,l,p,ls,im2⟩/\∀ x,fV.has ⟨s.je,s.tb,s.ab,s.mb,lv2,s.last+1,l,p,ls,im2⟩ x↔s.has x\/x=e:=by
 have U:=h.ll
 have D:i<=s.live.length:=by
  rcases hp.oU with c|c<;>omega
 have r:∀ j,fJ ls j=if i=j then e else fJ s.live j:=by rw[E];exact ac7 D
 have M:ls.length=if i=s.live.length then s.live.length+1 else s.live.length:=by rw[E];exact ac8 D
 have f:=hp.gX
 have F:=hp.new
 have O:∀ j,s.A.gX j->i≠j:=fun j d e=>F (e▸d)
 have g:∀ j,s.A.gX j->fJ ls j=fJ s.live j:=fun j d=>by rw[r,if_neg (O j d)]
 have m:fJ ls i=e:=by rw[r,if_pos rfl]
 have B:∀ id,gU im2 id=if e.v=id then some (v2,s.inc e.v++[i])else if e.u=id then some (G,s.inc e.u++[i])else gU s.im id:=by
  intro id
  rw[C,wB,wB]
 have y:∀ id,(fT im2 id).2=if e.v=id then s.inc e.v++[i]else if e.u=id then s.inc e.u++[i]else s.inc id:=by
  intro id
  unfold fT
  rw[B]
  split
  . rfl
  . split
    . rfl
    . rfl
 have P:∀ id,i∉s.inc id:=fun id hi=>F ((h.inc id i).1 hi).1
 refine⟨⟨?_,?_,h.en,h.vn,q,S,?_,?_,?_,?_,?_,?_,?_,?_,?_,?_,?_,?_⟩,fun x=>⟨?_,?_⟩⟩
 . exact hp.n.trans h.n
 . exact R.trans h.tn
 . show ls.length=l.A.begun
   rw[M]
   rcases hp.oU with c|c
   . rw[if_neg o_];omega
   . rw[if_pos o_];omega
 . intro j d
   show (fJ ls j).slot=(j:Int)
   rcases(f j).1 d with c|rfl
   . rw[g j c];exact h.slot j c
   . rw[m];exact J
 . intro j
   show (fJ ls j).ok
   rw[r]
   split
   . exact I
   . exact h.Fx j
 . intro j d
   show (fJ ls j).u≠(fJ ls j).v
   rcases(f j).1 d with c|rfl
   . rw[g j c];exact h.ne j c
   . rw[m];exact N
 . intro id
   show p.mem id↔∃ j,l.A.gX j/\(fJ ls j).at id
   rw[Q,h.mem]
   constructor
   . rintro((⟨j,d,k⟩|rfl)|rfl)
     . grind
     . grind
     . grind
   . rintro⟨j,d,k⟩
     rcases(f j).1 d with c|rfl
     . grind
     . grind
 . show (im2.map Prod.fst).Nodup
   rw[C]
   exact wG (wG h.keys _ _) _ _
 . intro id j
   show j∈(fT im2 id).2↔l.A.gX j/\(fJ ls j).at id
   rw[y,f]
   have T:=h.inc id j
   grind [fJ]
 . intro id
   show (fT im2 id).2.Nodup
   rw[y]
   have z:∀ id,(s.inc id++[i]).Nodup:=fun id=>zr.2 ⟨h.nd id,s_,fun a q b hb=>by
    rw[z8]at hb
    subst hb
    rintro rfl
    exact P id q⟩
   split
   . exact z _
   . split
     . exact z _
     . exact h.nd id
 . intro id
   show gU im2 id=none↔(fT im2 id).2=[]
   rw[y,B]
   split
   . simp
   . split
     . simp
     . exact h.empty id
 . intro j d
   show (fJ ls j).seq<=s.last+1
   rcases(f j).1 d with c|rfl
   . rw[g j c];have:=h.seq j c;omega
   . rw[m,w];omega
 . intro a b K L
   show (fJ ls a).seq=(fJ ls b).seq->a=b
   rcases(f a).1 K with c|c<;>rcases(f b).1 L with o|o
   . rw[g a c,g b o];exact h.Gk a b c o
   . rw[g a c,o,m,w];intro H;have:=h.seq a c;omega
   . rw[g b o,c,m,w];intro H;have:=h.seq b o;omega
   . intro _;omega
 . show 0<=s.last+1
   have:=h.sP
   omega
 . rintro⟨j,d,k⟩
   change fJ ls j=x at k
   rcases(f j).1 d with c|c
   . rw[g j c]at k;exact .inl ⟨j,c,k⟩
   . rw[c,m]at k;exact .inr k.symm
 . rintro(⟨j,d,k⟩|rfl)
   . exact⟨j,(f j).2 (.inl d),by show fJ ls j=x;rw[g j d];exact k⟩
   . exact⟨i,(f i).2 (.inr rfl),m⟩
end
structure TW.zT (t t2:TW) (id:Int):Prop where
 mem:∀ x,t2.mem x↔t.mem x\/x=id
 n:t2.A.n=t.A.n
 used:t2.A.used=t.A.used+t.cnt id
theorem TW.SB{t:TW}{u:Int}(h:t.A.used+t.cnt u<=t.A.n):t.mem u\/t.A.used<t.A.n:=by
 grind [TW.tF]
theorem TW.zT.room{t t2:TW}{u v:Int}(p:TW.zT t t2 u)(h:t.A.used+(t.cnt u+t.cnt v)<=t.A.n):t2.mem v\/t2.A.used<t2.A.n:=by
 by_cases hm:t2.mem v
 . exact .inl hm
 . have b:¬ t.mem v:=fun a=>hm ((p.mem v).2 (.inl a))
   rw[TW.tF b]at h
   rw[p.used,p.n]
   exact .inr o_
theorem tO{γ:Type}[Inhabited γ]{m:List (Int×γ)}{a c:Int}{x:γ}(h:a≠c):fT (gx m a x) c=fT m c:=by
 unfold fT
 rw[wB,if_neg h]
theorem kF{a:Int}(h : -9223372036854775808<=a/\a<=9223372036854775807):gV .i64 a:=h
theorem oV{a:Int}(h:0<=a/\a<=18446744073709551615):gV .u64 a:=h
theorem fV.ok.Jk{fN fL:Nat}{s:fV}(h:s.ok fN fL)(id:Int):(s.inc id).length<=65536:=by
 refine k7 (AQ s.A.begun _ (h.nd id) fun j a=>((h.inc id j).1 a).1.1) ?_
 have:=h.kS.le
 have:=h.n
 have:=h.en
 omega
structure mu (im:IM) (t:TW) (im2:IM) (t2:TW) (id:Int) (i:Nat):Prop where
 get:∀ c j,j∈(fT im2 c).2↔j∈(fT im c).2/\(c=id->j≠i)
 nd:(∀ c,(fT im c).2.Nodup)->∀ c,(fT im2 c).2.Nodup
 none:(∀ c,gU im c=none↔(fT im c).2=[])->∀ c,gU im2 c=none↔(fT im2 c).2=[]
 keys:(im.map Prod.fst).Nodup->(im2.map Prod.fst).Nodup
 mem:∀ x,t2.mem x↔t.mem x/\(x=id->(fT im2 id).2≠[])
 n:t2.A.n=t.A.n
theorem abl{γ:Type}[Inhabited γ]{m:List (Int×γ)}{a c:Int}{x:γ}:fT (gx m a x) c=if a=c then x else fT m c:=by
 unfold fT
 rw[wB]
 split<;>rfl
theorem abk{m:IM}(b:(m.map Prod.fst).Nodup){a c:Int}:fT (iJ m a) c=if a=c then default else fT m c:=by
 unfold fT
 rw[FG b]
 split<;>rfl
theorem J5{xs:List Nat}(d:xs.Nodup){a b:Nat}(c:a<xs.length)(hb:b<xs.length)(e:xs[a]=xs[b]):a=b:=by
 rcases Hq a b with h|h|h
 . exact absurd e (vm.1 d a b c hb h)
 . exact h
 . exact absurd e.symm (vm.1 d b a hb c h)
theorem Pj{xs:List Nat}{i k:Nat}(f:xs.Nodup)(hk:xs[k]? = some i)(j:Nat):j∈xs.eraseIdx k↔j∈xs/\j≠i:=by
 obtain⟨e,d⟩:=zj.1 hk
 rw[List.mem_eraseIdx_iff_getElem]
 constructor
 . grind [J5]
 . rintro⟨b,g⟩
   obtain⟨a,c,rfl⟩:=ue b
   grind
theorem mu.keep{im:IM}{t:TW}{id:Int}{i k:Nat}{v:Value}(d:(fT im id).2.Nodup)(hk:(fT im id).2[k]? = some i)(b:(fT im id).2.eraseIdx k≠[]):mu im t (gx im id (v,(fT im id).2.eraseIdx k)) t id i:=by
 have a:∀ c,(fT (gx im id (v,(fT im id).2.eraseIdx k)) c).2=if id=c then(fT im id).2.eraseIdx k else(fT im c).2:=fun c=>by rw[abl];split<;>rfl
 refine⟨fun c j=>?_,fun h c=>?_,fun h c=>?_,fun h=>wG h _ _,fun x=>⟨fun h=>⟨h,fun _=>?_⟩,fun h=>h.1⟩,rfl⟩
 . grind [Pj]
 . grind
 . grind [wB]
 . rw[a,if_pos rfl];exact b
theorem mu.drop{im:IM}{t t2:TW}{id:Int}{i k:Nat}(d:(im.map Prod.fst).Nodup)(e:(fT im id).2.Nodup)(hk:(fT im id).2[k]? = some i)(a:(fT im id).2.eraseIdx k=[])(l:∀ x,t2.mem x↔t.mem x/\x≠id)(f:t2.A.n=t.A.n):mu im t (iJ im id) t2 id i:=by
 have g:∀ c,(fT (iJ im id) c).2=if id=c then[]else(fT im c).2:=fun c=>by rw[abk d];split<;>rfl
 have b:=Pj e hk
 rw[a]at b
 refine⟨fun c j=>?_,fun h c=>?_,fun h c=>?_,fun h=>J9 h _,fun x=>?_,f⟩
 . grind
 . grind
 . grind [FG]
 . grind
section
variable {fN fL:Nat} {s:fV}
theorem fV.ok.rem(h:s.ok fN fL){i:Nat}(hi:s.A.gX i){g:AW}(hd:AW.del s.A g.A i)(H:g.A.ok){z im2:IM}{t1 t2:TW}(N:t2.ok)
 (p:mu s.im s.t z t1 (fJ s.live i).u i) (l:mu z t1 im2 t2 (fJ s.live i).v i) {lv2:Value} {ls:List Lv} (F:ls=fO s.live i (fun _=>default)) :
 fV.ok fN fL ⟨s.je,s.tb,s.ab,s.mb,lv2,s.last,g,t2,ls,im2⟩/\∀ x,fV.has ⟨s.je,s.tb,s.ab,s.mb,lv2,s.last,g,t2,ls,im2⟩ x↔s.has x/\x.slot≠(i:Int):=by
 have L:=h.ll
 have J:i<s.live.length:=by have:=hi.1;omega
 have B:∀ j,fJ ls j=if i=j then default else fJ s.live j:=by rw[F];exact fun j=>ji J
 have k:=hd.gX
 have P:=h.ne i hi
 have C:∀ c j,j∈(fT im2 c).2↔j∈s.inc c/\(c=(fJ s.live i).u->j≠i)/\(c=(fJ s.live i).v->j≠i):=by
  intro c j
  rw[l.get,p.get,and_assoc]
  rfl
 have y:∀ c j,j∈(fT im2 c).2↔g.A.gX j/\(fJ ls j).at c:=by
  intro c j
  rw[C,k,h.inc]
  constructor
  . grind
  . grind
 have m:∀ j,g.A.gX j->fJ ls j=fJ s.live j:=fun j d=>by rw[B,if_neg (fun e=>((k j).1 d).2 e.symm)]
 refine⟨⟨hd.n.trans h.n,(l.n.trans p.n).trans h.tn,h.en,h.vn,H,N,?_,?_,?_,?_,?_,l.keys (p.keys h.keys),y,l.nd (p.nd h.nd),l.none (p.none h.empty),?_,?_,h.sP⟩,fun x=>⟨?_,?_⟩⟩
 . show ls.length=g.A.begun
   rw[F,gB,hd.oU]
   exact L
 . intro j d
   show (fJ ls j).slot=(j:Int)
   rw[m j d]
   exact h.slot j ((k j).1 d).1
 . intro j
   show (fJ ls j).ok
   rw[B]
   split
   . exact⟨kF (by show _/\_;decide),oV (by show _/\_;decide),oV (by show _/\_;decide),oV (by show _/\_;decide),kF (by show _/\_;decide),kF (by show _/\_;decide),kF (by show _/\_;decide)⟩
   . exact h.Fx j
 . intro j d
   show (fJ ls j).u≠(fJ ls j).v
   rw[m j d]
   exact h.ne j ((k j).1 d).1
 . intro x
   show t2.mem x↔∃ j,g.A.gX j/\(fJ ls j).at x
   rw[l.mem,p.mem]
   have I:(∃ j,g.A.gX j/\(fJ ls j).at x)↔(fT im2 x).2≠[]:=by
    constructor
    . rintro⟨j,d⟩ e
      have:=(y x j).2 d
      rw[e]at this
      simp at this
    . intro M
      obtain⟨j,d⟩:=LJ _ M
      exact⟨j,(y x j).1 d⟩
   rw[I]
   constructor
   . rintro⟨⟨f,w⟩,q⟩
     by_cases hv:x=(fJ s.live i).v
     . rw[hv];exact q hv
     . by_cases hu:x=(fJ s.live i).u
       . have G:=w hu
         intro e
         obtain⟨j,d⟩:=LJ _ G
         have:j∈(fT im2 x).2:=(l.get x j).2 ⟨by rw[hu];exact d,fun r=>absurd r hv⟩
         rw[e]at this
         simp at this
       . obtain⟨j,d,O⟩:=(h.mem x).1 f
         grind
   . intro f
     obtain⟨j,d⟩:=LJ _ f
     have w:=(C x j).1 d
     have q:=(h.inc x j).1 w.1
     refine⟨⟨(h.mem x).2 ⟨j,q.1,q.2⟩,fun e=>?_⟩,fun e=>by rw[<-e];exact f⟩
     intro r
     have:j∈(fT z x).2:=((l.get x j).1 d).1
     rw[e,r]at this
     simp at this
 . intro j d
   show (fJ ls j).seq<=s.last
   rw[m j d]
   exact h.seq j ((k j).1 d).1
 . intro a b D E
   show (fJ ls a).seq=(fJ ls b).seq->a=b
   rw[m a D,m b E]
   exact h.Gk a b ((k a).1 D).1 ((k b).1 E).1
 . rintro⟨j,d,o⟩
   change fJ ls j=x at o
   rw[m j d]at o
   have f:=(k j).1 d
   refine⟨⟨j,f.1,o⟩,?_⟩
   rw[<-o,h.slot j f.1]
   intro e
   exact f.2 o_
 . rintro⟨⟨j,d,o⟩,hs⟩
   have K:j≠i:=by
    rintro rfl
    rw[<-o,h.slot j d]at hs
    exact hs rfl
   have f:=(k j).2 ⟨d,K⟩
   exact⟨j,f,by show fJ ls j=x;rw[m j f];exact o⟩
end
theorem Jg{xs:List Nat}{i:Nat}(h:i∈xs)(d:xs.Nodup):∃ k,xs[k]? = some i/\(gA xs)[k]? = some (i:Int)/\∀ (j:Nat) (y:Int),j<k->(gA xs)[j]? = some y->y≠(i:Int):=by
 obtain⟨k,a,e⟩:=ue h
 refine⟨k,by rw[zk a,e],by simp[gA,lZ,zk a,e],fun j y c b f=>?_⟩
 simp only[gA,lZ,Bv]at b
 grind [J5]
theorem J3{xs:List Nat}(h:∀ j∈xs,j<65536):∀ y∈gA xs,gV .i64 y:=by
 grind [kF]
theorem Jj{fN fL:Nat}{s:fV}(h:s.ok fN fL){id:Int}{P:Nat->Prop}(hs:∀ j,P j->j∈s.inc id){j:Nat}(a:P j):j<65536:=by
 have b:=((h.inc id j).1 (hs j a)).1.1
 have:=h.kS.le
 have:=h.n
 have:=h.en
 omega
theorem inc_le{fN fL:Nat}{s:fV}(h:s.ok fN fL){a:IM}{t1:TW}{id:Int}{i:Nat}(o:mu s.im s.t a t1 id i)(c:Int):(fT a c).2.length<=65536:=by
 refine k7 (AQ s.A.begun _ (o.nd h.nd c) fun j b=>((h.inc c j).1 ((o.get c j).1 b).1).1.1) ?_
 have:=h.kS.le
 have:=h.n
 have:=h.en
 omega
theorem fV.tP{fN fL:Nat}{aw:AW}{t:TW}(c:aw.A=As.new fL)(f:t.ok)(g:∀ x,¬ t.mem x)(e:t.A.n=fN)(d:fL<=16384)(hv:fN<=4096)(je tb ab mb:Nat) :
 fV.ok fN fL ⟨je,tb,ab,mb,.slice none 0 0,0,aw,t,[],[]⟩/\∀ x,¬ fV.has ⟨je,tb,ab,mb,.slice none 0 0,0,aw,t,[],[]⟩ x:=by
 have b:∀ j,¬ aw.A.gX j:=fun j a=>by rw[c]at a;exact absurd a.1 (by simp[As.new])
 have hd:∀ j,fJ ([]:List Lv) j=⟨0,0,0,0,0,0,0⟩:=fun j=>rfl
 refine⟨⟨?_,e,d,hv,?_,f,?_,?_,?_,?_,?_,?_,?_,?_,?_,?_,?_,?_⟩,fun x ⟨j,a,_⟩=>b j a⟩
 . show aw.A.n=fL;rw[c];rfl
 . grind [As.tP]
 . show ([]:List Lv).length=aw.A.begun;rw[c];rfl
 . exact fun j a=>absurd a (b j)
 . intro j
   show Lv.ok (⟨0,0,0,0,0,0,0⟩:Lv)
   exact⟨kF (by show _/\_;decide),oV (by show _/\_;decide),oV (by show _/\_;decide),oV (by show _/\_;decide),kF (by show _/\_;decide),kF (by show _/\_;decide),kF (by show _/\_;decide)⟩
 . exact fun j a=>absurd a (b j)
 . grind
 . exact zN
 . exact fun id j=>⟨fun h=>(by cases h),fun h=>absurd h.1 (b j)⟩
 . exact fun id=>zN
 . exact fun id=>⟨fun _=>rfl,fun _=>rfl⟩
 . exact fun j a=>absurd a (b j)
 . exact fun j _ a=>absurd a (b j)
 . exact zO 0
end Go.Sx
namespace Go.Sx
open Go
def TW.Kp(t t2:TW):Prop:=∀ z,t.A.gX z->t2.mem (fJ t.ids z)->t2.A.gX z/\fJ t2.ids z=fJ t.ids z
theorem TW.Kp.refl(t:TW):TW.Kp t t:=fun z h _=>⟨h,rfl⟩
theorem TW.Kp.trans{t t2 e:TW}(h1:TW.Kp t t2)(h:TW.Kp t2 e)(hm:∀ x,t.mem x->e.mem x->t2.mem x):TW.Kp t e:=fun z g f=>by
 obtain⟨a,b⟩:=h1 z g (hm _ ⟨z,g,rfl⟩ f)
 obtain⟨c,d⟩:=h z a (by rw[b];exact f)
 exact⟨c,d.trans b⟩
theorem TW.ok.Sd{t:TW}(h:t.ok){id:Int}{v2:AW}{i:Nat}(hp:AW.put t.A v2.A i){iv cv:Value}{is2:List Int}{cs2:List Nat}(c:is2=tS t.ids i id):TW.Kp t ⟨iv,cv,v2,is2,cs2⟩:=fun z a _=>by
 have e:=h.tJ
 have d:i<=t.ids.length:=by rcases hp.oU with b|b<;>omega
 refine⟨(hp.gX z).2 (.inl a),?_⟩
 show fJ is2 z=_
 rw[c,Sc d,if_neg]
 rintro rfl
 exact hp.new a
theorem TW.ok.Wi{t:TW}(h:t.ok){v2:AW}{i:Nat}(hi:t.A.gX i)(hd:AW.del t.A v2.A i){iv cv:Value}{is2:List Int}{cs2:List Nat}(c:is2=fO t.ids i (fun _=>0))(hm:∀ x,TW.mem ⟨iv,cv,v2,is2,cs2⟩ x↔t.mem x/\x≠fJ t.ids i):TW.Kp t ⟨iv,cv,v2,is2,cs2⟩:=fun z d f=>by
 have a:z≠i:=fun e=>((hm _).1 f).2 (by rw[e])
 have b:i<t.ids.length:=by have:=hi.1;have:=h.tJ;omega
 refine⟨(hd.gX z).2 ⟨d,a⟩,?_⟩
 show fJ is2 z=_
 rw[c,ji b,if_neg fun e=>a e.symm]
theorem TW.zT.xY{t t2 a:TW}{u v:Int}(p:TW.zT t t2 u)(q:TW.zT t2 a v)(h1:TW.Kp t t2)(b:TW.Kp t2 a):TW.Kp t a:=h1.trans b fun x c _=>(p.mem x).2 (.inl c)
theorem mu.xY{c im2:IM}{t t1 t2:TW}{v:Int}{i:Nat}(d:mu c t1 im2 t2 v i)(h1:TW.Kp t t1)(a:TW.Kp t1 t2):TW.Kp t t2:=h1.trans a fun x _ b=>((d.mem x).1 b).1
end Go.Sx
namespace Go.Sx
open Go
theorem AR:∀ (L M:List Int),L.Nodup->(∀ j∈L,j∈M)->L.length<=M.length
 | [],_,_,_=>by simp
 | x :: L,M,hn,h=>by
  have b:=h x s_
  have c:=AR L (M.erase x) (zw.1 hn).2 (fun j a=>(List.mem_erase_of_ne (fun e=>(zw.1 hn).1 (by rw[<-e];exact a))).2 (h j (by simp[a])))
  rw[LN b]at c
  have:=LV b
  simp only[zh]
  omega
def TW.tI(t:TW):List Int:=(t.A.list t.A.begun).map (fJ t.ids)
theorem TW.Jf{t:TW}(c:t.A.ok)(x:Int):x∈t.tI↔t.mem x:=by
 unfold TW.tI TW.mem
 rw[zz]
 exact⟨fun⟨i,a,b⟩=>⟨i,(c.oZ i).1 a,b⟩,fun⟨i,a,b⟩=>⟨i,(c.oZ i).2 a,b⟩⟩
theorem TW.PZ{t:TW}(a:t.A.ok):t.tI.length=t.A.used:=by rw[TW.tI,zu,a.AJ]
theorem J8{α β:Type}{f:α->β}:∀ {l:List α},l.Nodup->(∀ x∈l,∀ y∈l,f x=f y->x=y)->(l.map f).Nodup
 | [],_,_=>zN
 | a :: l,h,hf=>by
  rw[ko,zw]
  refine⟨fun hm=>?_,J8 (zw.1 h).2 fun x c y d=>hf x (by simp[c]) y (by simp[d])⟩
  obtain⟨b,hb,e⟩:=zz.1 hm
  have:=hf b (by simp[hb]) a s_ e
  subst this
  exact(zw.1 h).1 hb
theorem TW.P0{t:TW}(h:t.ok)(a:t.A.ok):t.tI.Nodup :=
 J8 ((t.A.CT _).imp fun h=>Nat.ne_of_lt h) fun x b y c e=>h.uniq x y ((a.oZ x).1 b) ((a.oZ y).1 c) e
theorem TW.Ij{t:TW}(h:t.ok)(d:t.A.ok){u v:Int}(e:u≠v):∃ K:List Int,K.Nodup/\K.length=t.A.used+(t.cnt u+t.cnt v)/\∀ x,x∈K↔t.mem x\/x=u\/x=v:=by
 have b:=TW.P0 h d
 have f:=TW.PZ d
 have hm:=TW.Jf d
 by_cases hu:t.mem u<;>by_cases hv:t.mem v
 . rw[TW.xN hu,TW.xN hv]
   refine⟨t.tI,b,o_,fun x=>(hm x).trans ⟨.inl,?_⟩⟩
   rintro(a|rfl|rfl)
   . exact a
   . exact hu
   . exact hv
 . rw[TW.xN hu,TW.tF hv]
   refine⟨v :: t.tI,zw.2 ⟨fun a=>hv ((hm v).1 a),b⟩,by simp;omega,fun x=>?_⟩
   rw[zg,hm]
   constructor
   . rintro(a|a)
     . exact .inr (.inr a)
     . exact .inl a
   . rintro(a|rfl|a)
     . exact .inr a
     . exact .inr hu
     . exact .inl a
 . rw[TW.tF hu,TW.xN hv]
   refine⟨u :: t.tI,zw.2 ⟨fun a=>hu ((hm u).1 a),b⟩,by simp;omega,fun x=>?_⟩
   rw[zg,hm]
   constructor
   . rintro(a|a)
     . exact .inr (.inl a)
     . exact .inl a
   . rintro(a|a|rfl)
     . exact .inr a
     . exact .inl a
     . exact .inr hv
 . rw[TW.tF hu,TW.tF hv]
   refine⟨u :: v :: t.tI,zw.2 ⟨fun a=>?_,zw.2 ⟨fun a=>hv ((hm v).1 a),b⟩⟩,by simp;omega,fun x=>?_⟩
   . rcases zg.1 a with c|c
     . exact e c
     . exact hu ((hm u).1 c)
   . rw[zg,zg,hm]
     constructor
     . rintro(a|a|a)
       . exact .inr (.inl a)
       . exact .inr (.inr a)
       . exact .inl a
     . rintro(a|a|a)
       . exact .inr (.inr a)
       . exact .inl a
       . exact .inr (.inl a)
section
variable {fN fL:Nat} {s s1 s2:fV}
theorem fV.ok.xU(h:s.ok fN fL){x:Lv}(a:s.has x):∃ i:Nat,x.slot=(i:Int)/\s.A.gX i/\fJ s.live i=x/\i<fL:=by
 obtain⟨i,hi,rfl⟩:=a
 refine⟨i,h.slot i hi,hi,rfl,?_⟩
 have:=hi.1
 have:=h.kS.le
 have:=h.n
 omega
theorem fV.ok.Dq(h:s.ok fN fL){x y:Lv}(c:s.has x)(d:s.has y)(e:x.slot=y.slot):x=y:=by
 obtain⟨i,g,_,b,_⟩:=h.xU c
 obtain⟨j,f,_,a,_⟩:=h.xU d
 have:i=j:=by omega
 subst this
 rw[<-b,<-a]
theorem fV.ok.SM(h:s.ok fN fL){x:Lv}(a:s.has x):x.seq<=s.last:=by
 obtain⟨i,hi,rfl⟩:=a
 exact h.seq i hi
theorem fV.ok.AB(h:s.ok fN fL){x:Lv}(a:s.has x):x.ok/\x.u≠x.v:=by
 obtain⟨i,hi,rfl⟩:=a
 exact⟨h.Fx i,h.ne i hi⟩
theorem fV.afG(h1:s1.ok fN fL)(a:s2.ok fN fL)(hs:∀ x,s1.has x->s2.has x):s1.A.used<=s2.A.used:=by
 rw[<-h1.kS.AJ,<-a.kS.AJ]
 refine C7 _ _ ((s1.A.CT _).imp fun h=>Nat.ne_of_lt h) fun i hi=>?_
 have b:=(h1.kS.oZ i).1 hi
 obtain⟨j,c,e⟩:=hs _ ⟨i,b,rfl⟩
 have d:=a.slot j c
 rw[e,h1.slot i b]at d
 have:i=j:=by omega
 subst this
 exact(a.kS.oZ i).2 c
theorem fV.Vw(h1:s1.ok fN fL)(g:s1.t.A.ok)(b:s2.ok fN fL)(h:s2.t.A.ok)(hs:∀ x,s1.has x->s2.has x){u v:Int}(l:s2.gP fN fL u v=0):s1.gP fN fL u v=0:=by
 obtain⟨a,p,q⟩:=fV.EJ l
 have w:=fV.afG h1 b hs
 obtain⟨c,k1,y,o⟩:=TW.Ij h1.tok g a
 obtain⟨d,r,g2,f⟩:=TW.Ij b.tok h a
 have s:c.length<=d.length:=AR c d k1 fun x n=>(f x).2 ((o x).1 n |>.imp_left fun hm=>by
  obtain⟨i,hi,k⟩:=(h1.mem x).1 hm
  obtain⟨j,m,e⟩:=hs _ ⟨i,hi,rfl⟩
  exact(b.mem x).2 ⟨j,m,by rw[e];exact k⟩)
 exact fV.Am a o_ o_
structure fV.mQ (s:fV) (L:List Lv):Prop where
 mem:∀ x,x∈L↔s.has x
 j4:L.Pairwise fun a b=>a.seq<b.seq
theorem fV.mQ.nodup{L:List Lv}(h:s.mQ L):L.Nodup:=h.j4.imp fun {a b} c e=>by rw[e]at c;omega
theorem fV.mQ.slots{L:List Lv}(a:s.mQ L)(h:s.ok fN fL):(L.map Lv.slot).Nodup :=
 J8 a.nodup fun x b y c e=>h.Dq ((a.mem x).1 b) ((a.mem y).1 c) e
theorem fV.mQ.len{L:List Lv}(a:s.mQ L)(h:s.ok fN fL):L.length<=fL:=by
 have b:(L.map Lv.slot).length<=((List.range fL).map fun i:Nat=>(i:Int)).length:=AR _ _ (a.slots h) fun j c=>by
  obtain⟨x,d,rfl⟩:=zz.1 c
  obtain⟨i,e,_,_,hi⟩:=h.xU ((a.mem x).1 d)
  rw[e]
  exact zz.2 ⟨i,l7.2 hi,rfl⟩
 simpa using b
theorem fV.aaW{ys:List Lv}(h:s.ok fN fL)(hp:ys.Perm ((s.A.list s.A.begun).map (fJ s.live)))(hs:ys.Pairwise fun a b=>a.seq<=b.seq):s.mQ ys:=by
 refine⟨fun x=>?_,?_⟩
 . rw[hp.mem_iff,zz]
   exact⟨fun⟨i,c,d⟩=>⟨i,(h.kS.oZ i).1 c,d⟩,fun⟨i,c,d⟩=>⟨i,(h.kS.oZ i).2 c,d⟩⟩
 . have c:((s.A.list s.A.begun).map (fJ s.live)).Pairwise fun a b=>a.seq≠b.seq:=by
    rw[Ho]
    refine(s.A.CT _).imp_of_mem fun {a b} f hb j e=>?_
    have:=h.Gk a b ((h.kS.oZ a).1 f) ((h.kS.oZ b).1 hb) e
    omega
   have d:ys.Pairwise fun a b=>a.seq≠b.seq:=hp.symm.pairwise c fun {a b} g e=>g e.symm
   exact(hs.and d).imp fun {a b} h=>by have:=h.1;have:=h.2;omega
theorem Gq{α β:Type}[Inhabited α]{l:List α}(f:α->β){k:Nat}(hk:k<l.length):(l.take (k+1)).map f=(l.take k).map f++[f (fJ l k)]:=by
 have a:l[k]? = some (fJ l k):=gE hk
 rw[ry,a]
 simp
end
end Go.Sx
namespace Go.Sx
open Go
def TW.At(t:TW)(z:Nat)(id:Int):Prop:=t.A.gX z/\fJ t.ids z=id
theorem TW.At.uniq{t:TW}(h:t.ok){z y:Nat}{id:Int}(a:t.At z id)(b:t.At y id):z=y:=h.uniq z y a.1 b.1 (a.2.trans b.2.symm)
theorem TW.Kp.at{t t2:TW}(k:TW.Kp t t2){z:Nat}{id:Int}(a:t.At z id)(hm:t2.mem id):t2.At z id:=by
 obtain⟨b,c⟩:=k z a.1 (by rw[a.2];exact hm)
 exact⟨b,c.trans a.2⟩
theorem TW.Kp.back{t t2:TW}(k:TW.Kp t t2)(d:t2.ok){z:Nat}{id:Int}(a:t2.At z id)(hm:t.mem id):t.At z id:=by
 obtain⟨y,c,b⟩:=hm
 have hb:=k.at ⟨c,b⟩ ⟨z,a.1,a.2⟩
 rw[TW.At.uniq d a hb]
 exact⟨c,b⟩
theorem TW.kN.at{t:TW}{id:Int}{z:Nat}{b:Bool}(h:t.kN id z b)(hm:t.mem id):t.At z id:=by
 rcases h with ⟨_,h⟩|⟨_,_,h⟩
 . exact h
 . exact absurd hm h
def nV(u:fV)(g:GW):Prop:=∀ (k:Nat) (t:Nat×Nat×Int),(gF g.m k).map Ed.er=some t↔∃ x,u.has x/\x.slot=(k:Int)/\u.t.At t.1 x.u/\u.t.At t.2.1 x.v/\t.2.2=x.exp
section
variable {fN fL:Nat} {u u2:fV} {g g2:GW}
theorem fV.ok.yC(h:u.ok fN fL){x:Lv}(a:u.has x):u.t.mem x.u/\u.t.mem x.v:=by
 obtain⟨i,hi,rfl⟩:=a
 exact⟨(h.mem _).2 ⟨i,hi,.inl rfl⟩,(h.mem _).2 ⟨i,hi,.inr rfl⟩⟩
theorem fV.ok.abc{fN fL:Nat}{u u2:fV}(h:u.ok fN fL)(a:u2.ok fN fL)(d:∀ y,u2.has y->u.has y)(x:Int)(f:u2.t.mem x):u.t.mem x:=by
 obtain⟨i,hi,b⟩:=(a.mem x).1 f
 obtain⟨j,e,c⟩:=d _ ⟨i,hi,rfl⟩
 exact(h.mem x).2 ⟨j,e,by rw[c];exact b⟩
theorem nV.tG(h:nV u g)(n:u.ok fN fL){x:Lv}(j:u.has x){k:Nat}(hk:x.slot=(k:Int)):∃ e,gF g.m k=some e/\e.exp=x.exp/\u.t.At e.a x.u/\u.t.At e.b x.v:=by
 obtain⟨⟨a,d,f⟩,⟨b,hb,i⟩⟩:=n.yC j
 have:=(h k (a,b,x.exp)).2 ⟨x,j,hk,⟨d,f⟩,⟨hb,i⟩,rfl⟩
 obtain⟨e,l,c⟩:=Bv.1 this
 unfold Ed.er at c
 simp only[Prod.mk.injEq]at c
 exact⟨e,l,c.2.2,by rw[c.1];exact⟨d,f⟩,by rw[c.2.1];exact⟨hb,i⟩⟩
theorem nV.live(h:nV u g){k:Nat}{e:Ed}(c:gF g.m k=some e):∃ x,u.has x/\x.slot=(k:Int)/\u.t.At e.a x.u/\u.t.At e.b x.v/\e.exp=x.exp :=
 (h k e.er).1 (by rw[c];rfl)
theorem nV.empty(h:nV u g){k:Nat}(hk:∀ x,u.has x->x.slot≠(k:Int)):gF g.m k=none:=by
 cases he:gF g.m k with
 | none=>rfl
 | some e =>
  obtain⟨x,a,hs,_⟩:=h.live he
  exact absurd hs (hk x a)
theorem nV.rest(h:nV u g)(o:u.ok fN fL)(e:u2.ok fN fL){P:Nat->Prop}(d:∀ x,u2.has x↔u.has x/\∀ k:Nat,x.slot=(k:Int)->¬ P k)(hk:TW.Kp u.t u2.t)(h1:∀ k,P k->gF g2.m k=none)(l:∀ k,¬ P k->(gF g2.m k).map Ed.er=(gF g.m k).map Ed.er):nV u2 g2:=by
 intro k t
 by_cases hp:P k
 . rw[h1 k hp]
   exact⟨fun h=>(by cases h),fun⟨x,a,hs,_⟩=>absurd hp (((d x).1 a).2 k hs)⟩
 . rw[l k hp,h k t]
   constructor
   . rintro⟨x,a,hs,b,hb,c⟩
     have i:u2.has x:=(d x).2 ⟨a,fun j n=>by rw[hs]at n;rw[<-show k=j by omega];exact hp⟩
     have hm:=e.yC i
     exact⟨x,i,hs,hk.at b hm.1,hk.at hb hm.2,c⟩
   . rintro⟨x,a,hs,b,hb,c⟩
     have f:=((d x).1 a).1
     have hm:=o.yC f
     exact⟨x,f,hs,hk.back e.tok b hm.1,hk.back e.tok hb hm.2,c⟩
theorem nV.ins(h:nV u g)(w:u.ok fN fL)(b:u2.ok fN fL){e:Lv}{i q r:Nat}(n:e.slot=(i:Int))(l:∀ y,u2.has y↔u.has y\/y=e)(hk:TW.Kp u.t u2.t)(s:xz g.m g2.m i (some (q,r,e.exp)))(o:u2.t.At q e.u)(hb:u2.t.At r e.v):nV u2 g2:=by
 intro k t
 rw[s k]
 by_cases hki:k=i
 . subst hki
   rw[if_pos rfl]
   constructor
   . intro j
     cases j
     exact⟨e,(l e).2 (.inr rfl),n,o,hb,rfl⟩
   . rintro⟨x,f,hs,c,d,a⟩
     have:x=e:=b.Dq f ((l e).2 (.inr rfl)) (hs.trans n.symm)
     subst this
     obtain⟨z,A,B⟩:=t
     simp only at c d a
     rw[TW.At.uniq b.tok c o,TW.At.uniq b.tok d hb,a]
 . rw[if_neg hki,h k t]
   constructor
   . rintro⟨x,f,hs,c,d,a⟩
     have p:=(l x).2 (.inl f)
     have hm:=b.yC p
     exact⟨x,p,hs,hk.at c hm.1,hk.at d hm.2,a⟩
   . rintro⟨x,f,hs,c,d,a⟩
     rcases(l x).1 f with j|rfl
     . have hm:=w.yC j
       exact⟨x,j,hs,hk.back b.tok c hm.1,hk.back b.tok d hm.2,a⟩
     . rw[n]at hs
       exact absurd (show k=i by omega) hki
end
structure sF (m m2:List (Int×Ed)) (ds:List Nat) (k:Nat):Prop where
 out:∀ j,j∉ds->(gF m2 j).map Ed.er=(gF m j).map Ed.er
 sub:∀ j,j∈ds->gF m2 j=none\/(gF m2 j).map Ed.er=(gF m j).map Ed.er
 cnt:(ds.filter fun j=>(gF m2 j).isSome).length+k=ds.length
theorem sF.start{m:List (Int×Ed)}{ds:List Nat}(h:∀ j∈ds,(gF m j).isSome=true):sF m m ds 0 :=
 ⟨fun j _=>rfl,fun j _=>.inr rfl,by rw[vq.2 h];rfl⟩
theorem PC{α:Type}[DecidableEq α]{p q:α->Bool}{i:α}:∀ {l:List α},l.Nodup->i∈l->p i=true->(∀ j,q j=(p j&&decide (j≠i)))->(l.filter q).length+1=(l.filter p).length
 | [],_,h,_,_=>by simp at h
 | a :: l,hn,hi,hp,hq=>by
  have c:=zw.1 hn
  by_cases e:a=i
  . subst e
    have b:q a=false:=by rw[hq];simp
    rw[BB (by rw[b];decide),BC hp]
    have d:l.filter q=l.filter p:=zL fun x g=>by rw[hq];simp;rintro _ rfl;exact absurd g c.1
    rw[d]
    rfl
  . have f:i∈l:=(zg.1 hi).resolve_left fun h=>e h.symm
    have k:=PC c.2 f hp hq
    have b:q a=p a:=by rw[hq];simp[e]
    by_cases hpa:p a=true
    . rw[BC hpa,BC (by rw[b];exact hpa)]
      simp only[zh]
      omega
    . rw[BB hpa,BB (by rw[b];exact hpa)]
      exact k
theorem sF.next{m m2 m3:List (Int×Ed)}{ds:List Nat}{k i:Nat}{b:Bool}{T:Int}(h:sF m m2 ds k)(hk:k<ds.length)(I:ds.Nodup)(y:∀ j e,gF m j=some e->(j∈ds↔e.exp<=T))
 (J:(b=false/\(∀ k,gF m2 k=none)/\gF m3=gF m2)\/(b=true/\(∃ o,gF m2 i=some o/\∀ j e,gF m2 j=some e->j=i\/o.exp<e.exp\/(o.exp=e.exp/\i<j))/\gF m3=(gF m2).set i none)):sF m m3 ds (k+1):=by
 have z:=h.cnt
 have A:∀ {j:Nat} {e:Ed},gF m2 j=some e->(gF m2 j).map Ed.er=(gF m j).map Ed.er->∃ d,gF m j=some d/\d.exp=e.exp:=fun {j e} f u=>by
  rw[f]at u
  obtain⟨d,v,s⟩:=Bv.1 u.symm
  unfold Ed.er at s
  simp only[Prod.mk.injEq]at s
  exact⟨d,v,s.2.2⟩
 obtain⟨r,F⟩:∃ r,r∈ds.filter fun j=>(gF m2 j).isSome:=by
  cases hf:ds.filter fun j=>(gF m2 j).isSome with
  | nil=>rw[hf]at z;simp at z;omega
  | cons a l=>exact⟨a,s_⟩
 obtain⟨w,G⟩:=kZ.1 F
 obtain⟨d,n⟩:=Option.isSome_iff_exists.1 G
 rcases J with ⟨_,f,_⟩|⟨_,⟨o,B,H⟩,E⟩
 . rw[f]at n;cases n
 . have c:i∈ds:=by
    by_cases c:i∈ds
    . exact c
    . exfalso
      obtain⟨C,f,u⟩:=A B (h.out i c)
      obtain⟨D,v,s⟩:=A n ((h.sub r w).resolve_left (by rw[n];exact fun h=>by cases h))
      have K:=(y r D v).1 w
      have L:¬ C.exp<=T:=fun g=>c ((y i C f).2 g)
      rcases H r d n with g|g|g
      . exact c (g▸w)
      . omega
      . omega
   have x:∀ j,gF m3 j=if j=i then none else gF m2 j:=fun j=>by rw[E];rfl
   refine⟨fun j t=>?_,fun j t=>?_,?_⟩
   . rw[x,if_neg (fun e:j=i=>t (e▸c))];exact h.out j t
   . rw[x]
     split
     . exact .inl rfl
     . exact h.sub j t
   . have f:=PC (p:=fun j=>(gF m2 j).isSome) (q:=fun j=>(gF m3 j).isSome) I c (by rw[B];rfl) fun j=>by
      rw[x]
      by_cases e:j=i
      . simp[e]
      . simp[e]
     omega
theorem sF.fin{m m2:List (Int×Ed)}{ds:List Nat}(h:sF m m2 ds ds.length):∀ j∈ds,gF m2 j=none:=fun j b=>by
 have c:=h.cnt
 have a:ds.filter (fun j=>(gF m2 j).isSome)=[]:=ug o_
 cases he:gF m2 j with
 | none=>rfl
 | some e =>
  have:j∈ds.filter fun j=>(gF m2 j).isSome:=kZ.2 ⟨b,by rw[he];rfl⟩
  rw[a]at this
  cases this
end Go.Sx
namespace Go.Sx
open Go
structure WC where
 win:Int
 fL:Nat
 fN:Nat
 kH:Int
structure WW where
 cb:Nat
 ub:Nat
 sb:Nat
 hb:Nat
 ob:Nat
 now:Int
 q:QS
 u:fV
 g:GW
 added:Int
 jk:Int
def D4(u:fV)(q:QS):Prop:=∀ e:gG,e∈q.fP↔∃ x,u.has x/\x.slot=(e.ix:Int)/\x.exp=e.key
structure WW.ok (c:WC) (s:WW):Prop where
 w1:1<=c.win
 wi:c.win<=1000000
 e1:1<=c.fL
 en:c.fL<=16384
 v2:2<=c.fN
 vn:c.fN<=4096
 n0:0<=s.now
 n1:s.now<=1000000
 a0:0<=s.added
 a1:s.added<=1000000
 ex:gV .u64 s.jk
 la:s.u.last<=s.added
 tW:D4 s.u s.q
 live:∀ x,s.u.has x->x.t<=s.now/\s.now<x.exp/\x.exp=x.t+c.win/\0<=x.t
 ord:∀ x y,s.u.has x->s.u.has y->x.seq<y.seq->x.t<=y.t
 fr:nV s.u s.g
structure oQ (u u2:fV) (ds:List Nat):Prop where
 has:∀ x,u2.has x↔u.has x/\∀ i∈ds,x.slot≠(i:Int)
 last:u2.last=u.last
theorem oQ.start(u:fV):oQ u u []:=⟨fun x=>by simp,rfl⟩
theorem oQ.next{u u2 d:fV}{ds:List Nat}{i:Nat}(h:oQ u u2 ds)(e:∀ x,d.has x↔u2.has x/\x.slot≠(i:Int))(f:d.last=u2.last):oQ u d (ds++[i]) :=
 ⟨fun x=>by
  rw[e,h.has,and_assoc]
  refine and_congr_right fun _=>⟨fun⟨a,b⟩ j c=>?_,fun h=>⟨fun j c=>h j (by simp[c]),h i s_⟩⟩
  rcases zp.1 c with c|c
  . exact a j c
  . rw[z8]at c;subst c;exact b,f.trans h.last⟩
theorem oQ.fin{fN fL n:Nat}{u u2:fV}{q p:QS}{ds:List Nat}{t:Int}(h:oQ u u2 ds)(hs:D4 u q)(c:u.ok fN fL)(hd:p5 n q p ds t):∀ x,u2.has x↔u.has x/\t<x.exp:=by
 intro x
 rw[h.has]
 refine and_congr_right fun a=>?_
 obtain⟨i,hi,_,_,_⟩:=c.xU a
 have d:(⟨i,x.exp⟩:gG)∈q.fP:=(hs _).2 ⟨x,a,hi,rfl⟩
 constructor
 . intro b
   by_cases h2:t<x.exp
   . exact h2
   . exact absurd hi (b i ((hd.out i).2 ⟨_,d,rfl,Int.not_lt.1 h2⟩))
 . intro b j l e
   obtain⟨f,g,k,r⟩:=(hd.out j).1 l
   obtain⟨y,m,o,s⟩:=(hs f).1 g
   have:x=y:=c.Dq a m (by rw[e,o,k])
   subst this
   omega
theorem oQ.can{fN fL n:Nat}{u u2:fV}{q B:QS}{ds:List Nat}{t:Int}{k i:Nat}(h:oQ u u2 (ds.take k))(hs:D4 u q)(v:u2.ok fN fL)(hd:p5 n q B ds t)(hk:ds[k]? = some i):u2.A.gX i:=by
 obtain⟨s,r⟩:=zj.1 hk
 obtain⟨f,l,m,C⟩:=(hd.out i).1 (ze hk)
 obtain⟨x,w,z,D⟩:=(hs f).1 l
 rw[m]at z
 have y:u2.has x:=(h.has x).2 ⟨w,fun j c e=>by
  obtain⟨a,d,b⟩:=ue c
  have g:a<k/\a<ds.length:=by
   rw[z7]at d
   omega
  rw[List.getElem_take]at b
  have o:j=i:=by omega
  have:=J5 hd.nd g.2 s (by rw[b,r,o])
  omega⟩
 obtain⟨j,c,p,_,_⟩:=v.xU y
 have:j=i:=by omega
 subst this
 exact p
section
variable {c:WC} {s:WW}
theorem WW.ok.tick(h:s.ok c){T:Int}(r:s.now<=T)(k:T<=1000000){u2:fV}{i:QS}{g2:GW}{ds:List Nat}{n:Nat}{ex:Int}(l:gV .u64 ex)(hd:p5 n s.q i ds T)(d:∀ x,u2.has x↔s.u.has x/\T<x.exp)(o:u2.last=s.u.last)(m:nV u2 g2) :
 WW.ok c ⟨s.cb,s.ub,s.sb,s.hb,s.ob,T,i,u2,g2,s.added,ex⟩:=by
 have v:=h.n0
 refine⟨h.w1,h.wi,h.e1,h.en,h.v2,h.vn,by show 0<=T;omega,k,h.a0,h.a1,l,by show u2.last<=_;rw[o];exact h.la,fun e=>?_,fun x g=>?_,fun x y g p=>h.ord x y ((d x).1 g).1 ((d y).1 p).1,m⟩
 . show e∈i.fP↔∃ x,u2.has x/\_
   rw[hd.rest,h.tW]
   constructor
   . rintro⟨⟨x,a,b,f⟩,j⟩
     exact⟨x,(d x).2 ⟨a,o_⟩,b,f⟩
   . rintro⟨x,a,b,f⟩
     have j:=(d x).1 a
     exact⟨⟨x,j.1,b,f⟩,o_⟩
 . have a:=(d x).1 g
   have b:=h.live x a.1
   show x.t<=T/\T<x.exp/\_
   exact⟨o_,a.2,b.2.2⟩
theorem WW.ok.free(h:s.ok c)(j:s.u.ok c.fN c.fL){u2:fV}(k:u2.ok c.fN c.fL){i:Nat}{e:Lv}(d:e.slot=(i:Int))(m:e.seq=s.u.last+1)(a:∀ y,u2.has y↔s.u.has y\/y=e):∀ f∈s.q.fP,f.ix≠i:=by
 intro f g e1
 obtain⟨x,b,l,_⟩:=(h.tW f).1 g
 have:x=e:=k.Dq ((a x).2 (.inl b)) ((a e).2 (.inr rfl)) (by rw[l,d,e1])
 subst this
 have:=j.SM b
 omega
theorem WW.ok.ins(h:s.ok c)(z:s.u.ok c.fN c.fL){u2:fV}{n:QS}{g2:GW}{i:Nat}{e:Lv}(r:e.slot=(i:Int))(E:e.seq=s.u.last+1)(F:e.t=s.now)(D:e.exp=s.now+c.win)(g:∀ y,u2.has y↔s.u.has y\/y=e)(G:u2.last=s.u.last+1)
 (w:∀ f,f∈n.fP↔f∈s.q.fP\/f=⟨i,e.exp⟩) (B:s.added<1000000) (v:nV u2 g2):WW.ok c ⟨s.cb,s.ub,s.sb,s.hb,s.ob,s.now,n,u2,g2,s.added+1,s.jk⟩:=by
 have C:=h.a0
 have H:=h.la
 have I:=h.n0
 have J:=h.w1
 refine⟨h.w1,h.wi,h.e1,h.en,h.v2,h.vn,h.n0,h.n1,by show 0<=s.added+1;omega,by show s.added+1<=_;omega,h.ex,by show u2.last<=s.added+1;omega,fun f=>?_,fun x k=>?_,fun x y k p=>?_,v⟩
 . show f∈n.fP↔∃ x,u2.has x/\_
   rw[w,h.tW]
   constructor
   . rintro(⟨x,l,j⟩|rfl)
     . exact⟨x,(g x).2 (.inl l),j⟩
     . exact⟨e,(g e).2 (.inr rfl),r,rfl⟩
   . rintro⟨x,l,j,m⟩
     rcases(g x).1 l with d|rfl
     . exact .inl ⟨x,d,j,m⟩
     . right
       obtain⟨a,b⟩:=f
       simp only at j m
       have:a=i:=by omega
       subst this
       rw[m]
 . show x.t<=s.now/\s.now<x.exp/\_
   rcases(g x).1 k with d|rfl
   . exact h.live x d
   . exact⟨o_,o_,o_,o_⟩
 . change u2.has x at k
   change u2.has y at p
   rcases(g x).1 k with d|rfl<;>rcases(g y).1 p with o|rfl
   . exact h.ord x y d o
   . intro _
     have:=(h.live x d).1
     omega
   . have:=z.SM o
     intro A
     omega
   . intro _;omega
end
theorem WW.tP{c:WC}(w1:1<=c.win)(wi:c.win<=1000000)(e1:1<=c.fL)(en:c.fL<=16384)(v2:2<=c.fN)(vn:c.fN<=4096){u:fV}{q:QS}{g:GW}(a:∀ y,¬ u.has y)(f:u.last=0)(d:q.fP=[])(b:g.m=[])(cb ub sb hb ob:Nat):WW.ok c ⟨cb,ub,sb,hb,ob,0,q,u,g,0,0⟩ :=
 ⟨w1,wi,e1,en,v2,vn,zO 0,by show (0:Int)<=1000000;decide,zO 0,by show (0:Int)<=1000000;decide,oV ⟨zO 0,by show (0:Int)<=18446744073709551615;decide⟩,by show u.last<=0;omega,fun e=>⟨fun h=>by change e∈q.fP at h;rw[d]at h;simp at h,fun⟨x,h,_⟩=>absurd h (a x)⟩,fun x h=>absurd h (a x),fun x y h=>absurd h (a x),fun k t=>⟨fun h=>(by change (gF g.m k).map Ed.er=_ at h;rw[b]at h;cases h),fun⟨x,h,_⟩=>absurd h (a x)⟩⟩
theorem WW.ok.noE{c:WC}{s:WW}(h:s.ok c){i:Nat}(a:∀ f∈s.q.fP,f.ix≠i):gF s.g.m i=none :=
 h.fr.empty fun x b hs=>a ⟨i,x.exp⟩ ((h.tW _).2 ⟨x,b,hs,rfl⟩) rfl
theorem WW.ok.due{c:WC}{s:WW}(h:s.ok c){v:QS}{ds:List Nat}{n:Nat}{T:Int}(hd:p5 n s.q v ds T)(o:s.u.ok c.fN c.fL):sF s.g.m s.g.m ds 0/\∀ j e,gF s.g.m j=some e->(j∈ds↔e.exp<=T):=by
 refine⟨sF.start fun j p=>?_,fun j e d=>?_⟩
 . obtain⟨f,i,l,_⟩:=(hd.out j).1 p
   obtain⟨x,a,b,_⟩:=(h.tW f).1 i
   obtain⟨e,d,_⟩:=h.fr.tG o a (k:=j) (by rw[b,l])
   rw[d];rfl
 . obtain⟨x,a,b,_,_,A⟩:=h.fr.live d
   rw[hd.out]
   constructor
   . rintro⟨f,i,l,z⟩
     obtain⟨y,r,t,B⟩:=(h.tW f).1 i
     have:x=y:=o.Dq a r (by rw[b,t,l])
     subst this
     omega
   . intro w
     exact⟨⟨j,x.exp⟩,(h.tW _).2 ⟨x,a,b,rfl⟩,rfl,by show x.exp<=T;omega⟩
theorem WW.ok.afe{c:WC}{s:WW}(h:s.ok c){l:QS}{u2:fV}{g2:GW}{ds:List Nat}{n:Nat}{T:Int}(hd:p5 n s.q l ds T)(f:s.u.ok c.fN c.fL)(j:u2.ok c.fN c.fL)(e:oQ s.u u2 ds)(hk:TW.Kp s.u.t u2.t)(b:sF s.g.m g2.m ds ds.length):nV u2 g2 :=
 h.fr.rest f j (P:=fun k=>k∈ds) (fun x=>(e.has x).trans (and_congr_right fun o=>⟨fun a k hk d=>a k d hk,fun a i hi hs=>a i hs hi⟩)) hk (fun k hk=>b.fin k hk) fun k hk=>b.out k hk
structure WW.Step (s s2:WW) (r:Lv):Prop where
 now:s2.now=s.now\/s2.now=r.t
 added:s2.added<=s.added+1
 has:∀ x,s2.u.has x->s.u.has x\/(x.u=r.u/\x.v=r.v/\x.wt=r.wt)
theorem WW.Step.same(s:WW)(r:Lv):WW.Step s s r:=⟨.inl rfl,o_,fun x h=>.inl h⟩
theorem ZN(x:Int):gV .u64 (IntKind.u64.wrap x):=by
 rw[IntKind.wrap_u64]
 exact oV o_
theorem NT{win now t:Int}(h1:now<=t)(a : -9223372036854775808<=t+win/\t+win<=9223372036854775807):rN win now t=0:=by
 unfold rN
 rw[if_neg o_,Ak a]
theorem p5.ab9{n:Nat}{q a t:QS}{ds:List Nat}{now:Int}(h:p5 n a t ds now)(e:a.fP=q.fP):p5 n q t ds now :=
 ⟨h.ok,by rw[<-e];exact h.rest,by rw[<-e];exact h.out,h.nd,h.len⟩
theorem TW.kN.lt{t:TW}{id:Int}{z:Nat}{b:Bool}(h:t.kN id z b)(a:t.ok)(hp:0<t.A.n):z<t.A.n:=by
 rcases h with ⟨_,h,_⟩|⟨_,rfl,_⟩
 . exact ou h.1 a.oU
 . exact hp
def Room(c:WC)(s:WW)(x:Lv):Prop:=∀ u2:fV,u2.ok c.fN c.fL->u2.t.A.ok->(∀ y,u2.has y↔s.u.has y/\x.t<y.exp)->u2.gP c.fN c.fL x.u x.v=0
theorem Room.of{c:WC}{s:WW}{x:Lv}{a:fV}(d:a.ok c.fN c.fL)(e:a.t.A.ok)(g:a.gP c.fN c.fL x.u x.v=0)(hs:∀ y,s.u.has y/\x.t<y.exp->a.has y):Room c s x :=
 fun u2 b f h=>fV.Vw b f d e (fun y i=>hs y ((h y).1 i)) g
end Go.Sx
namespace Go.Sx
open Go
structure rG (c:WC) (s:WW) (k:Nat):Prop where
 now:s.now<=3*(k:Int)
 added:s.added<=(k:Int)
 ids:∀ x,s.u.has x->(0<=x.u/\x.u<12)/\0<=x.v/\x.v<12
 wt:∀ x,s.u.has x -> -128<=x.wt/\x.wt<=127
theorem rG.next{c:WC}{s s2:WW}{k:Nat}{r:Lv}(h:rG c s k)(hs:WW.Step s s2 r)(m:r.t<=s.now+3)(f:0<=r.u/\r.u<12)(hv:0<=r.v/\r.v<12)(g : -128<=r.wt/\r.wt<=127):rG c s2 (k+1):=by
 have i:=h.now
 have j:=h.added
 have l:=hs.added
 refine⟨?_,o_,fun x b=>?_,fun x b=>?_⟩
 . rcases hs.now with e|e<;>omega
 . rcases hs.has x b with a|⟨a,d,_⟩
   . exact h.ids x a
   . rw[a,d];exact⟨f,hv⟩
 . rcases hs.has x b with a|⟨_,_,a⟩
   . exact h.wt x a
   . rw[a];exact g
end Go.Sx
namespace Go.Sx
open Go
structure Mv where
 u:Int
 v:Int
 wt:Int
 af:Int
instance:Inhabited Mv:=⟨⟨0,0,0,0⟩⟩
structure Mv.ok (x:Mv):Prop where
 u:0<=x.u/\x.u<=255
 v:0<=x.v/\x.v<=255
 wt : -128<=x.wt/\x.wt<=127
 af:0<=x.af/\x.af<=255
theorem rG.start{c:WC}{s:WW}(h1:s.now=0)(d:s.added=0)(b:∀ y,¬ s.u.has y):rG c s 0 :=
 ⟨by rw[h1];decide,by rw[d];decide,fun x a=>absurd a (b x),fun x a=>absurd a (b x)⟩
def Mv.tG(now:Int)(x:Mv):Lv:=⟨0,0,x.u%12,x.v%12,x.wt,now+x.af%4,0⟩
theorem Mv.ok.tG{x:Mv}(h:x.ok){now:Int}(a:0<=now)(h1:now<=1000):(x.tG now).ok:=by
 have b:=h.wt
 unfold Mv.tG
 exact⟨kF (by show _/\_;dsimp only;omega),oV (by show _/\_;dsimp only;omega),oV (by show _/\_;dsimp only;omega),oV (by show _/\_;dsimp only;omega),kF (by show _/\_;dsimp only;omega),kF (by show _/\_;dsimp only;omega),kF (by show _/\_;dsimp only;omega)⟩
end Go.Sx
namespace Go.Sx
open Go
section
variable {ys xs:List Int} {i j n:Nat} {x:Int}
def qC(ys:List Int)(i:Nat):Prop:=∀ p q,p<q->q<i->fJ ys p<=fJ ys q
def uu(ys:List Int)(i j:Nat):Prop:=∀ p q,p<q->q<=i->q≠j->fJ ys p<=fJ ys q
def Dt(ys:List Int)(j:Nat):List Int:=fO (fO ys j fun _=>fJ ys (j-1)) (j-1) fun _=>fJ ys j
theorem aeW(c:0<j)(h:j<ys.length):(Dt ys j).Perm ys:=by
 have b:=List.set_set_perm h (show j-1<ys.length by omega)
 have e1:fJ ys (j-1)=ys[j-1]:=iD (zk o_)
 have a:fJ ys j=ys[j]:=iD (zk h)
 unfold Dt fO
 rw[e1,a]
 exact b
theorem S9(a:0<j)(h:j<ys.length)(k:Nat):fJ (Dt ys j) k=if k=j then fJ ys (j-1)else if k=j-1 then fJ ys j else fJ ys k:=by
 unfold Dt
 rw[ji (by rw[gB];omega),ji h]
 by_cases h1:k=j
 . subst h1
   rw[if_neg o_,if_pos rfl,if_pos rfl]
 . by_cases h2:k=j-1
   . subst h2
     rw[if_pos rfl,if_neg h1,if_pos rfl]
   . rw[if_neg (fun e=>h2 e.symm),if_neg (fun e=>h1 e.symm),if_neg h1,if_neg h2]
theorem qC.zero:qC ys 1:=fun p q a b=>by omega
theorem qC.at(h:qC ys i):uu ys i i:=fun p q a b c=>h p q a o_
theorem uu.swap(h:uu ys i j)(b:0<j)(e:j<=i)(f:i<ys.length)(g:fJ ys j<fJ ys (j-1)):uu (Dt ys j) i (j-1):=by
 intro p q d a c
 rw[S9 b o_,S9 b o_]
 by_cases hqj:q=j
 . rw[if_pos hqj]
   by_cases hp:p=j-1
   . rw[if_neg o_,if_pos hp];omega
   . rw[if_neg o_,if_neg hp]
     exact h p (j-1) o_ o_ o_
 . rw[if_neg hqj,if_neg c]
   by_cases hpj:p=j
   . rw[if_pos hpj]
     exact h (j-1) q o_ a hqj
   . rw[if_neg hpj]
     by_cases hp:p=j-1
     . rw[if_pos hp]
       exact h j q o_ a hqj
     . rw[if_neg hp]
       exact h p q d a hqj
theorem uu.Wp(h:uu ys i 0):qC ys (i+1):=fun p q a b=>h p q a o_ o_
theorem uu.done(h:uu ys i j)(b:0<j)(d:j<=i)(e:¬ fJ ys j<fJ ys (j-1)):qC ys (i+1):=by
 intro p q a c
 by_cases hq:q=j
 . subst hq
   by_cases hp:p=q-1
   . subst hp;omega
   . have:=h p (q-1) o_ o_ o_
     omega
 . exact h p q a o_ hq
theorem qC.j4(h:qC ys ys.length)(f:ys.Nodup):ys.Pairwise fun a b=>a<b:=by
 have e:ys.Pairwise fun a b=>a<=b:=by
  rw[vm]
  intro p q hp d g
  have c:=h p q g d
  rw[iD (zk hp),iD (zk d)]at c
  exact c
 exact(e.and f).imp fun {a b} h=>by have:=h.1;have:=h.2;omega
theorem EC{α:Type}{r:α->α->Prop}(hi:∀ a,¬ r a a)(f:∀ a b,r a b->¬ r b a):∀ {a b:List α},a.Pairwise r->b.Pairwise r->(∀ x,x∈a↔x∈b)->a=b
 | [],[],_,_,_=>rfl
 | [],y :: b,_,_,h=>by have:=(h y).2 s_;cases this
 | x :: a,[],_,_,h=>by have:=(h x).1 s_;cases this
 | x :: a,y :: b,ha,hb,h=>by
  have k:x=y:=by
   rcases zg.1 ((h x).1 s_)with e|c
   . exact e
   . rcases zg.1 ((h y).2 s_)with e|g
     . exact e.symm
     . exact absurd ((s8.1 ha).1 y g) (f _ _ ((s8.1 hb).1 x c))
  subst k
  have i:=(s8.1 ha).1
  have j:=(s8.1 hb).1
  congr 1
  refine EC hi f (s8.1 ha).2 (s8.1 hb).2 fun z=>⟨fun d=>?_,fun d=>?_⟩
  . rcases zg.1 ((h z).1 (by simp[d]))with e|c
    . subst e;exact absurd (i z d) (hi z)
    . exact c
  . rcases zg.1 ((h z).2 (by simp[d]))with e|c
    . subst e;exact absurd (j z d) (hi z)
    . exact c
theorem U5{a b:List Int}(c:a.Pairwise fun x y=>x<y)(hb:b.Pairwise fun x y=>x<y)(h:∀ x,x∈a↔x∈b):a=b :=
 EC (fun a=>Int.lt_irrefl a) (fun a b h=>by omega) c hb h
theorem fV.mQ.uniq{s:fV}{a b:List Lv}(c:s.mQ a)(hb:s.mQ b):a=b :=
 EC (r:=fun x y:Lv=>x.seq<y.seq) (fun a=>Int.lt_irrefl _) (fun a b h=>by omega) c.j4 hb.j4 fun x=>(c.mem x).trans (hb.mem x).symm
structure oO (ys:List Int) (x:Int) (i j:Nat):Prop where
 lo:∀ p,p<i->fJ ys p<x
 hi:∀ p,j<=p->p<ys.length->x<=fJ ys p
theorem oO.start:oO ys x 0 ys.length:=⟨fun p h=>by omega,fun p a b=>by omega⟩
theorem ED(h:ys.Pairwise fun a b=>a<b){p q:Nat}(e:p<q)(c:q<ys.length):fJ ys p<fJ ys q:=by
 have d:=(vm.1 h) p q o_ c e
 rw[iD (zk (show p<ys.length by omega)),iD (zk c)]
 exact d
theorem oO.up(h:oO ys x i j)(hs:ys.Pairwise fun a b=>a<b){k:Nat}(hk:k<ys.length)(c:fJ ys k<x):oO ys x (k+1) j :=
 ⟨fun p hp=>by
  by_cases e:p=k
  . subst e;exact c
  . have:=ED hs (show p<k by omega) hk
    omega,h.hi⟩
theorem oO.down(h:oO ys x i j)(hs:ys.Pairwise fun a b=>a<b){k:Nat}(f:¬ fJ ys k<x):oO ys x i k :=
 ⟨h.lo,fun p d c=>by
  by_cases e:p=k
  . subst e;omega
  . have:=ED hs (show k<p by omega) c
    omega⟩
def gH(ys:List Int)(x:Int):Nat:=(ys.filter fun y=>decide (y<x)).length
theorem oO.gH(h:oO ys x i i)(hi:i<=ys.length):i=gH ys x:=by
 have d:(ys.take i).filter (fun y=>decide (y<x))=ys.take i:=vq.2 fun y c=>by
  obtain⟨p,hp,e⟩:=ue c
  rw[z7]at hp
  rw[List.getElem_take]at e
  have a:=h.lo p o_
  rw[iD (zk o_),e]at a
  exact decide_eq_true a
 have a:(ys.drop i).filter (fun y=>decide (y<x))=[]:=LU.2 fun y c=>by
  obtain⟨p,hp,e⟩:=ue c
  rw[BI]at hp
  rw[List.getElem_drop]at e
  have b:=h.hi (i+p) o_ o_
  rw[iD (zk o_),e]at b
  simp
  omega
 have b:ys.filter (fun y=>decide (y<x))=ys.take i:=by
  conv=>lhs;rw[<-vo i ys]
  rw[BH,d,a,vw]
 unfold Go.Sx.gH
 rw[b,z7]
 omega
theorem o6(hs:ys.Pairwise fun a b=>a<b)(f:x∈ys):gH ys x<ys.length/\fJ ys (gH ys x)=x:=by
 obtain⟨k,c,e⟩:=ue f
 have e1:fJ ys k=x:=iD (by rw[zk c,e])
 have hb:oO ys x k k:=⟨fun p hp=>by have:=ED hs hp c;omega,fun p g d=>by
  by_cases h3:k=p
  . subst h3;omega
  . have:=ED hs (show k<p by omega) d
    omega⟩
 rw[<-hb.gH o_]
 exact⟨c,e1⟩
structure Ge where
 u:Nat
 v:Nat
 w:Int
instance:Inhabited Ge:=⟨⟨0,0,0⟩⟩
def Ge.cells(x:Ge):List Value:=[.int .i64 x.u,.int .i64 x.v,.int .i64 x.w]
structure Mb (ids:List Int) (x:Lv) (e:Ge):Prop where
 ul:e.u<ids.length
 vl:e.v<ids.length
 u:fJ ids e.u=x.u
 v:fJ ids e.v=x.v
 w:e.w=x.wt
structure oP (ids:List Int) (L:List Lv) (es:List Ge) (k:Nat):Prop where
 len:es.length=L.length
 fst:∀ i,i<k->Mb ids (fJ L i) (fJ es i)
theorem oP.start{ids:List Int}{L:List Lv}:oP ids L (List.replicate L.length ⟨0,0,0⟩) 0:=⟨by rw[xm],fun i h=>by omega⟩
theorem oP.next{ids:List Int}{L:List Lv}{es:List Ge}{k:Nat}(h:oP ids L es k)(hk:k<L.length)(hs:ids.Pairwise fun a b=>a<b)(c:(fJ L k).u∈ids)(hv:(fJ L k).v∈ids) :
 oP ids L (fO es k fun _=>⟨gH ids (fJ L k).u,gH ids (fJ L k).v,(fJ L k).wt⟩) (k+1):=by
 have d:=h.len
 refine⟨by rw[gB];exact d,fun i hi=>?_⟩
 rw[ji o_]
 by_cases e:k=i
 . subst e
   rw[if_pos rfl]
   exact⟨(o6 hs c).1,(o6 hs hv).1,(o6 hs c).2,(o6 hs hv).2,rfl⟩
 . rw[if_neg e]
   exact h.fst i o_
structure fV.p8 (s:fV) (K:List Int):Prop where
 j4:K.Pairwise fun a b=>a<b
 mem:∀ x,x∈K↔s.t.mem x
theorem fV.p8.uniq{s:fV}{a b:List Int}(c:s.p8 a)(hb:s.p8 b):a=b:=U5 c.j4 hb.j4 fun x=>(c.mem x).trans (hb.mem x).symm
theorem fV.p8.ends{s:fV}{fN fL:Nat}{K:List Int}{L:List Lv}(h:s.p8 K)(a:s.ok fN fL)(b:s.mQ L){k:Nat}(hk:k<L.length):(fJ L k).u∈K/\(fJ L k).v∈K:=by
 obtain⟨i,hi,e⟩:=(b.mem _).1 (ze (gE hk))
 exact⟨(h.mem _).2 ((a.mem _).2 ⟨i,hi,.inl (by rw[e])⟩),(h.mem _).2 ((a.mem _).2 ⟨i,hi,.inr (by rw[e])⟩)⟩
theorem fV.p8.len{s:fV}{fN fL:Nat}{K:List Int}(h:s.p8 K)(d:s.ok fN fL)(c:s.t.A.ok):K.length<=fN:=by
 have f:K.length<=s.t.tI.length:=AR K _ (h.j4.imp fun {a b} k e=>by omega) fun x g=>(TW.Jf c x).2 ((h.mem x).1 g)
 rw[TW.PZ c]at f
 have i:=d.tok.ul
 have j:=d.tn
 omega
structure Mw where
 wa:Bool
 u:Int
 v:Int
 wt:Int
 af:Int
instance:Inhabited Mw:=⟨⟨false,0,0,0,0⟩⟩
def Mw.cells(x:Mw):List Value:=[.bool x.wa,.int .u8 x.u,.int .u8 x.v,.int .i8 x.wt,.int .u8 x.af]
def Mw.mv(x:Mw):Mv:=⟨x.u,x.v,x.wt,x.af⟩
abbrev cG:WC:=⟨20,40,10,60⟩
theorem rG.tick{c:WC}{s s2:WW}{k:Nat}{T:Int}(h:rG c s k)(g:s2.now=T)(i:T<=s.now+3)(f:s2.added=s.added)(b:∀ y,s2.u.has y↔s.u.has y/\T<y.exp):rG c s2 (k+1):=by
 have d:=h.now
 have e:=h.added
 exact⟨o_,o_,fun x a=>h.ids x ((b x).1 a).1,fun x a=>h.wt x ((b x).1 a).1⟩
end
end Go.Sx
namespace Go.Sx
open Go
structure Ds where
 uv:Value
 lv:Value
 sv:Value
 up:List Nat
 le:List Nat
 sz:List Int
 cnt:Int
 lb:List Nat
structure Ds.wL (d:Nat->Nat) (n:Nat) (s:Ds):Prop where
 ul:s.up.length=n
 ll:s.le.length=n
 sl:s.sz.length=n
 bl:s.lb.length=n
 ub:∀ i,i<n->fJ s.up i<n
 wA:∀ i,i<n->fJ s.lb (fJ s.up i)=fJ s.lb i
 dec:∀ i,i<n->fJ s.up i≠i->d (fJ s.up i)<d i
 r8:∀ i j,i<n->j<n->fJ s.up i=i->fJ s.up j=j->fJ s.lb i=fJ s.lb j->i=j
 gM:∀ i,i<n->fJ s.up i=i->fJ s.le i=fJ s.lb i
 low:∀ i,i<n->fJ s.lb i<=i
 mV:∀ i,i<n->fJ s.lb (fJ s.lb i)=fJ s.lb i
 K4:∀ x∈s.sz,gV .i64 x
def Ds.ok(n:Nat)(s:Ds):Prop:=(∃ d,s.wL d n)/\gV .i64 s.cnt
def jB(lb:List Nat)(x y:Nat):List Nat:=lb.map fun z=>if z=max x y then min x y else z
theorem FM{lb:List Nat}{x y:Nat}:(jB lb x y).length=lb.length:=by simp[jB]
theorem Re{lb:List Nat}{x:Nat}:jB lb x x=lb:=by
 unfold jB
 conv=>rhs;rw[<-List.map_id lb]
 exact zK fun z _=>by simp;intro h;exact h.symm
theorem oI{lb:List Nat}{x y i:Nat}(h:i<lb.length):fJ (jB lb x y) i=if fJ lb i=max x y then min x y else fJ lb i:=by
 obtain⟨z,a⟩:=pO h
 grind [iD,jB]
theorem lG{n i:Nat}(h:i<n):fJ (List.range n) i=i:=iD (pY h)
theorem AN{α:Type}[Inhabited α]{x:α}{n i:Nat}(h:i<n):fJ (List.replicate n x) i=x:=iD (by rw[uk,if_pos h])
theorem ZP:gV .i64 1:=by unfold gV;decide
theorem Ds.tP{n:Nat}{u l s:Value}{c:Int}(b:gV .i64 c):Ds.ok n ⟨u,l,s,List.range n,List.range n,List.replicate n 1,c,List.range n⟩ :=
 ⟨⟨fun _=>0,s_,s_,s_,s_,fun i h=>by show fJ (List.range n) i<n;rw[lG h];exact h,fun i h=>by show fJ (List.range n) (fJ (List.range n) i)=_;rw[lG h,lG h],fun i h a=>absurd (lG h) a,
  fun i j hi d _ _ h=>by have a:fJ (List.range n) i=fJ (List.range n) j:=h;rwa [lG hi,lG d]at a,fun i _ _=>rfl,fun i h=>by show fJ (List.range n) i<=i;rw[lG h];exact zn _,fun i h=>by show fJ (List.range n) (fJ (List.range n) i)=_;rw[lG h,lG h],fun x e=>by rw[(List.mem_replicate.1 e).2];exact ZP⟩,b⟩
structure sD (n k:Nat) (up le:List Nat) (sz:List Int):Prop where
 u:up=(List.range k)++List.replicate (n-k) 0
 l:le=(List.range k)++List.replicate (n-k) 0
 s:sz=List.replicate k 1++List.replicate (n-k) 0
theorem Bl{α:Type}[Inhabited α]{a b:List α}{x y:α}{f:α->α}(c:f x=y):fO (a++x :: b) a.length f=a++y :: b:=by
 unfold fO
 rw[iD (x:=x) s_,c,List.set_append_right _ _ (zn _)]
 simp
theorem sD.start{n:Nat}:sD n 0 (List.replicate n 0) (List.replicate n 0) (List.replicate n 0):=⟨s_,s_,s_⟩
theorem A7{α:Type}{x:α}{n k:Nat}(h:k<n):List.replicate (n-k) x=x :: List.replicate (n-(k+1)) x:=by
 rw[show n-k=(n-(k+1))+1 by omega];rfl
theorem sD.next{n k:Nat}{up le:List Nat}{sz:List Int}(h:sD n k up le sz)(hk:k<n):sD n (k+1) (fO up k fun _=>k) (fO le k fun _=>k) (fO sz k fun _=>1):=by
 obtain⟨rfl,rfl,rfl⟩:=h
 have c:fO (List.range k++List.replicate (n-k) 0) k (fun _=>k)=List.range (k+1)++List.replicate (n-(k+1)) 0:=by
  have:=Bl (a:=List.range k) (b:=List.replicate (n-(k+1)) 0) (x:=0) (y:=k) (f:=fun _=>k) rfl
  rw[qy]at this
  rw[A7 hk,this,tf]
  simp
 refine⟨c,c,?_⟩
 have:=Bl (a:=List.replicate k (1:Int)) (b:=List.replicate (n-(k+1)) 0) (x:=0) (y:=1) (f:=fun _=>1) rfl
 rw[xm]at this
 rw[A7 hk,this,List.replicate_succ']
 simp
theorem sD.fin{n:Nat}{up le:List Nat}{sz:List Int}(h:sD n n up le sz):up=List.range n/\le=List.range n/\sz=List.replicate n 1:=by
 obtain⟨rfl,rfl,rfl⟩:=h
 simp
theorem sD.len{n k:Nat}{up le:List Nat}{sz:List Int}(h:sD n k up le sz)(hk:k<=n):up.length=n/\le.length=n/\sz.length=n:=by
 obtain⟨rfl,rfl,rfl⟩:=h
 simp
 omega
def gh(x:Int):List Value:=[.int .i64 x]
def Ds.wu(s:Ds)(up:List Nat):Ds:={ s with up:=up }
structure pZ (d:Nat->Nat) (n:Nat) (s:Ds) (a0:Nat) (up:List Nat) (a:Nat):Prop where
 ok:(s.wu up).wL d n
 an:a<n
 la:fJ s.lb a=fJ s.lb a0
 ro:∀ i,i<n->fJ s.up i=i->fJ up i=i
theorem pZ.start{d:Nat->Nat}{n a:Nat}{s:Ds}(h:s.wL d n)(b:a<n):pZ d n s a s.up a:=⟨h,b,rfl,fun _ _ h=>h⟩
theorem pZ.half{d:Nat->Nat}{n a0 a:Nat}{s:Ds}{up:List Nat}(h:pZ d n s a0 up a)(w:fJ up a≠a) :
 pZ d n s a0 (fO up a fun _=>fJ up (fJ up a)) (fJ up (fJ up a))/\fJ (fO up a fun _=>fJ up (fJ up a)) a=fJ up (fJ up a)/\d (fJ up (fJ up a))<d a:=by
 obtain⟨b,f,v,A⟩:=h
 have x:up.length=n:=b.ul
 have m:∀ i,i<n->fJ up i<n:=b.ub
 have g:∀ i,i<n->fJ s.lb (fJ up i)=fJ s.lb i:=b.wA
 have t:∀ i,i<n->fJ up i≠i->d (fJ up i)<d i:=b.dec
 have hp:=m a f
 have o:=m _ hp
 have k:∀ i,fJ (fO up a fun _=>fJ up (fJ up a)) i=if a=i then fJ up (fJ up a)else fJ up i:=fun i=>ji o_
 have y:=t a f w
 have r:d (fJ up (fJ up a))<=d (fJ up a):=by
  grind
 have z:fJ up (fJ up a)≠a:=fun e=>by rw[e]at r;omega
 have l:∀ i,fJ (fO up a fun _=>fJ up (fJ up a)) i=i->fJ up i=i:=by
  grind
 refine⟨⟨⟨by show (fO up a fun _=>fJ up (fJ up a)).length=n;rw[gB];exact x,b.ll,b.sl,b.bl,?_,?_,?_,?_,?_,b.low,b.mV,b.K4⟩,o,by rw[g _ hp,g _ f];exact v,?_⟩,by rw[k,if_pos rfl],o_⟩
 . intro i hi
   show fJ (fO up a fun _=>fJ up (fJ up a)) i<n
   rw[k]
   split
   . exact o
   . exact m i hi
 . intro i hi
   show fJ s.lb (fJ (fO up a fun _=>fJ up (fJ up a)) i)=fJ s.lb i
   rw[k]
   split
   . grind
   . exact g i hi
 . intro i hi
   show fJ (fO up a fun _=>fJ up (fJ up a)) i≠i->d (fJ (fO up a fun _=>fJ up (fJ up a)) i)<d i
   grind
 . intro i j hi u c p q
   exact b.r8 i j hi u (l i c) (l j p) q
 . intro i hi c
   exact b.gM i hi (l i c)
 . grind
theorem pZ.PS{d:Nat->Nat}{n a0 a:Nat}{s:Ds}{up:List Nat}(h:pZ d n s a0 up a)(b:fJ up a≠a) :
 pZ d n s a0 (fO up a fun _=>fJ up (fJ up a)) (fJ (fO up a fun _=>fJ up (fJ up a)) a)/\d (fJ (fO up a fun _=>fJ up (fJ up a)) a)<d a:=by
 rw[h.half b |>.2.1]
 exact⟨(h.half b).1,(h.half b).2.2⟩
theorem Ds.join{d:Nat->Nat}{n x y:Nat}{s:Ds}{sz:List Int}{m:Nat}{c:Int}(h:s.wL d n)(f:x<n)(b:y<n)(r:fJ s.up x=x)(o:fJ s.up y=y)(C:x≠y)(hs:sz.length=n)(hk:∀ z∈sz,gV .i64 z)
 (hm:m=min (fJ s.le x) (fJ s.le y)) (A:gV .i64 c):Ds.ok n ⟨s.uv,s.lv,s.sv,fO s.up y fun _=>x,fO s.le x fun _=>m,sz,c,jB s.lb (fJ s.lb x) (fJ s.lb y)⟩:=by
 have G:fJ s.lb x≠fJ s.lb y:=fun e=>C (h.r8 x y f b r o e)
 have l:∀ i,fJ (fO s.up y fun _=>x) i=if y=i then x else fJ s.up i:=fun i=>ji (by rw[h.ul];exact b)
 have B:∀ i,fJ (fO s.le x fun _=>m) i=if x=i then m else fJ s.le i:=fun i=>ji (by rw[h.ll];exact f)
 have hb:∀ i,i<n->fJ (jB s.lb (fJ s.lb x) (fJ s.lb y)) i=if fJ s.lb i=max (fJ s.lb x) (fJ s.lb y)then min (fJ s.lb x) (fJ s.lb y)else fJ s.lb i:=fun i hi=>oI (by rw[h.bl];exact hi)
 refine⟨⟨fun i=>d i+if fJ s.lb i=fJ s.lb y then d x+1 else 0,by show (fO s.up y fun _=>x).length=n;rw[gB];exact h.ul,by show (fO s.le x fun _=>m).length=n;rw[gB];exact h.ll,hs,by show (jB s.lb (fJ s.lb x) (fJ s.lb y)).length=n;rw[FM];exact h.bl,?_,?_,?_,?_,?_,?_,?_,hk⟩,A⟩
 . intro i hi
   show fJ (fO s.up y fun _=>x) i<n
   rw[l]
   split
   . exact f
   . exact h.ub i hi
 . intro i hi
   show fJ (jB s.lb (fJ s.lb x) (fJ s.lb y)) (fJ (fO s.up y fun _=>x) i)=fJ (jB s.lb (fJ s.lb x) (fJ s.lb y)) i
   rw[l,hb i hi]
   by_cases e:y=i
   . grind
   . rw[if_neg e,hb _ (h.ub i hi),h.wA i hi]
 . intro i hi
   show fJ (fO s.up y fun _=>x) i≠i->d (fJ (fO s.up y fun _=>x) i)+_<d i+_
   rw[l]
   by_cases e:y=i
   . grind
   . rw[if_neg e,h.wA i hi]
     intro g
     have:=h.dec i hi g
     omega
 . intro i j hi q g u v
   have a : fJ (fO s.up y fun _=>x) i=i:=g
   have k : fJ (fO s.up y fun _=>x) j=j:=u
   have w : fJ (jB s.lb (fJ s.lb x) (fJ s.lb y)) i=fJ (jB s.lb (fJ s.lb x) (fJ s.lb y)) j:=v
   rw[l]at a k
   rw[hb i hi,hb j q]at w
   have p:y≠i:=fun e=>by rw[if_pos e]at a; omega
   have t:y≠j:=fun e=>by rw[if_pos e]at k; omega
   rw[if_neg p]at a
   rw[if_neg t]at k
   have J:=h.r8 i y hi b a o
   have L:=h.r8 j y q b k o
   have K:=h.r8 i j hi q a k
   grind
 . intro i hi g
   show fJ (fO s.le x fun _=>m) i=fJ (jB s.lb (fJ s.lb x) (fJ s.lb y)) i
   have a : fJ (fO s.up y fun _=>x) i=i:=g
   rw[l]at a
   rw[B,hb i hi,hm,h.gM x f r,h.gM y b o]
   have p:y≠i:=fun e=>by rw[if_pos e]at a; omega
   rw[if_neg p]at a
   by_cases e:x=i
   . subst e
     rw[if_pos rfl]
     split<;>omega
   . rw[if_neg e,h.gM i hi a, if_neg]
     intro F
     have a1:=h.r8 i x hi f a r
     have a2:=h.r8 i y hi b a o
     grind [fJ]
 . intro i hi
   show fJ (jB s.lb (fJ s.lb x) (fJ s.lb y)) i<=i
   rw[hb i hi]
   have:=h.low i hi
   split<;>omega
 . intro i hi
   show fJ (jB s.lb (fJ s.lb x) (fJ s.lb y)) (fJ (jB s.lb (fJ s.lb x) (fJ s.lb y)) i)=fJ (jB s.lb (fJ s.lb x) (fJ s.lb y)) i
   have bi:=h.low i hi
   have bx:=h.low x f
   have E:=h.low y b
   have ix:=h.mV x f
   have I:=h.mV y b
   have D:=h.mV i hi
   rw[hb i hi]
   split
   . have H:min (fJ s.lb x) (fJ s.lb y)<n:=by omega
     grind
   . rename_i e
     rw[hb _ o_,D,if_neg e]
theorem pZ.two{d:Nat->Nat}{n a b x y:Nat}{s:Ds}{g u2:List Nat}(h1:pZ d n s a g x)(r1:fJ g x=x)(c:pZ d n (s.wu g) b u2 y)(r2:fJ u2 y=y) :
 (s.wu u2).wL d n/\fJ u2 x=x/\fJ u2 y=y/\x<n/\y<n/\fJ s.lb x=fJ s.lb a/\fJ s.lb y=fJ s.lb b/\(x=y↔fJ s.lb a=fJ s.lb b):=by
 have h:=c.ro x h1.an r1
 refine⟨c.ok,h,r2,h1.an,c.an,h1.la,c.la,fun e=>?_,fun e=>?_⟩
 . have e1:=h1.la
   have f:fJ s.lb y=fJ s.lb b:=c.la
   rw[<-e1,<-f,e]
 . have e1:=h1.la
   have f:fJ s.lb y=fJ s.lb b:=c.la
   exact c.ok.r8 x y h1.an c.an h r2 (e1.trans (e.trans f.symm))
theorem Rb{lb:List Nat}{x y:Nat}:jB lb x y=jB lb y x:=by unfold jB;rw[Nat.max_comm,Nat.min_comm]
theorem Rc{lb:List Nat}{x y a b:Nat}(h1:x=a)(c:y=b):jB lb x y=jB lb a b:=by rw[h1,c]
theorem TS{k:IntKind}{zs:List Int}{i:Nat}{f:Int->Int}(h:∀ z∈zs,gV k z)(b:gV k (f (fJ zs i))):∀ z∈fO zs i f,gV k z:=fun z c=>by
 rcases List.mem_or_eq_of_mem_set c with a|a
 . exact h z a
 . exact a▸b
theorem FJ{a b:Nat}:(if (b:Int)<(a:Int)then(b:Int)else(a:Int))=((min a b:Nat):Int):=by split<;>omega
theorem aa8{a b:Nat}:(if (a:Int)<(b:Int)then(b:Int)else(a:Int))=((max a b:Nat):Int):=by split<;>omega
theorem GP(x:Int):gV .i64 (IntKind.i64.wrap x):=by
 rw[IntKind.wrap_i64]
 show (-9223372036854775808:Int)<=_/\_<=(9223372036854775807:Int)
 omega
theorem adS(v:Value){e:TypeId}{n:Nat}:fM fW v e 1 (List.replicate n 0)=fM gh v e 1 (List.replicate n 0):=by
 unfold fM
 have h:(List.replicate n (0:Nat)).flatMap fW=(List.replicate n (0:Int)).flatMap gh:=by
  induction n with
  | zero=>rfl
  | succ n a=>rw[List.replicate_succ,List.replicate_succ,zy,zy,a];rfl
 grind
end Go.Sx
namespace Go.Sx
open Go
def iT(es:List Ge):List Nat:=es.flatMap fun e=>[e.u,e.v]
theorem xO(es:List Ge):(iT es).length=2*es.length:=by
 induction es with
 | nil=>rfl
 | cons e es a=>simp only[iT,zy,zt,zh,zm]at *;omega
theorem Aq{es:List Ge}{i:Nat}(h:i<es.length):(iT es)[2*i]? = some (fJ es i).u/\(iT es)[2*i+1]? = some (fJ es i).v:=by
 induction es generalizing i with
 | nil=>simp at h
 | cons e es a =>
  cases i with
  | zero=>exact⟨rfl,rfl⟩
  | succ i =>
   have:=a (i:=i) (by simpa using h)
   have e1:fJ (e :: es) (i+1)=fJ es i:=by simp[fJ]
   rw[e1]
   simpa[iT,show 2*(i+1)=2*i+1+1 by omega,show 2*(i+1)+1=2*i+1+1+1 by omega]using this
theorem Wy{es:List Ge}{i:Nat}(h:i<es.length):iT (es.take (i+1))=iT (es.take i)++[(fJ es i).u,(fJ es i).v]:=by
 have a:es.take (i+1)=es.take i++[fJ es i]:=by rw[ry,gE h];rfl
 rw[a]
 simp[iT]
def oD(E:List Nat)(v:Nat):Nat:=E.count v
def sR(E:List Nat)(v:Nat):Nat:=E.countP fun x=>decide (x<v)
theorem QH(E:List Nat)(v:Nat):sR E (v+1)=sR E v+oD E v:=by
 unfold sR oD
 induction E with
 | nil=>rfl
 | cons x E a =>
  rw[xe,xe,List.count_cons,a]
  by_cases h1:x<v
  . rw[if_pos (by simp;omega),if_pos (by simpa using h1),if_neg (by simp;omega)];omega
  . by_cases h2:x=v
    . subst h2
      rw[if_pos s_,if_neg s_,if_pos s_];omega
    . rw[if_neg (by simp;omega),if_neg (by simpa using h1),if_neg (by simpa using h2)];omega
theorem aaS(E:List Nat):sR E 0=0:=by unfold sR;rw[BE];simp
theorem QG(E:List Nat)(v:Nat):sR E v<=E.length:=L4
theorem N5(E:List Nat)(v:Nat):oD E v<=E.length:=List.count_le_length
theorem VX{E:List Nat}{k v:Nat}(h:E[k]? = some v):oD (E.take k) v<oD E v:=by
 have a:k<E.length:=(zj.1 h).1
 have b:E=E.take k++v :: E.drop (k+1):=by
  conv=>lhs;rw[<-vo k E]
  rw[BA a,(zj.1 h).2]
 unfold oD
 conv=>rhs;rw[b]
 rw[List.count_append,List.count_cons_self]
 omega
theorem VW{E:List Nat}{k v:Nat}(h:E[k]? = some v)(x:Nat):oD (E.take (k+1)) x=oD (E.take k) x+if v=x then 1 else 0:=by
 unfold oD
 rw[ry,h,List.count_append]
 simp[List.count_cons]
def og(n:Nat)(E:List Nat):List Nat:=0 :: (List.range n).map (oD E)
theorem wT{n:Nat}{E:List Nat}:(og n E).length=n+1:=by simp[og]
theorem Be{n v:Nat}{E:List Nat}(h:v<n):fJ (og n E) (v+1)=oD E v:=iD (by simp[og,pY h])
theorem AL{α:Type}[Inhabited α]{xs ys:List α}(h:xs.length=ys.length)(a:∀ i,i<xs.length->fJ xs i=fJ ys i):xs=ys:=by
 apply ow
 intro i
 by_cases hi:i<xs.length
 . rw[gE hi,gE o_,a i hi]
 . rw[nk o_,nk o_]
theorem aei{n:Nat}:List.replicate (n+1) 0=og n []:=by
 refine AL (by simp[og]) fun i hi=>?_
 rw[xm]at hi
 rw[AN hi]
 cases i with
 | zero=>rfl
 | succ i=>rw[Be o_];rfl
theorem SX{n v:Nat}{E:List Nat}(h:v<n):fO (og n E) (v+1) (fun _=>fJ (og n E) (v+1)+1)=og n (E++[v]):=by
 refine AL (by rw[gB,wT,wT]) fun i hi=>?_
 rw[gB,wT]at hi
 rw[ji (by rw[wT];omega)]
 cases i with
 | zero=>rw[if_neg o_];rfl
 | succ i =>
  rw[Be (show i<n by omega),Be (show i<n by omega),Be h]
  unfold oD
  rw[List.count_append]
  by_cases e:v=i
  . subst e;simp
  . rw[if_neg o_];simp[e]
def mJ(n:Nat)(E:List Nat)(k:Nat):List Nat:=(List.range (n+1)).map fun j=>if j<=k then sR E j else oD E (j-1)
theorem yQ{n k:Nat}{E:List Nat}:(mJ n E k).length=n+1:=by simp[mJ]
theorem yR{n k j:Nat}{E:List Nat}(h:j<=n):fJ (mJ n E k) j=if j<=k then sR E j else oD E (j-1):=iD (by rw[mJ,lZ,pY o_];rfl)
theorem aek{n:Nat}{E:List Nat}:og n E=mJ n E 0:=by
 refine AL (by rw[wT,yQ]) fun i hi=>?_
 rw[wT]at hi
 rw[yR o_]
 cases i with
 | zero=>rw[if_pos o_,aaS];rfl
 | succ i=>rw[if_neg o_,Be o_];rfl
theorem aej{n k:Nat}{E:List Nat}(h:k<n):fO (mJ n E k) (k+1) (fun _=>fJ (mJ n E k) (k+1)+fJ (mJ n E k) k)=mJ n E (k+1):=by
 refine AL (by rw[gB,yQ,yQ]) fun i hi=>?_
 rw[gB,yQ]at hi
 rw[ji (by rw[yQ];omega),yR (show i<=n by omega),yR (show i<=n by omega),yR (show k+1<=n by omega),yR (show k<=n by omega)]
 by_cases e:k+1=i
 . subst e
   rw[if_pos rfl,if_neg o_,if_pos (zn _),if_pos (zn _),QH,show k+1-1=k by omega];omega
 . rw[if_neg e]
   by_cases h1:i<=k
   . rw[if_pos h1,if_pos o_]
   . rw[if_neg h1,if_neg o_]
def Bg(n:Nat)(es:List Ge):List Nat:=mJ n (iT es) n
theorem aeH{n j:Nat}{es:List Ge}(h:j<=n):fJ (Bg n es) j=sR (iT es) j:=by rw[Bg,yR h,if_pos h]
theorem S6{n:Nat}{es:List Ge}:(Bg n es).length=n+1:=yQ
def oJ(n:Nat)(E:List Nat)(k:Nat):List Nat:=(List.range (n+1)).map fun v=>sR E v+oD (E.take k) v
theorem yH{n k:Nat}{E:List Nat}:(oJ n E k).length=n+1:=by simp[oJ]
theorem C8{n k v:Nat}{E:List Nat}(h:v<=n):fJ (oJ n E k) v=sR E v+oD (E.take k) v:=iD (by rw[oJ,lZ,pY o_];rfl)
theorem ab5{n:Nat}{es:List Ge}:Bg n es=oJ n (iT es) 0:=by
 refine AL (by rw[S6,yH]) fun i hi=>?_
 rw[S6]at hi
 rw[aeH o_,C8 o_]
 simp[oD]
theorem Rq{n k v:Nat}{E:List Nat}(hv:v<n)(h:E[k]? = some v):fO (oJ n E k) v (fun _=>fJ (oJ n E k) v+1)=oJ n E (k+1):=by
 refine AL (by rw[gB,yH,yH]) fun i hi=>?_
 rw[gB,yH]at hi
 rw[ji (by rw[yH];omega),C8 (show i<=n by omega),C8 (show i<=n by omega),C8 (show v<=n by omega),VW h]
 by_cases e:v=i
 . subst e;rw[if_pos rfl,if_pos rfl];omega
 . rw[if_neg e,if_neg e];rfl
theorem Rp{n k v:Nat}{E:List Nat}(hv:v<n)(h:E[k]? = some v):fJ (oJ n E k) v<E.length:=by
 rw[C8 o_]
 have a:=VX h
 have b:=QH E v
 have c:=QG E (v+1)
 omega
def qQ(n:Nat)(E:List Nat):Nat->List Nat
 | 0=>List.replicate E.length 0
 | k+1=>fO (qQ n E k) (fJ (oJ n E k) (fJ E k)) fun _=>k / 2
theorem JM{n:Nat}{E:List Nat}:∀ k,(qQ n E k).length=E.length
 | 0=>by simp[qQ]
 | k+1=>by rw[qQ,gB];exact JM k
def lsF(n:Nat)(es:List Ge):List Nat:=qQ n (iT es) (2*es.length)
def p7(n:Nat)(es:List Ge):Prop:=∀ e∈es,e.u<n/\e.v<n/\e.u≠e.v
theorem p7.at{n:Nat}{es:List Ge}(h:p7 n es){i:Nat}(hi:i<es.length):(fJ es i).u<n/\(fJ es i).v<n/\(fJ es i).u≠(fJ es i).v:=h _ (ze (gE hi))
theorem aaT{n i:Nat}{es:List Ge}(h:i<es.length):qQ n (iT es) (2*i+1)=fO (qQ n (iT es) (2*i)) (fJ (oJ n (iT es) (2*i)) (fJ es i).u) fun _=>i:=by
 rw[qQ,iD (Aq h).1,show 2*i / 2=i by omega]
theorem aaU{n i:Nat}{es:List Ge}(h:i<es.length):qQ n (iT es) (2*(i+1))=fO (qQ n (iT es) (2*i+1)) (fJ (oJ n (iT es) (2*i+1)) (fJ es i).v) fun _=>i:=by
 rw[show 2*(i+1)=2*i+1+1 by omega,qQ,iD (Aq h).2,show (2*i+1) / 2=i by omega]
structure Gr where
 ev:Value
 sv:Value
 lv:Value
theorem SY{n j:Nat}{E:List Nat}(h:j<=n):fJ (og n E) j<=E.length:=by
 cases j with
 | zero=>exact oN _
 | succ j=>rw[Be o_];exact N5 _ _
theorem SZ{n k j:Nat}{E:List Nat}(h:j<=n):fJ (mJ n E k) j<=E.length:=by
 rw[yR h]
 split
 . exact QG _ _
 . exact N5 _ _
theorem St.reR{bs:List (World×List Nat)}{L:List fS}{R R' : fS}{w:World}(j:Nat)(h:St bs L w)(hi:L[j]? = some R)(e:R=R'):St bs (L.set j R') w:=by
 subst e
 rwa [show L.set j R=L from by
  apply ow
  intro i
  rw[vt]
  split
  . rename_i e
    subst e
    split
    . exact hi.symm
    . rename_i a
      rw[nk o_]at hi
      cases hi
  . rfl]
end Go.Sx
namespace Go.Sx
open Go
def qO(es:List Ge)(i j:Nat):Prop:=(fJ es i).w<(fJ es j).w\/((fJ es i).w=(fJ es j).w/\i<j)
instance (es:List Ge) (i j:Nat):Decidable (qO es i j):=by unfold qO;infer_instance
theorem aar{es:List Ge}(i:Nat):¬ qO es i i:=by unfold qO;omega
theorem aaq{es:List Ge}{i j:Nat}(h:qO es i j):¬ qO es j i:=by unfold qO at *;omega
structure sG (es:List Ge) (o:List Nat):Prop where
 perm:o.Perm (List.range es.length)
 Gm:o.Pairwise (qO es)
theorem sG.uniq{es:List Ge}{o o' : List Nat}(h:sG es o)(c : sG es o'):o=o' :=
 EC (r:=qO es) aar (fun a b h=>aaq h) h.Gm c.Gm fun x=>(h.perm.mem_iff).trans (c.perm.mem_iff).symm
theorem sG.len{es:List Ge}{o:List Nat}(h:sG es o):o.length=es.length:=by rw[h.perm.length_eq,qy]
theorem sG.lt{es:List Ge}{o:List Nat}(h:sG es o){i:Nat}(hi:i∈o):i<es.length:=l7.1 (h.perm.mem_iff.1 hi)
def gW(es:List Ge)(n:Nat)(f:List Nat):List Nat:=f.foldl (fun lb i=>jB lb (fJ lb (fJ es i).u) (fJ lb (fJ es i).v)) (List.range n)
theorem Fu{es:List Ge}{n:Nat}{f:List Nat}{i:Nat}:gW es n (f++[i])=jB (gW es n f) (fJ (gW es n f) (fJ es i).u) (fJ (gW es n f) (fJ es i).v):=by
 unfold gW
 rw[List.foldl_append]
 rfl
theorem Ft{es:List Ge}{n:Nat}(f:List Nat):(gW es n f).length=n:=by
 unfold gW
 rw[<-List.foldr_reverse]
 induction f.reverse with
 | nil=>exact qy
 | cons i f a=>rw[List.foldr_cons,FM];exact a
def mA(es:List Ge)(n:Nat)(f:List Nat)(i:Nat):Prop:=fJ (gW es n f) (fJ es i).u≠fJ (gW es n f) (fJ es i).v
instance (es:List Ge) (n:Nat) (f:List Nat) (i:Nat):Decidable (mA es n f i):=by unfold mA;infer_instance
def jF(es:List Ge)(n:Nat)(o:List Nat):List Nat:=o.foldl (fun f i=>if mA es n f i then f++[i]else f) []
theorem CE{es:List Ge}{n:Nat}{o:List Nat}{i:Nat}:jF es n (o++[i])=if mA es n (jF es n o) i then jF es n o++[i]else jF es n o:=by
 unfold jF
 rw[List.foldl_append]
 rfl
theorem Fe{es:List Ge}{n k:Nat}{o:List Nat}(h:k<o.length):jF es n (o.take (k+1))=if mA es n (jF es n (o.take k)) (fJ o k)then jF es n (o.take k)++[fJ o k]else jF es n (o.take k):=by
 rw[<-CE,ry,gE h]
 rfl
theorem CF{es:List Ge}{n:Nat}(o:List Nat):(jF es n o).Sublist o:=by
 have h:∀ r:List Nat,(jF es n r.reverse).Sublist r.reverse:=by
  intro r
  induction r with
  | nil=>exact List.Sublist.refl _
  | cons i r a =>
   rw[List.reverse_cons,CE]
   split
   . exact a.append (List.Sublist.refl _)
   . exact a.trans (List.sublist_append_left _ _)
 simpa using h o.reverse
theorem JA{es:List Ge}{n:Nat}{f:List Nat}{i:Nat}:gW es n (if mA es n f i then f++[i]else f)=jB (gW es n f) (fJ (gW es n f) (fJ es i).u) (fJ (gW es n f) (fJ es i).v):=by
 split
 . exact Fu
 . rename_i h
   have e:fJ (gW es n f) (fJ es i).u=fJ (gW es n f) (fJ es i).v:=Decidable.not_not.1 h
   rw[e,Re]
structure nS (es:List Ge) (n:Nat) (f:List Nat):Prop where
 of:∃ o,sG es o/\f=jF es n o
theorem nS.uniq{es:List Ge}{n:Nat}{f a : List Nat}(h:nS es n f)(b : nS es n a):f=a := by
 obtain⟨o,c,rfl⟩:=h
 obtain⟨e, d,rfl⟩:=b
 rw[c.uniq d]
theorem nS.lt{es:List Ge}{n:Nat}{f:List Nat}(h:nS es n f){i:Nat}(hi:i∈f):i<es.length:=by
 obtain⟨o,a,rfl⟩:=h
 exact a.lt ((CF o).subset hi)
def rY(m k:Nat):List Nat:=List.range k++List.replicate (m-k) 0
theorem adF{m:Nat}:List.replicate m 0=rY m 0:=by simp[rY]
theorem adC{m:Nat}:rY m m=List.range m:=by simp[rY]
theorem adD{m k:Nat}(h:k<=m):(rY m k).length=m:=by simp[rY];omega
theorem adE{m k:Nat}(h:k<m):fO (rY m k) k (fun _=>k)=rY m (k+1):=by
 have:=Bl (a:=List.range k) (b:=List.replicate (m-(k+1)) 0) (x:=0) (y:=k) (f:=fun _=>k) rfl
 rw[qy]at this
 rw[rY,A7 h,this,rY,tf]
 simp
end Go.Sx
namespace Go.Sx
open Go
section
variable {r:Option Nat} {P:Program} {ops:Array Oper} {Q:Exit->Act->World->Prop} {n:Nat} {ds:List Deferred} {s:List (Nat×Value)} {rest:List Oper} {w w0:World} {d:Nat} {dd:Option Nat} {T e:TypeId} {ty:TypeId} {pos:String} {af:Array Edge} {g:Option (Nat×Bool)} {x y:Operand} {α:Type} {cf:α->List Value} {ok:Nat->Prop} {ys:List α} {c:α} {sz k off off' se by_ m i:Nat} {z v:Value} {kk:IntKind}
theorem ZX(l:ev n s x=jU sz v k off)(p:ev n s y = .int kk (i:Nat))(d:P.underlying T=some (.array m e))(j:TI P e se by_ z)(r:i<m)(h:off+i*se=off')(a:ir sz cf ok w0 v ys)(f:ys[k]? = some c) :
 (execOp (ev n s) ⟨dd,.indexAddr T x y,ty,pos,af,g⟩).run P w = .ok (.value (jU sz v k off')) w:=by
 obtain⟨b,o,t, q,rfl,_⟩:=a.place f
 subst h
 exact P6 l p d j ⟨o_,o_⟩ (by simp only[nq,k6])
theorem uL(j:gD ops n s g=true)(p:ev n s x=jU sz v k off)(q:ev n s y = .int kk (i:Nat))(f:P.underlying T=some (.array m e))(o:TI P e se by_ z)(a:i<m)(l:off+i*se=off')(b:ir sz cf ok w0 v ys)(h:ys[k]? = some c)
 (K:WL r P ops Q rest (Fr n ((d,jU sz v k off') :: s) ds) w):WL r P ops Q (⟨some d,.indexAddr T x y,ty,pos,af,g⟩ :: rest) (Fr n s ds) w:=pw j (fun _=>ZX p q f o a l b h) K
end
structure iS where
 a:Nat
 b:Nat
instance:Inhabited iS:=⟨⟨0,0⟩⟩
abbrev iS.cells(x:iS):List Value:=[.int .i64 (x.a:Int),.int .i64 (x.b:Int)]
structure Un (n:Nat) (lb:List Nat) (us:List iS):Prop where
 len:us.length=n
 bl:lb.length=n
 le:∀ i,i<n->(fJ us i).a<=i
 wA:∀ i,i<n->fJ lb (fJ us i).a=fJ lb i
 root:∀ i,i<n->(fJ us i).a=i->fJ lb i=i
 low:∀ i,i<n->fJ lb i<=i
 mV:∀ i,i<n->fJ lb (fJ lb i)=fJ lb i
structure ux (n:Nat) (lb:List Nat) (us0:List iS) (a0:Nat) (us:List iS) (i:Nat):Prop where
 un:Un n lb us
 nd:∀ j,(fJ us j).b=(fJ us0 j).b
 lt:i<n
 la:fJ lb i=fJ lb a0
theorem ux.start{n a:Nat}{lb:List Nat}{us:List iS}(h:Un n lb us)(b:a<n):ux n lb us a us a:=⟨h,fun _=>rfl,b,rfl⟩
theorem ux.half{n a0 i:Nat}{lb:List Nat}{l us us2:List iS}(h:ux n lb l a0 us i)(r:(fJ us i).a≠i)(k:us2=fO us i fun x=>{ x with a:=(fJ us (fJ us i).a).a }) :
 ux n lb l a0 us2 (fJ us2 i).a/\(fJ us2 i).a<i:=by
 have hi:=h.lt
 have m:=h.un.len
 have o:=h.un.le i hi
 have hp:(fJ us i).a<n:=by omega
 have p:=h.un.le _ hp
 have f:=h.un.wA i hi
 have g:=h.un.wA _ hp
 have c:∀ j,fJ us2 j=if i=j then { fJ us i with a:=(fJ us (fJ us i).a).a } else fJ us j:=fun j=>by rw[k];exact ji o_
 have e1:(fJ us2 i).a=(fJ us (fJ us i).a).a:=by rw[c,if_pos rfl]
 rw[e1]
 refine⟨⟨⟨by rw[k,gB];exact m,h.un.bl,fun j b=>?_,fun j b=>?_,fun j b d=>?_,h.un.low,h.un.mV⟩,fun j=>?_,o_,by rw[g,f];exact h.la⟩,o_⟩
 . rw[c]
   split
   . rename_i e;subst e;show (fJ us (fJ us i).a).a<=i;omega
   . exact h.un.le j b
 . rw[c]
   split
   . rename_i e;subst e;show fJ lb (fJ us (fJ us i).a).a=_;rw[g,f]
   . exact h.un.wA j b
 . rw[c]at d
   split at d
   . rename_i e
     subst e
     have q:(fJ us (fJ us i).a).a=i:=d
     omega
   . exact h.un.root j b d
 . rw[c]
   split
   . rename_i e;subst e;exact h.nd i
   . exact h.nd j
theorem ux.fin{n a0 i:Nat}{lb:List Nat}{c us:List iS}(h:ux n lb c a0 us i)(b:(fJ us i).a=i):i=fJ lb a0:=by rw[<-h.la,h.un.root i h.lt b]
end Go.Sx
namespace Go.Sx
open Go
theorem Un.join{n x y a b c:Nat}{lb:List Nat}{us us2:List iS}(h:Un n lb us)(A:x<n)(B:y<n)(ex:fJ lb x=x)(r:fJ lb y=y)(w:x≠y)(l:a=min x y)(hb:b=max x y)
 (m:us2=fO (fO us b fun z=>{ z with a:=a }) a fun z=>{ z with b:=c }):Un n (jB lb x y) us2/\∀ j,(fJ us2 j).b=if j=a then c else(fJ us j).b:=by
 have o:=h.len
 have t:a<b:=by omega
 have u:b<n:=by omega
 have v:∀ j,fJ us2 j=if a=j then { fJ us a with b:=c } else if b=j then { fJ us b with a:=a } else fJ us j:=by
  grind [ji,gB]
 have i:∀ j,(fJ us2 j).a=if b=j then a else(fJ us j).a:=by
  grind
 have hm:∀ j,j<n->fJ (jB lb x y) j=if fJ lb j=b then a else fJ lb j:=fun j d=>by rw[oI (by rw[h.bl];exact d),<-l,<-hb]
 have q:fJ lb b=b:=by rcases(show b=x\/b=y by omega)with e|e<;>rw[e]<;>assumption
 have p:fJ lb a=a:=by rcases(show a=x\/a=y by omega)with e|e<;>rw[e]<;>assumption
 refine⟨⟨by rw[m,gB,gB];exact o,by rw[FM];exact h.bl,fun j d=>?_,fun j d=>?_,fun j d g=>?_,fun j d=>?_,fun j d=>?_⟩,fun j=>?_⟩
 . rw[i]
   split
   . omega
   . exact h.le j d
 . rw[i,hm j d]
   split
   . grind
   . have f:=h.le j d
     rw[hm _ o_,h.wA j d]
 . rw[i]at g
   split at g
   . omega
   . rename_i e
     rw[hm j d]
     have f:=h.root j d g
     rw[f,if_neg (fun k=>e k.symm)]
 . rw[hm j d]
   have f:=h.low j d
   split<;>omega
 . have f:=h.low j d
   have s:=h.mV j d
   rw[hm j d]
   split
   . grind
   . grind
 . grind
structure nU where
 l:List Int
 r:List Int
 p:List Int
 h:List Int
 s:List Nat
 d:List Nat
def nU.init(n m:Nat):nU:=⟨List.replicate m (-1),List.replicate m (-1),List.replicate m (-1),List.replicate m 0,List.replicate n 1++List.replicate (m-n) 0,List.range n⟩
def nU.step(lb:List Nat)(e:Ge)(x:Nat)(t:nU):nU :=
 ⟨fO t.l x (fun _=>((fJ t.d (min (fJ lb e.u) (fJ lb e.v)):Nat):Int)),fO t.r x (fun _=>((fJ t.d (max (fJ lb e.u) (fJ lb e.v)):Nat):Int)),
  fO (fO t.p (fJ t.d (min (fJ lb e.u) (fJ lb e.v))) (fun _=>(x:Int))) (fJ t.d (max (fJ lb e.u) (fJ lb e.v))) (fun _=>(x:Int)),fO t.h x (fun _=>e.w),
  fO t.s x (fun _=>fJ t.s (fJ t.d (min (fJ lb e.u) (fJ lb e.v)))+fJ t.s (fJ t.d (max (fJ lb e.u) (fJ lb e.v)))),fO t.d (min (fJ lb e.u) (fJ lb e.v)) (fun _=>x)⟩
def gN(es:List Ge)(n:Nat)(f:List Nat):Nat->nU
 | 0=>nU.init n (n+f.length)
 | i+1=>nU.step (gW es n (f.take i)) (fJ es (fJ f i)) (n+i) (gN es n f i)
def fU(es:List Ge)(n:Nat)(f:List Nat):nU:=gN es n f f.length
theorem V0{l:List Nat}{a b:Nat}(h:a≠b):l.count a+l.count b<=l.length:=by
 induction l with
 | nil=>simp
 | cons x l c =>
  grind
theorem abF{lb:List Nat}{x y j:Nat}(h:x≠y):(jB lb x y).count j=if j=max x y then 0 else if j=min x y then lb.count x+lb.count y else lb.count j:=by
 unfold jB
 induction lb with
 | nil=>simp
 | cons z lb a =>
  grind
structure qB (es:List Ge) (n:Nat) (f:List Nat) (i:Nat) (us:List iS):Prop where
 un:Un n (gW es n (f.take i)) us
 dd:∀ j,j<n->(fJ us j).b=fJ (gN es n f i).d j
 nd:∀ j,j<n->fJ (gN es n f i).d j<n+i
 sz:∀ j,j<n->fJ (gW es n (f.take i)) j=j->fJ (gN es n f i).s (fJ (gN es n f i).d j)=(gW es n (f.take i)).count j
theorem yX{es:List Ge}{n:Nat}{f:List Nat}:∀ i,(gN es n f i).l.length=n+f.length/\(gN es n f i).r.length=n+f.length/\(gN es n f i).p.length=n+f.length/\(gN es n f i).h.length=n+f.length/\(gN es n f i).s.length=n+f.length/\(gN es n f i).d.length=n
 | 0=>by simp[gN,nU.init]
 | i+1=>by
  have h:=yX (es:=es) (n:=n) (f:=f) i
  simp only[gN,nU.step,gB]
  exact h
theorem VZ{n j:Nat}(h:j<n):(List.range n).count j=1:=by
 grind
theorem Un.init{n:Nat}:Un n (List.range n) ((List.range n).map fun i=>⟨i,i⟩):=by
 have h:∀ i,i<n->fJ ((List.range n).map fun i=>(⟨i,i⟩:iS)) i=⟨i,i⟩:=fun i hi=>iD (by rw[lZ,pY hi];rfl)
 exact⟨s_,s_,fun i hi=>by rw[h i hi];exact zn _,fun i hi=>by rw[h i hi],fun i hi _=>lG hi,fun i hi=>by rw[lG hi];exact zn _,fun i hi=>by rw[lG hi,lG hi]⟩
theorem qB.start{es:List Ge}{n:Nat}{f:List Nat}:qB es n f 0 ((List.range n).map fun i=>⟨i,i⟩):=by
 have h:∀ i,i<n->fJ ((List.range n).map fun i=>(⟨i,i⟩:iS)) i=⟨i,i⟩:=fun i hi=>iD (by rw[lZ,pY hi];rfl)
 refine⟨Un.init,fun j a=>?_,fun j a=>?_,fun j a _=>?_⟩
 . rw[h j a];exact(lG a).symm
 . show fJ (List.range n) j<n+0
   rw[lG a];omega
 . show fJ (List.replicate n 1++List.replicate (n+f.length-n) 0) (fJ (List.range n) j)=(List.range n).count j
   rw[lG a,VZ a]
   exact iD (by rw[zG (by simpa using a),uk,if_pos a])
theorem qB.at{es:List Ge}{n:Nat}{f:List Nat}{i:Nat}{us:List iS}(h:qB es n f i us)(d:p7 n es)(hi:i<f.length)(c:∀ k∈f,k<es.length)(b:mA es n (f.take i) (fJ f i)) :
 (fJ es (fJ f i)).u<n/\(fJ es (fJ f i)).v<n/\fJ (gW es n (f.take i)) (fJ es (fJ f i)).u<n/\fJ (gW es n (f.take i)) (fJ es (fJ f i)).v<n/\fJ (gW es n (f.take i)) (fJ es (fJ f i)).u≠fJ (gW es n (f.take i)) (fJ es (fJ f i)).v:=by
 have a:=d.at (c _ (ze (gE hi)))
 have e:=h.un.low _ a.1
 have g:=h.un.low _ a.2.1
 exact⟨a.1,a.2.1,o_,o_,b⟩
theorem qB.next{es:List Ge}{n:Nat}{f:List Nat}{i:Nat}{us us2 p:List iS}(h:qB es n f i us)(G:p7 n es)(hi:i<f.length)(F:∀ k∈f,k<es.length)(D:mA es n (f.take i) (fJ f i))
 (C:Un n (gW es n (f.take i)) us2) (hb:∀ j,j<n->(fJ us2 j).b=fJ (gN es n f i).d j)
 (E:p=fO (fO us2 (max (fJ (gW es n (f.take i)) (fJ es (fJ f i)).u) (fJ (gW es n (f.take i)) (fJ es (fJ f i)).v)) fun z=>{ z with a:=min (fJ (gW es n (f.take i)) (fJ es (fJ f i)).u) (fJ (gW es n (f.take i)) (fJ es (fJ f i)).v) }) (min (fJ (gW es n (f.take i)) (fJ es (fJ f i)).u) (fJ (gW es n (f.take i)) (fJ es (fJ f i)).v)) fun z=>{ z with b:=n+i }) :
 qB es n f (i+1) p:=by
 obtain⟨t,w,A,B,m⟩:=h.at G hi F D
 have e1:=h.un.mV _ t
 have r:=h.un.mV _ w
 have o:gW es n (f.take (i+1))=jB (gW es n (f.take i)) (fJ (gW es n (f.take i)) (fJ es (fJ f i)).u) (fJ (gW es n (f.take i)) (fJ es (fJ f i)).v):=by
  rw[ry,gE hi]
  exact Fu
 generalize O:fJ (gW es n (f.take i)) (fJ es (fJ f i)).u=x at *
 generalize P:fJ (gW es n (f.take i)) (fJ es (fJ f i)).v=y at *
 obtain⟨L,Q⟩:=Un.join (c:=n+i) C A B e1 r m rfl rfl E
 have N:=yX (es:=es) (n:=n) (f:=f) i
 have hd:∀ j,fJ (gN es n f (i+1)).d j=if min x y=j then n+i else fJ (gN es n f i).d j:=by
  grind [gN,nU.step,ji]
 have hs:∀ j,fJ (gN es n f (i+1)).s j=if n+i=j then fJ (gN es n f i).s (fJ (gN es n f i).d (min x y))+fJ (gN es n f i).s (fJ (gN es n f i).d (max x y))else fJ (gN es n f i).s j:=by
  grind [gN,nU.step,ji]
 have I:fJ (gW es n (f.take i)) (min x y)=min x y:=by rcases DU x y with q|q<;>simp only[uo,Hr,q]<;>assumption
 have H:fJ (gW es n (f.take i)) (max x y)=max x y:=by rcases DU x y with q|q<;>simp only[Hs,DQ,q]<;>assumption
 refine⟨o▸L,fun j g=>?_,fun j g=>?_,fun j g l=>?_⟩
 . grind
 . rw[hd]
   have:=h.nd j g
   split<;>omega
 . rw[o]at l ⊢
   rw[abF m,hd]
   rw[oI (by rw[h.un.bl];exact g)]at l
   by_cases e:min x y=j
   . rw[if_pos e,if_neg o_,if_pos e.symm,hs,if_pos rfl,h.sz _ o_ I,h.sz _ o_ H]
     grind
   . rw[if_neg e]
     have J:j≠max x y:=by
      grind
     have K:fJ (gW es n (f.take i)) j=j:=by
      split at l
      . rename_i M;omega
      . exact l
     rw[if_neg J,if_neg (fun q=>e q.symm),hs,if_neg (by have:=h.nd j g;omega)]
     exact h.sz j g K
theorem YO{es:List Ge}{n:Nat}(o:List Nat):∀ i,i<(jF es n o).length->mA es n ((jF es n o).take i) (fJ (jF es n o) i):=by
 have h:∀ r:List Nat,∀ i,i<(jF es n r.reverse).length->mA es n ((jF es n r.reverse).take i) (fJ (jF es n r.reverse) i):=by
  intro r
  induction r with
  | nil=>intro i hi;simp[jF]at hi
  | cons k r a =>
   grind [CE,jF,fJ,iD]
 simpa using h o.reverse
theorem nS.mA{es:List Ge}{n:Nat}{f:List Nat}(h:nS es n f){i:Nat}(hi:i<f.length):mA es n (f.take i) (fJ f i):=by
 obtain⟨o,_,rfl⟩:=h
 exact YO o i hi
theorem qB.two{es:List Ge}{n:Nat}{f:List Nat}{i:Nat}{us:List iS}(h:qB es n f i us)(r:p7 n es)(hi:i<f.length)(p:∀ k∈f,k<es.length)(o:mA es n (f.take i) (fJ f i)){x y:Nat}(t:fJ (gW es n (f.take i)) (fJ es (fJ f i)).u=x)(w:fJ (gW es n (f.take i)) (fJ es (fJ f i)).v=y) :
 fJ (gN es n f i).d (min x y)<n+i/\fJ (gN es n f i).d (max x y)<n+i/\fJ (gN es n f i).s (fJ (gN es n f i).d (min x y))+fJ (gN es n f i).s (fJ (gN es n f i).d (max x y))<=n:=by
 obtain⟨j,m,a,b,g⟩:=h.at r hi p o
 have e1:=h.un.mV _ j
 have e:=h.un.mV _ m
 rw[t]at a g e1
 rw[w]at b g e
 have c:=V0 (l:=gW es n (f.take i)) g
 rw[Ft]at c
 rcases DU x y with q|q
 . rw[uo q,DQ q,h.sz x a e1,h.sz y b e]
   exact⟨h.nd x a,h.nd y b,c⟩
 . rw[Hr q,Hs q,h.sz x a e1,h.sz y b e]
   exact⟨h.nd y b,h.nd x a,o_⟩
def nK{α:Type}(x y:α)(m k:Nat):List α:=List.replicate k x++List.replicate (m-k) y
theorem Gd{α:Type}{x y:α}{m:Nat}:List.replicate m y=nK x y m 0:=by simp[nK]
theorem KI{α:Type}{x y:α}{m:Nat}:nK x y m m=List.replicate m x:=by simp[nK]
theorem SE{α:Type}{x y:α}{m k:Nat}(h:k<=m):(nK x y m k).length=m:=by simp[nK];omega
theorem Gc{α:Type}[Inhabited α]{x y:α}{m k:Nat}(h:k<m):fO (nK x y m k) k (fun _=>x)=nK x y m (k+1):=by
 have:=Bl (a:=List.replicate k x) (b:=List.replicate (m-(k+1)) y) (x:=y) (y:=x) (f:=fun _=>x) rfl
 rw[xm]at this
 rw[nK,A7 h,this,nK,List.replicate_succ']
 simp
def si(n k:Nat):List iS:=((List.range k).map fun i=>⟨i,i⟩)++List.replicate (n-k) ⟨0,0⟩
theorem afK{n:Nat}:List.replicate n (⟨0,0⟩:iS)=si n 0:=by simp[si]
theorem afH{n:Nat}:si n n=(List.range n).map fun i=>⟨i,i⟩:=by simp[si]
theorem afI{n k:Nat}(h:k<=n):(si n k).length=n:=by simp[si];omega
theorem afJ{n k:Nat}(h:k<n):fO (si n k) k (fun _=>⟨k,k⟩)=si n (k+1):=by
 have:=Bl (a:=(List.range k).map fun i=>(⟨i,i⟩:iS)) (b:=List.replicate (n-(k+1)) ⟨0,0⟩) (x:=⟨0,0⟩) (y:=⟨k,k⟩) (f:=fun _=>⟨k,k⟩) rfl
 rw[zu,qy]at this
 rw[si,A7 h,this,si,tf]
 simp
theorem nS.len{es:List Ge}{n:Nat}{f:List Nat}(h:nS es n f):f.length<=es.length:=by
 obtain⟨o,a,rfl⟩:=h
 have:=(CF (es:=es) (n:=n) o).length_le
 rw[a.len]at this
 exact this
end Go.Sx
namespace Go.Sx
open Go
section
variable (es:List Ge) (n:Nat) (f:List Nat)
def nA(i:Nat):Nat:=min (fJ (gW es n (f.take i)) (fJ es (fJ f i)).u) (fJ (gW es n (f.take i)) (fJ es (fJ f i)).v)
def nB(i:Nat):Nat:=max (fJ (gW es n (f.take i)) (fJ es (fJ f i)).u) (fJ (gW es n (f.take i)) (fJ es (fJ f i)).v)
def nL(i:Nat):Nat:=fJ (gN es n f i).d (nA es n f i)
def nR(i:Nat):Nat:=fJ (gN es n f i).d (nB es n f i)
def gM(y:Nat):Nat:=if y<n then y else nA es n f (y-n)
end
structure gQ (es:List Ge) (n:Nat) (f:List Nat):Prop where
 g:p7 n es
 f:nS es n f
theorem gQ.GD{es:List Ge}{n:Nat}{f:List Nat}(h:gQ es n f):∀ i,i<=f.length->∃ us,qB es n f i us
 | 0,_=>⟨_,qB.start⟩
 | i+1,hi=>by
  obtain⟨us,a⟩:=h.GD i o_
  exact⟨_,a.next h.g o_ (fun k b=>h.f.lt b) (h.f.mA o_) a.un a.dd rfl⟩
theorem gQ.st{es:List Ge}{n:Nat}{f:List Nat}(h:gQ es n f){i:Nat}(hi:i<f.length) :
 nA es n f i<nB es n f i/\nB es n f i<n/\fJ (gW es n (f.take i)) (nA es n f i)=nA es n f i/\fJ (gW es n (f.take i)) (nB es n f i)=nB es n f i/\nL es n f i<n+i/\nR es n f i<n+i/\gW es n (f.take (i+1))=jB (gW es n (f.take i)) (nA es n f i) (nB es n f i):=by
 obtain⟨us,a⟩:=h.GD i o_
 have c:=h.f.mA hi
 obtain⟨b1,b2,b3,j,l⟩:=a.at h.g hi (fun k b=>h.f.lt b) c
 obtain⟨d,e,_⟩:=a.two h.g hi (fun k b=>h.f.lt b) c rfl rfl
 have e1:=a.un.mV _ b1
 have m:=a.un.mV _ b2
 have o:gW es n (f.take (i+1))=jB (gW es n (f.take i)) (fJ (gW es n (f.take i)) (fJ es (fJ f i)).u) (fJ (gW es n (f.take i)) (fJ es (fJ f i)).v):=by
  rw[ry,gE hi]
  exact Fu
 unfold nL nR nA nB
 refine⟨o_,o_,?_,?_,d,e,?_⟩
 . grind
 . grind
 . grind [fJ,gW,Rb]
structure vE (es:List Ge) (n:Nat) (f:List Nat) (i:Nat):Prop where
 a:∀ x,x<n->fJ (gN es n f i).l x = -1/\fJ (gN es n f i).r x = -1/\fJ (gN es n f i).h x=0/\fJ (gN es n f i).s x=1
 b:∀ j,j<i->fJ (gN es n f i).l (n+j)=(nL es n f j:Int)/\fJ (gN es n f i).r (n+j)=(nR es n f j:Int)/\fJ (gN es n f i).h (n+j)=(fJ es (fJ f j)).w /\
  fJ (gN es n f i).s (n+j)=fJ (gN es n f i).s (nL es n f j)+fJ (gN es n f i).s (nR es n f j)/\fJ (gN es n f i).p (nL es n f j)=((n+j:Nat):Int)/\fJ (gN es n f i).p (nR es n f j)=((n+j:Nat):Int)
 c:∀ y,y<n+f.length->fJ (gN es n f i).p y = -1\/∃ j,j<i/\fJ (gN es n f i).p y=((n+j:Nat):Int)/\(y=nL es n f j\/y=nR es n f j)
 e:∀ y,y<n+f.length->fJ (gN es n f i).s y<=n
 d:∀ l,l<n->fJ (gW es n (f.take i)) l=l->fJ (gN es n f i).p (fJ (gN es n f i).d l) = -1/\gM es n f (fJ (gN es n f i).d l)=l
theorem vE.start{es:List Ge}{n:Nat}{f:List Nat}:vE es n f 0:=by
 refine⟨fun x d=>?_,fun j c=>by omega,fun y b=>.inl ?_,fun y b=>?_,fun l a _=>?_⟩
 . show fJ (List.replicate (n+f.length) (-1)) x = -1/\fJ (List.replicate (n+f.length) (-1)) x = -1/\fJ (List.replicate (n+f.length) 0) x=0/\fJ (List.replicate n 1++List.replicate (n+f.length-n) 0) x=1
   refine⟨AN o_,AN o_,AN o_,iD ?_⟩
   grind
 . exact AN b
 . show fJ (List.replicate n 1++List.replicate (n+f.length-n) 0) y<=n
   by_cases h1:y<n
   . rw[iD (x:=1) (by rw[zG (by simpa using h1),uk,if_pos h1])];omega
   . rw[iD (x:=0) (by rw[Hg (by simp;omega),uk,if_pos (by simp;omega)])];omega
 . show fJ (List.replicate (n+f.length) (-1)) (fJ (List.range n) l) = -1/\gM es n f (fJ (List.range n) l)=l
   rw[lG a]
   exact⟨AN o_,if_pos a⟩
theorem vE.next{es:List Ge}{n:Nat}{f:List Nat}(h:gQ es n f){i:Nat}(hi:i<f.length)(v:vE es n f i):vE es n f (i+1):=by
 obtain⟨s1,s2,s3,K,s5,s6,s7⟩:=h.st hi
 obtain⟨l1,l2,l3,l4,l5,l6⟩:=yX (es:=es) (n:=n) (f:=f) i
 obtain⟨O,F⟩:=v.d _ o_ s3
 obtain⟨P,G⟩:=v.d _ s2 K
 have X:nL es n f i≠nR es n f i:=fun e=>by
  have e1:gM es n f (nL es n f i)=nA es n f i:=F
  have m:gM es n f (nR es n f i)=nB es n f i:=G
  rw[e,m]at e1
  omega
 have D:∀ y,fJ (gN es n f (i+1)).l y=if n+i=y then(nL es n f i:Int)else fJ (gN es n f i).l y:=by
  intro y
  have e1:(gN es n f (i+1)).l=fO (gN es n f i).l (n+i) (fun _=>(nL es n f i:Int)):=rfl
  rw[e1,ji o_]
 have E:∀ y,fJ (gN es n f (i+1)).r y=if n+i=y then(nR es n f i:Int)else fJ (gN es n f i).r y:=by
  intro y
  have e1:(gN es n f (i+1)).r=fO (gN es n f i).r (n+i) (fun _=>(nR es n f i:Int)):=rfl
  rw[e1,ji o_]
 have C:∀ y,fJ (gN es n f (i+1)).h y=if n+i=y then(fJ es (fJ f i)).w else fJ (gN es n f i).h y:=by
  intro y
  have e1:(gN es n f (i+1)).h=fO (gN es n f i).h (n+i) (fun _=>(fJ es (fJ f i)).w):=rfl
  rw[e1,ji o_]
 have t:∀ y,fJ (gN es n f (i+1)).s y=if n+i=y then fJ (gN es n f i).s (nL es n f i)+fJ (gN es n f i).s (nR es n f i)else fJ (gN es n f i).s y:=by
  intro y
  have e1:(gN es n f (i+1)).s=fO (gN es n f i).s (n+i) (fun _=>fJ (gN es n f i).s (nL es n f i)+fJ (gN es n f i).s (nR es n f i)):=rfl
  rw[e1,ji o_]
 have td:∀ y,fJ (gN es n f (i+1)).d y=if nA es n f i=y then n+i else fJ (gN es n f i).d y:=by
  intro y
  have e1:(gN es n f (i+1)).d=fO (gN es n f i).d (nA es n f i) (fun _=>n+i):=rfl
  rw[e1,ji o_]
 have A:∀ y,fJ (gN es n f (i+1)).p y=if nR es n f i=y then((n+i:Nat):Int)else if nL es n f i=y then((n+i:Nat):Int)else fJ (gN es n f i).p y:=by
  intro y
  have e1:(gN es n f (i+1)).p=fO (fO (gN es n f i).p (nL es n f i) fun _=>((n+i:Nat):Int)) (nR es n f i) fun _=>((n+i:Nat):Int):=rfl
  rw[e1,ji (by rw[gB];omega),ji o_]
 refine⟨fun x Y=>?_,fun j hj=>?_,fun y q=>?_,fun y q=>?_,fun l J z=>?_⟩
 . rw[D,E,C,t,if_neg o_,if_neg o_,if_neg o_,if_neg o_]
   exact v.a x Y
 . by_cases e:j=i
   . subst e
     refine⟨by rw[D,if_pos rfl],by rw[E,if_pos rfl],by rw[C,if_pos rfl],?_,?_,by rw[A,if_pos rfl]⟩
     . rw[t,t,t,if_pos rfl,if_neg o_,if_neg o_]
     . rw[A,if_neg (fun e=>X e.symm),if_pos rfl]
   . have R : j<i:=by omega
     obtain⟨b1,b2,b3,L,M,N⟩:=v.b j R
     obtain⟨_,_,_,_,Z,q6,_⟩:=h.st (show j<f.length by omega)
     have k1:∀ y,fJ (gN es n f i).p y=((n+j:Nat):Int)->fJ (gN es n f (i+1)).p y=((n+j:Nat):Int):=by
      intro y q
      rw[A,if_neg,if_neg,q]
      . intro m;rw[<-m]at q;have o:fJ (gN es n f i).p (nL es n f i) = -1:=O;rw[o]at q;omega
      . intro m;rw[<-m]at q;have o:fJ (gN es n f i).p (nR es n f i) = -1:=P;rw[o]at q;omega
     rw[D,E,C,t,t,t,if_neg o_,if_neg o_,if_neg o_,if_neg o_,if_neg o_,if_neg o_]
     exact⟨b1,b2,b3,L,k1 _ M,k1 _ N⟩
 . rw[A]
   by_cases e1:nR es n f i=y
   . exact .inr ⟨i,o_,by rw[if_pos e1],.inr e1.symm⟩
   . rw[if_neg e1]
     by_cases m:nL es n f i=y
     . exact .inr ⟨i,o_,by rw[if_pos m],.inl m.symm⟩
     . rw[if_neg m]
       rcases v.c y q with u|⟨j,u,H,I⟩
       . exact .inl u
       . exact .inr ⟨j,o_,H,I⟩
 . rw[t]
   split
   . obtain⟨us,u⟩:=h.GD i o_
     exact(u.two h.g hi (fun k S=>h.f.lt S) (h.f.mA hi) rfl rfl).2.2
   . exact v.e y q
 . rw[s7,oI (by rw[Ft];exact J)]at z
   have W:max (nA es n f i) (nB es n f i)=nB es n f i:=by omega
   have V:min (nA es n f i) (nB es n f i)=nA es n f i:=by omega
   rw[W,V]at z
   rw[td]
   by_cases e:nA es n f i=l
   . rw[if_pos e]
     refine⟨?_,?_⟩
     . rw[A,if_neg o_,if_neg o_]
       rcases v.c (n+i) o_ with u|⟨j,u,H,I⟩
       . exact u
       . obtain⟨_,_,_,_,Z,q6,_⟩:=h.st (show j<f.length by omega)
         omega
     . unfold gM
       rw[if_neg o_,show n+i-n=i by omega]
       exact e
   . rw[if_neg e]
     have T:fJ (gW es n (f.take i)) l=l:=by
      split at z
      . exact absurd z e
      . exact z
     have U:l≠nB es n f i:=by
      intro o
      rw[if_pos (by rw[o];exact K)]at z
      exact e z
     obtain⟨Q,g2⟩:=v.d l J T
     refine⟨?_,g2⟩
     rw[A,if_neg,if_neg,Q]
     . intro o
       rw[<-o]at g2
       have B:gM es n f (nL es n f i)=nA es n f i:=F
       exact e (B.symm.trans g2)
     . intro o
       rw[<-o]at g2
       have B:gM es n f (nR es n f i)=nB es n f i:=G
       exact U (g2.symm.trans B)
theorem gQ.vK{es:List Ge}{n:Nat}{f:List Nat}(h:gQ es n f):∀ i,i<=f.length->vE es n f i
 | 0,_=>vE.start
 | i+1,hi=>(h.vK i o_).next h o_
theorem gQ.v{es:List Ge}{n:Nat}{f:List Nat}(h:gQ es n f):vE es n f f.length:=h.vK _ (zn _)
theorem gQ.wo{es:List Ge}{n:Nat}{f:List Nat}(h:gQ es n f){i:Nat}(hi:i<f.length):gM es n f (nL es n f i)=nA es n f i/\gM es n f (nR es n f i)=nB es n f i/\gM es n f (n+i)=nA es n f i:=by
 obtain⟨s1,s2,s3,a,b,c,e⟩:=h.st hi
 have v:=h.vK i o_
 refine⟨(v.d _ o_ s3).2,(v.d _ s2 a).2,?_⟩
 grind [gM]
theorem nS.j4{es:List Ge}{n:Nat}{f:List Nat}(h:nS es n f){i:Nat}(hi:i+1<f.length):(fJ es (fJ f i)).w<=(fJ es (fJ f (i+1))).w:=by
 obtain⟨o,a,rfl⟩:=h
 have b:=a.Gm.sublist (CF (es:=es) (n:=n) o)
 have c:=(vm.1 b) i (i+1) o_ hi o_
 rw[iD (zk (show i<(jF es n o).length by omega)),iD (zk hi)]
 unfold qO at c
 omega
theorem aaG{L:List Nat}{p q:Nat->Bool}(x:Nat)(a:x∈L)(hp:p x=true)(c:q x=false)(h:∀ l∈L,q l=true->p l=true):(L.filter q).length<(L.filter p).length:=by
 induction L with
 | nil=>cases a
 | cons y L d =>
  have b:∀ M:List Nat,(∀ l∈M,q l=true->p l=true)->(M.filter q).length<=(M.filter p).length:=by
   intro M
   induction M with
   | nil=>intro _;exact zn _
   | cons z M e =>
    grind
  grind
theorem nS.room{es:List Ge}{n:Nat}{f:List Nat}(h:nS es n f)(b:p7 n es):f.length<=n:=by
 have a:gQ es n f:=⟨b,h⟩
 -- each step makes one label less
 have key:∀ i,i<=f.length->i+((List.range n).filter fun l=>decide (fJ (gW es n (f.take i)) l=l)).length<=n:=by
  intro i
  induction i with
  | zero=>intro _;have:=Hi (fun l=>decide (fJ (gW es n (f.take 0)) l=l)) (List.range n);rw[qy]at this;omega
  | succ i c =>
   intro hi
   have e:=c o_
   obtain⟨s1,s2,s3,d,p,q,r⟩:=a.st (show i<f.length by omega)
   have o:max (nA es n f i) (nB es n f i)=nB es n f i:=by omega
   have m:min (nA es n f i) (nB es n f i)=nA es n f i:=by omega
   have g:((List.range n).filter fun l=>decide (fJ (gW es n (f.take (i+1))) l=l)).length<((List.range n).filter fun l=>decide (fJ (gW es n (f.take i)) l=l)).length:=by
    refine aaG (nB es n f i) (l7.2 s2) (by simpa using d) ?_ fun l k j=>?_
    . grind [oI,Ft]
    . grind [oI,Ft]
   omega
 have:=key f.length (zn _)
 omega
theorem gQ.inner{es:List Ge}{n:Nat}{f:List Nat}(h:gQ es n f){i:Nat}(hi:i<f.length) :
 (fU es n f).l[n+i]? = some (nL es n f i:Int)/\(fU es n f).r[n+i]? = some (nR es n f i:Int)/\(fU es n f).h[n+i]? = some (fJ es (fJ f i)).w/\(fU es n f).p[nL es n f i]? = some ((n+i:Nat):Int)/\(fU es n f).p[nR es n f i]? = some ((n+i:Nat):Int) /\
 fJ (fU es n f).s (n+i)=fJ (fU es n f).s (nL es n f i)+fJ (fU es n f).s (nR es n f i)/\fJ (fU es n f).s (n+i)<=n/\nL es n f i<n+i/\nR es n f i<n+i/\nL es n f i≠nR es n f i:=by
 obtain⟨o,q,t,u,x,y⟩:=yX (es:=es) (n:=n) (f:=f) f.length
 obtain⟨b1,b2,b3,a,c,d⟩:=h.v.b i hi
 obtain⟨s1,s2,s3,z,j,k,A⟩:=h.st hi
 obtain⟨k1,g,m⟩:=h.wo hi
 refine⟨?_,?_,?_,?_,?_,a,h.v.e _ o_,j,k,fun e=>?_⟩
 . rw[<-b1];exact gE (by show n+i<(gN es n f f.length).l.length;omega)
 . rw[<-b2];exact gE (by show n+i<(gN es n f f.length).r.length;omega)
 . rw[<-b3];exact gE (by show n+i<(gN es n f f.length).h.length;omega)
 . rw[<-c];exact gE (by show nL es n f i<(gN es n f f.length).p.length;omega)
 . rw[<-d];exact gE (by show nR es n f i<(gN es n f f.length).p.length;omega)
 . rw[e,g]at k1;omega
theorem kX{es:List Ge}{n:Nat}{f:List Nat}:(fU es n f).l.length=n+f.length/\(fU es n f).r.length=n+f.length/\(fU es n f).p.length=n+f.length/\(fU es n f).h.length=n+f.length/\(fU es n f).s.length=n+f.length:=by
 obtain⟨a,b,c,d,e,g⟩:=yX (es:=es) (n:=n) (f:=f) f.length
 exact⟨a,b,c,d,e⟩
theorem gQ.par{es:List Ge}{n:Nat}{f:List Nat}(h:gQ es n f){y:Nat}(b:y<n+f.length):(fU es n f).p[y]? = some (-1)\/∃ j,j<f.length/\(fU es n f).p[y]? = some ((n+j:Nat):Int)/\(y=nL es n f j\/y=nR es n f j):=by
 have g:=(kX (es:=es) (n:=n) (f:=f)).2.2.1
 rcases h.v.c y b with a|⟨j,a,d,e⟩
 . grind [gE,fU]
 . grind [gE,fU]
def Py(v:Value):List Value:=[v]
def nE(es:List Ge)(n:Nat)(f:List Nat)(m k:Nat):List Nat:=(List.range k).map (gM es n f)++List.replicate (m-k) 0
theorem aaE{es:List Ge}{n m:Nat}{f:List Nat}:List.replicate m 0=nE es n f m 0:=by simp[nE]
theorem aaB{es:List Ge}{n m:Nat}{f:List Nat}:nE es n f m m=(List.range m).map (gM es n f):=by simp[nE]
theorem aaC{es:List Ge}{n m k:Nat}{f:List Nat}(h:k<=m):(nE es n f m k).length=m:=by simp[nE];omega
theorem Qu{es:List Ge}{n m k j c:Nat}{f:List Nat}(hk:k<=m)(h:j<k):(fO (nE es n f m k) k fun _=>c)[j]? = some (gM es n f j):=by
 grind [fO,nE]
theorem Qv{es:List Ge}{n m k c:Nat}{f:List Nat}(h:k<m)(d:c=gM es n f k):fO (nE es n f m k) k (fun _=>c)=nE es n f m (k+1):=by
 have:=Bl (a:=(List.range k).map (gM es n f)) (b:=List.replicate (m-(k+1)) 0) (x:=0) (y:=c) (f:=fun _=>c) rfl
 rw[zu,qy]at this
 rw[nE,A7 h,this,nE,tf,d]
 simp
theorem aaD{es:List Ge}{n m k c d:Nat}{f:List Nat}(h:k<m)(a:c=gM es n f k):fO (fO (nE es n f m k) k (fun _=>d)) k (fun _=>c)=nE es n f m (k+1):=by
 rw[<-Qv h a]
 unfold fO
 rw[List.set_set]
theorem St.xW{bs:List (World×List Nat)}{L:List fS}{w w0:World}{b:Nat}{T:TypeId}{cs:List Value}(h:St bs L w)(hb:(w0,[])∈bs)(a:(blk b T cs).holds w0):(blk b T cs).holds w :=
 (blk b T cs).loc w0 w (fun c d => h.keep hb (by
  have e:c = b:=by simpa[blk]using d
  subst e
  exact(pX.1 a).1) mo) a
structure Mg where
 a:Nat
 b:Nat
 h:Int
 s:Nat
instance:Inhabited Mg:=⟨⟨0,0,0,0⟩⟩
abbrev Mg.cells(x:Mg):List Value:=[.int .i64 (x.a:Int),.int .i64 (x.b:Int),.int .i64 x.h,.int .i64 1,.int .i64 (x.s:Int)]
def JX(es:List Ge)(n:Nat)(f:List Nat)(i:Nat):Mg:=⟨nA es n f i,nB es n f i,(fJ es (fJ f i)).w,fJ (fU es n f).s (n+i)⟩
def nY(es:List Ge)(n:Nat)(f:List Nat)(k:Nat):List Mg:=(List.range k).map (JX es n f)
theorem abh{es:List Ge}{n k:Nat}{f:List Nat}:nY es n f (k+1)=nY es n f k++[JX es n f k]:=by unfold nY;rw[tf,s9];rfl
theorem QL{es:List Ge}{n k:Nat}{f:List Nat}:(nY es n f k).length=k:=by simp[nY]
theorem Qw{es:List Ge}{n m j:Nat}{f:List Nat}(h:j<m):((List.range m).map (gM es n f))[j]? = some (gM es n f j):=by rw[lZ,pY h];rfl
end Go.Sx
namespace Go.Sx
open Go
structure jR (ps:List Int):Prop where
 up:∀ i,i<ps.length->fJ ps i<0\/(i:Int)<fJ ps i/\fJ ps i<(ps.length:Int)
def gj(ps:List Int)(i:Nat):Nat:=if h:(i:Int)<fJ ps i/\i<ps.length then gj ps (fJ ps i).toNat+1 else 0
termination_by ps.length-i
decreasing_by omega
def jK(ps:List Int)(k i:Nat):List Nat:=(List.range k).filter fun j=>decide (fJ ps j=(i:Int))
def oe(ps:List Int)(k:Nat):List Nat:=(List.range k).filter fun j=>decide (fJ ps j<0)
section
variable {ps:List Int} {k i j:Nat}
theorem adM(h:fJ ps k<0):oe ps (k+1)=oe ps k++[k]:=by simp[oe,tf,BH,h]
theorem adL(h:¬ fJ ps k<0):oe ps (k+1)=oe ps k:=by simp[oe,tf,BH,h]
theorem Ql:jK ps (k+1) i=if fJ ps k=(i:Int)then jK ps k i++[k]else jK ps k i:=by
 unfold jK
 rw[tf,BH]
 split<;>rename_i h<;>simp[h]
theorem aak(h:fJ ps k<0):jK ps (k+1) i=jK ps k i:=by rw[Ql,if_neg o_]
theorem QK:j∈jK ps k i↔j<k/\fJ ps j=(i:Int):=by simp[jK]
theorem FF:j∈oe ps k↔j<k/\fJ ps j<0:=by simp[oe]
theorem aaj:(jK ps k i).Nodup:=xg.sublist zJ
theorem adK:(oe ps k).Nodup:=xg.sublist zJ
theorem adJ:(oe ps k).length<=k:=k7 (Hi _ _) s_
theorem Qk:(jK ps k i).length<=k:=k7 (Hi _ _) s_
theorem EL(h:fJ ps i<0):gj ps i=0:=by rw[gj,dif_neg o_]
theorem An(hp:jR ps)(a:j<ps.length)(h:fJ ps j=(i:Int)):gj ps j=gj ps i+1:=by
 have b:=hp.up j a
 rw[gj,dif_pos o_,h]
 rfl
theorem IF:gj ps i<=ps.length-i:=by
 induction hm:ps.length-i using Nat.strongRecOn generalizing i with
 | _ m a =>
  rw[gj]
  split
  . rename_i h
    have:=a (ps.length-(fJ ps i).toNat) o_ rfl
    omega
  . omega
end
structure Bf (ps:List Int) (i j:Nat) (od:List Nat) (dp:List Nat):Prop where
 nd:od.Nodup
 lt:∀ x∈od,x<ps.length
 len:dp.length=ps.length
 mem:∀ x,x<ps.length->(x∈od↔fJ ps x<0\/(∃ p∈od.take i,fJ ps x=(p:Int))\/i<od.length/\x∈(jK ps ps.length (fJ od i)).take j)
 dep:∀ x∈od,fJ dp x=gj ps x
 Jh:i<=od.length
 zero:∀ x,x<ps.length->x∉od->fJ dp x=0
section
variable {ps:List Int} {i j:Nat} {od dp:List Nat}
theorem Bf.Ki(h:Bf ps i j od dp):od.length<=ps.length:=AQ _ _ h.nd h.lt
theorem Bf.start:Bf ps 0 0 (oe ps ps.length) (List.replicate ps.length 0) where
 nd:=adK
 lt x hx:=(FF.1 hx).1
 len:=by simp
 mem x hx:=by simp[FF,hx]
 dep x hx:=by
  rw[EL (FF.1 hx).2]
  exact iD (by simp[(FF.1 hx).1])
 Jh:=by simp
 zero x hx _:=iD (by simp[hx])
theorem Bf.new(h:Bf ps i j od dp)(hi:i<od.length){c:Nat}(e:(jK ps ps.length (fJ od i))[j]? = some c):c<ps.length/\fJ ps c=((fJ od i:Nat):Int)/\c∉od:=by
 obtain⟨d,g⟩:=QK.1 (ze e)
 refine⟨d,g,fun hm=>?_⟩
 rcases(h.mem c d).1 hm with b|⟨p,hp,b⟩|⟨_,b⟩
 . omega
 . have l:p=fJ od i:=by omega
   subst l
   have f:=h.nd
   rw[<-vo i od]at f
   have k:fJ od i∈od.drop i:=ze (i:=0) (by rw[G9,qz];exact gE hi)
   exact(zr.1 f).2.2 _ hp _ k rfl
 . obtain⟨q,a⟩:=List.mem_iff_getElem?.1 b
   rw[vr]at a
   split at a
   . rename_i n
     obtain⟨m,o⟩:=zj.1 a
     have:=(List.getElem?_inj m aaj).1 (a.trans e.symm)
     omega
   . cases a
theorem Bf.wo(hp:jR ps)(h:Bf ps i j od dp)(hi:i<od.length){c:Nat}(l:(jK ps ps.length (fJ od i))[j]? = some c) :
 Bf ps i (j+1) (od++[c]) (fO dp c (fun _=>fJ dp (fJ od i)+1)):=by
 obtain⟨g,m,k⟩:=h.new hi l
 have o:fJ (od++[c]) i=fJ od i:=iD (by rw[zG hi];exact gE hi)
 refine⟨?_,?_,by rw[gB];exact h.len,?_,?_,by rw[zt];have:=h.Jh;omega,?_⟩
 . refine zr.2 ⟨h.nd,s_,?_⟩
   rintro a n b hb rfl
   simp only[z8]at hb
   exact k (hb▸n)
 . intro x f
   rcases zp.1 f with d|d
   . exact h.lt x d
   . simp only[z8]at d
     exact d▸g
 . intro x f
   rw[o,LP o_,ry,l]
   simp only[zp,z8,Option.toList_some,zt,List.length_singleton]
   rw[h.mem x f]
   constructor
   . rintro((d|d|⟨_,d⟩)|d)
     . exact .inl d
     . exact .inr (.inl d)
     . exact .inr (.inr ⟨o_,.inl d⟩)
     . exact .inr (.inr ⟨o_,.inr d⟩)
   . rintro(d|d|⟨_,d|d⟩)
     . exact .inl (.inl d)
     . exact .inl (.inr (.inl d))
     . exact .inl (.inr (.inr ⟨hi,d⟩))
     . exact .inr d
 . intro x f
   rcases zp.1 f with d|d
   . have q:c≠x:=fun e=>k (e▸d)
     rw[jQ q]
     exact h.dep x d
   . simp only[z8]at d
     subst d
     rw[jS (by rw[h.len];exact g),An hp g m,h.dep _ (ze (gE hi))]
 . intro x f p
   have d:x∉od/\x≠c:=by simpa using p
   rw[jQ (Ne.symm d.2)]
   exact h.zero x f d.1
theorem Bf.next(h:Bf ps i j od dp)(hi:i<od.length)(d:(jK ps ps.length (fJ od i)).length<=j):Bf ps (i+1) 0 od dp:=by
 refine⟨h.nd,h.lt,h.len,fun x c=>?_,h.dep,hi,h.zero⟩
 rw[h.mem x c,xd d,ry,gE hi]
 simp only[QK,List.take_zero,mo,and_false,or_false,zp,Option.toList_some,z8]
 constructor
 . rintro(a|⟨p,a,b⟩|⟨_,_,b⟩)
   . exact .inl a
   . exact .inr ⟨p,.inl a,b⟩
   . exact .inr ⟨_,.inr rfl,b⟩
 . rintro(a|⟨p,a|a,b⟩)
   . exact .inl a
   . exact .inr (.inl ⟨p,a,b⟩)
   . subst a
     exact .inr (.inr ⟨hi,c,b⟩)
theorem Bf.all(hp:jR ps)(h:Bf ps od.length 0 od dp):∀ x,x<ps.length->x∈od:=by
 intro x
 induction hm:ps.length-x using Nat.strongRecOn generalizing x with
 | _ m c =>
  intro b
  rw[h.mem x b]
  rcases hp.up x b with a|⟨a,d⟩
  . exact .inl a
  . refine .inr (.inl ⟨(fJ ps x).toNat,?_,o_⟩)
    rw[xh]
    exact c (ps.length-(fJ ps x).toNat) o_ _ rfl o_
theorem Bf.fin(hp:jR ps)(h:Bf ps od.length 0 od dp):od.length=ps.length/\dp=(List.range ps.length).map (gj ps):=by
 refine⟨Nat.le_antisymm h.Ki ?_,?_⟩
 . have b:=C7 (List.range ps.length) od xg fun x a=>h.all hp x (l7.1 a)
   simpa using b
 . apply ow
   intro x
   by_cases a:x<ps.length
   . rw[gE (by rw[h.len];exact a),h.dep x (h.all hp x a)]
     simp[a]
   . rw[nk (by rw[h.len];omega),nk (by simp;omega)]
end
def oG(f:Nat->Int)(n k:Nat):List Int:=(List.range k).map f++List.replicate (n-k) 0
section
variable {f:Nat->Int} {n k j:Nat}
theorem YE(h:k<=n):(oG f n k).length=n:=by simp[oG];omega
theorem YG:oG f n 0=List.replicate n 0:=by simp[oG]
theorem YD:oG f n n=(List.range n).map f:=by simp[oG]
theorem YF(h:k<n):fO (oG f n k) k (fun _=>f k)=oG f n (k+1):=by
 unfold oG fO
 rw[List.set_append_right _ _ s_,tf,s9,nr]
 simp only[zu,qy,Nat.sub_self,ko,DT]
 obtain⟨m,hm⟩:∃ m,n-k=m+1:=⟨n-k-1,o_⟩
 rw[hm,List.replicate_succ,List.set_cons_zero,show n-(k+1)=m by omega]
 rfl
theorem aa6{α:Type}[Inhabited α]{g:Nat->α}(h:j<n):fJ ((List.range n).map g) j=g j:=iD (by simp[h])
end
def ki(ps:List Int):Nat->Nat->Int
 | 0,v=>fJ ps v
 | k+1,v=>if 0<=ki ps k v then ki ps k (ki ps k v).toNat else ki ps k v
def jt(ps:List Int)(k:Nat):List Int:=(List.range ps.length).map (ki ps k)
section
variable {ps:List Int} {k v:Nat}
theorem Jr(hp:jR ps)(hv:v<ps.length):ki ps k v<0\/(v:Int)<ki ps k v/\ki ps k v<(ps.length:Int):=by
 induction k generalizing v with
 | zero=>exact hp.up v hv
 | succ k a =>
  have b:=a hv
  unfold ki
  split
  . have c:=a (v:=(ki ps k v).toNat) o_
    omega
  . omega
theorem Fp(h:0<=ki ps k v):ki ps (k+1) v=ki ps k (ki ps k v).toNat:=by
 show (if 0<=ki ps k v then _ else _)=_
 rw[if_pos h]
theorem Js(h:¬ 0<=ki ps k v):ki ps (k+1) v=ki ps k v:=by
 show (if 0<=ki ps k v then _ else _)=_
 rw[if_neg h]
theorem AF:(jt ps k).length=ps.length:=by simp[jt]
theorem uM(h:v<ps.length):fJ (jt ps k) v=ki ps k v:=aa6 h
theorem aac:jt ps 0=ps:=by
 apply ow
 intro j
 by_cases hj:j<ps.length
 . rw[gE hj,gE (by rw[AF];exact hj),uM hj]
   rfl
 . rw[nk (by rw[AF];omega),nk o_]
theorem aae(hp:jR ps)(hv:v<ps.length)(h:0<=fJ (jt ps k) v):fJ (jt ps k) (fJ (jt ps k) v).toNat=ki ps (k+1) v:=by
 rw[uM hv]at h ⊢
 rw[Fp h,uM]
 have:=Jr hp hv (k:=k)
 omega
theorem aad(hv:v<ps.length)(h:¬ 0<=fJ (jt ps k) v):fJ (jt ps k) v=ki ps (k+1) v:=by
 rw[uM hv]at h ⊢
 rw[Js h]
theorem I4{f:Nat->Int}{n:Nat}{x:Int}(h:v<n)(a:x=f v):fO (oG f n v) v (fun _=>x)=oG f n (v+1):=by
 rw[a];exact YF h
end
section
variable {ps:List Int} {l:List (Value×List Int)} {k q n:Nat} {v:Value}
theorem Yr{α:Type}[Inhabited α]{l:List α}(h:q<k):fJ (l.eraseIdx k) q=fJ l q:=by
 unfold fJ
 rw[List.getElem?_eraseIdx_of_lt h]
theorem aaa(a:l.length=n)(hk:k<n)(h:∀ q,q<k->(fJ l q).2=jt ps q):∀ q,q<k+1->(fJ (fO l k (fun _=>(v,jt ps k))) q).2=jt ps q:=by
 intro q b
 rw[ji o_]
 split
 . rename_i e;subst e;rfl
 . exact h q o_
end
def jb(ps hs:List Int)(T:Int)(x:Nat):Nat:=if h:((x:Int)<fJ ps x/\x<ps.length)/\fJ hs (fJ ps x).toNat<=T then jb ps hs T (fJ ps x).toNat else x
termination_by ps.length-x
decreasing_by omega
section
variable {ps hs:List Int} {T:Int} {x:Nat}
theorem xL(hp:jR ps)(a:x<ps.length)(h:0<=fJ ps x)(b:fJ hs (fJ ps x).toNat<=T):jb ps hs T x=jb ps hs T (fJ ps x).toNat:=by
 have:=hp.up x a
 rw[jb,dif_pos ⟨⟨o_,a⟩,b⟩]
theorem Cp(h:¬ (0<=fJ ps x/\fJ hs (fJ ps x).toNat<=T)):jb ps hs T x=x:=by
 rw[jb,dif_neg (fun a=>h ⟨o_,a.2⟩)]
theorem NZ(a:x<ps.length)(hp:jR ps):jb ps hs T x<ps.length:=by
 induction hm:ps.length-x using Nat.strongRecOn generalizing x with
 | _ m b =>
  by_cases h:0<=fJ ps x/\fJ hs (fJ ps x).toNat<=T
  . have c:=hp.up x a
    rw[xL hp a h.1 h.2]
    exact b (ps.length-(fJ ps x).toNat) o_ o_ rfl
  . rw[Cp h]
    exact a
end
theorem Qa{l:List (Value×List Int)}(h:l.length=13):l.flatMap kI=[(fJ l 0).1,(fJ l 1).1,(fJ l 2).1,(fJ l 3).1,(fJ l 4).1,(fJ l 5).1,(fJ l 6).1,(fJ l 7).1,(fJ l 8).1,(fJ l 9).1,(fJ l 10).1,(fJ l 11).1,(fJ l 12).1]:=by
 match l,h with
 | [a0,a1,a2,a3,a4,a5,a6,a7,a8,a9,a10,a11,a12],_=>rfl
theorem gQ.RH{es:List Ge}{n:Nat}{f:List Nat}(h:gQ es n f){y:Nat}(d:y<n+f.length):fJ (fU es n f).p y = -1\/(y:Int)<fJ (fU es n f).p y/\fJ (fU es n f).p y<((n+f.length:Nat):Int):=by
 rcases h.par d with a|⟨j,a,c,b⟩
 . exact .inl (iD a)
 . have e:=iD c
   obtain⟨_,_,_,_,_,_,_,g,i,_⟩:=h.inner a
   refine .inr ?_
   rcases b with b|b<;>omega
theorem gQ.mj{es:List Ge}{n:Nat}{f:List Nat}(h:gQ es n f):jR (fU es n f).p :=
 ⟨fun i hi=>by
  have c:=(kX (es:=es) (n:=n) (f:=f)).2.2.1
  rcases h.RH (y:=i) o_ with a|⟨a,b⟩
  . exact .inl o_
  . exact .inr ⟨a,o_⟩⟩
theorem gQ.Kn{es:List Ge}{n:Nat}{f:List Nat}(h:gQ es n f):∀ i,i<(fU es n f).p.length -> -1<=fJ (fU es n f).p i:=fun i hi=>by
 have c:=(kX (es:=es) (n:=n) (f:=f)).2.2.1
 rcases h.RH (y:=i) o_ with a|⟨a,b⟩<;>omega
end Go.Sx
namespace Go.Sx
open Go
def pQ(es:List Ge)(n:Nat)(f:List Nat)(T:Int):List Nat:=(List.range n).map fun y=>gM es n f (jb (fU es n f).p (fU es n f).h T y)
section
variable {es:List Ge} {n:Nat} {f:List Nat} {T:Int} {x:Nat}
theorem aat:(pQ es n f T).length=n:=by simp[pQ]
end
end Go.Sx
namespace Go.Sx
open Go
def sO(E:List Ge)(n:Nat):List Nat:=E.foldl (fun lb e=>jB lb (fJ lb e.u) (fJ lb e.v)) (List.range n)
theorem Qq{es:List Ge}{n:Nat}{f:List Nat}:gW es n f=sO (f.map (fJ es)) n:=by
 unfold gW sO
 rw[List.foldl_map]
structure tv (n:Nat) (lb:List Nat):Prop where
 len:lb.length=n
 low:∀ i,i<n->fJ lb i<=i
 mV:∀ i,i<n->fJ lb (fJ lb i)=fJ lb i
theorem tv.range{n:Nat}:tv n (List.range n) :=
 ⟨s_,fun i h=>by rw[lG h];exact zn _,fun i h=>by rw[lG h,lG h]⟩
theorem tv.next{n u v:Nat}{lb:List Nat}(h:tv n lb)(a:u<n)(hv:v<n):tv n (jB lb (fJ lb u) (fJ lb v)):=by
 have b:=h.len
 have g:=h.low u a
 have lv:=h.low v hv
 have d:=h.mV u a
 have iv:=h.mV v hv
 refine⟨by rw[FM];exact b,fun i hi=>?_,fun i hi=>?_⟩
 . rw[oI o_]
   have:=h.low i hi
   split<;>omega
 . have f:=h.low i hi
   have c:=h.mV i hi
   rw[oI (i:=i) o_]
   split
   . rename_i e
     rw[oI o_]
     rcases DU (fJ lb u) (fJ lb v)with q|q
     . rw[uo q,DQ q,d];split<;>omega
     . rw[Hr q,Hs q,iv];split<;>omega
   . rename_i e
     rw[oI o_,c,if_neg e]
structure nT (E:List Ge) (n:Nat) (lb:List Nat):Prop where
 ok:tv n lb
 Gf:∀ e∈E,fJ lb e.u=fJ lb e.v
 r8:∀ lb2,tv n lb2->(∀ e∈E,fJ lb2 e.u=fJ lb2 e.v)->∀ i j,i<n->j<n->fJ lb i=fJ lb j->fJ lb2 i=fJ lb2 j
theorem nT.start{n:Nat}:nT [] n (List.range n) :=
 ⟨tv.range,fun e h=>(mo h).elim,fun b _ _ i j hi a h=>by rw[lG hi,lG a]at h;rw[h]⟩
theorem nT.next{E:List Ge}{n:Nat}{lb:List Nat}(h:nT E n lb)(e:Ge)(f:e.u<n)(hv:e.v<n)(p:∀ e∈E,e.u<n/\e.v<n):nT (E++[e]) n (jB lb (fJ lb e.u) (fJ lb e.v)):=by
 have w:=h.ok.len
 refine⟨h.ok.next f hv,fun x b=>?_,fun t s r i j hi c a=>?_⟩
 . rcases zp.1 b with b|b
   . rw[oI (by have:=(p x b).1;omega),oI (by have:=(p x b).2;omega),h.Gf x b]
   . rw[z8]at b
     subst b
     rw[oI o_,oI o_]
     split<;>split<;>omega
 . have k:=h.r8 t s fun x b=>r x (xq _ b)
   have d:=r e (xo _ (z8.2 rfl))
   rw[oI o_,oI o_]at a
   have g:=fun q:fJ lb i=fJ lb e.u=>k i e.u hi f q
   have m:=fun q:fJ lb i=fJ lb e.v=>k i e.v hi hv q
   have l:=fun q:fJ lb j=fJ lb e.u=>k j e.u c f q
   have o:=fun q:fJ lb j=fJ lb e.v=>k j e.v c hv q
   rcases DU (fJ lb e.u) (fJ lb e.v)with q|q
   . rw[uo q,DQ q]at a
     by_cases h1:fJ lb i=fJ lb e.v
     . by_cases h3:fJ lb j=fJ lb e.v
       . rw[m h1,o h3]
       . rw[if_pos h1,if_neg h3]at a
         rw[m h1,l a.symm,d]
     . by_cases h3:fJ lb j=fJ lb e.v
       . rw[if_neg h1,if_pos h3]at a
         rw[g a,o h3,d]
       . rw[if_neg h1,if_neg h3]at a
         exact k i j hi c a
   . rw[Hr q,Hs q]at a
     by_cases h1:fJ lb i=fJ lb e.u
     . by_cases h3:fJ lb j=fJ lb e.u
       . rw[g h1,l h3]
       . rw[if_pos h1,if_neg h3]at a
         rw[g h1,o a.symm,d]
     . by_cases h3:fJ lb j=fJ lb e.u
       . rw[if_neg h1,if_pos h3]at a
         rw[m a,l h3,d]
       . rw[if_neg h1,if_neg h3]at a
         exact k i j hi c a
theorem nT.fold{n:Nat}:∀ (L D:List Ge) (lb:List Nat),nT D n lb->(∀ e∈D,e.u<n/\e.v<n)->(∀ e∈L,e.u<n/\e.v<n)->nT (D++L) n (L.foldl (fun lb e=>jB lb (fJ lb e.u) (fJ lb e.v)) lb)
 | [],D,lb,h,_,_=>by rw[vw];exact h
 | e :: L,D,lb,h,hD,hL=>by
  have a:=hL e (zd ..)
  have c:=nT.fold L (D++[e]) _ (h.next e a.1 a.2 hD) (fun x b=>by
   rcases zp.1 b with q|q
   . exact hD x q
   . rw[z8]at q;subst q;exact a) (fun x b=>hL x (mO _ b))
  rw[nr]at c
  exact c
theorem Ff{E:List Ge}{n:Nat}(h:∀ e∈E,e.u<n/\e.v<n):nT E n (sO E n) :=
 nT.fold E [] _ nT.start (fun e h=>(mo h).elim) h
theorem nT.le{E E2:List Ge}{n:Nat}{a b:List Nat}(h1:nT E n a)(c:nT E2 n b)(hm:∀ e,e∈E->e∈E2){i:Nat}(hi:i<n):fJ b i<=fJ a i:=by
 have h:=h1.ok.low i hi
 have f:=h1.r8 b c.ok (fun e d=>c.Gf e (hm e d)) (fJ a i) i o_ hi (h1.ok.mV i hi)
 have g:=c.ok.low (fJ a i) o_
 omega
theorem nT.uniq{E E2:List Ge}{n:Nat}{a b:List Nat}(h1:nT E n a)(c:nT E2 n b)(hm:∀ e,e∈E↔e∈E2):a=b:=by
 refine ow fun i=>?_
 by_cases hi:i<n
 . rw[gE (by rw[h1.ok.len];exact hi),gE (by rw[c.ok.len];exact hi)]
   exact congrArg some (Nat.le_antisymm (c.le h1 (fun e h=>(hm e).2 h) hi) (h1.le c (fun e h=>(hm e).1 h) hi))
 . rw[nk (by rw[h1.ok.len];omega),nk (by rw[c.ok.len];omega)]
theorem aaz{es:List Ge}{n:Nat}(o:List Nat):gW es n (jF es n o)=gW es n o:=by
 have h:∀ r:List Nat,gW es n (jF es n r.reverse)=gW es n r.reverse:=by
  intro r
  induction r with
  | nil=>rfl
  | cons i r a=>rw[List.reverse_cons,CE,JA,Fu,a]
 simpa using h o.reverse
theorem YN{es:List Ge}{n:Nat}(a b:List Nat):∃ g,jF es n (a++b)=jF es n a++g/\∀ x∈g,x∈b:=by
 have h:∀ r:List Nat,∃ g,jF es n (a++r.reverse)=jF es n a++g/\∀ x∈g,x∈r:=by
  intro r
  induction r with
  | nil=>exact⟨[],s_,fun x c=>c⟩
  | cons i r f =>
   obtain⟨g,d,e⟩:=f
   rw[List.reverse_cons,<-nr,CE,d]
   split
   . refine⟨g++[i],by rw[nr],fun x c=>?_⟩
     rcases zp.1 c with q|q
     . exact mO _ (e x q)
     . rw[z8]at q;subst q;exact zd ..
   . exact⟨g,rfl,fun x c=>mO _ (e x c)⟩
 obtain⟨g,d,e⟩:=h b.reverse
 rw[List.reverse_reverse]at d
 exact⟨g,d,fun x c=>List.mem_reverse.1 (e x c)⟩
theorem Qo{es:List Ge}{T:Int}:∀ {o:List Nat},o.Pairwise (qO es)->o.filter (fun i=>decide ((fJ es i).w<=T))++o.filter (fun i => !decide ((fJ es i).w<=T))=o
 | [],_=>rfl
 | a :: o,h=>by
  rw[s8]at h
  by_cases ha:(fJ es a).w<=T
  . rw[BC (by simpa using ha),BB (by simpa using ha),ox,Qo h.2]
  . have hb:∀ x∈o,¬ (fJ es x).w<=T:=fun x b=>by have:=h.1 x b;unfold qO at this;omega
    rw[BB (by simpa using ha),BC (by simpa using ha)]
    rw[LU.2 (fun x b=>by simpa using hb x b),tc]
    exact congrArg (a :: ·) (vq.2 fun x b=>by simpa using hb x b)
section
variable {es:List Ge} {n:Nat} {f:List Nat} {T:Int}
theorem gQ.cut(h:gQ es n f)(T:Int):∃ m,m<=f.length/\(∀ j,j<m->(fJ es (fJ f j)).w<=T)/\(∀ j,m<=j->j<f.length->T<(fJ es (fJ f j)).w)/\gW es n (f.take m)=sO (es.filter fun e=>decide (e.w<=T)) n:=by
 obtain⟨l,⟨o,d,rfl⟩⟩:=h
 have s:=Qo (T:=T) d.Gm
 obtain⟨g,b,r⟩:=YN (es:=es) (n:=n) (o.filter fun i=>decide ((fJ es i).w<=T)) (o.filter fun i => !decide ((fJ es i).w<=T))
 rw[s]at b
 refine⟨(jF es n (o.filter fun i=>decide ((fJ es i).w<=T))).length,by rw[b,zt];omega,fun j c=>?_,fun j c p=>?_,?_⟩
 . rw[b,iD (show (_++g)[j]? = _ by rw[zG c];exact gE c)]
   have k:=(CF (es:=es) (n:=n) (o.filter fun i=>decide ((fJ es i).w<=T))).subset (ze (gE c))
   simpa using(kZ.1 k).2
 . rw[b]at p ⊢
   have q:j-(jF es n (o.filter fun i=>decide ((fJ es i).w<=T))).length<g.length:=by rw[zt]at p;omega
   rw[iD (show (_++g)[j]? = _ by rw[Hg c];exact gE q)]
   have k:=(kZ.1 (r _ (ze (gE q)))).2
   have y:¬ (fJ es (fJ g (j-(jF es n (o.filter fun i=>decide ((fJ es i).w<=T))).length))).w<=T:=by simpa using k
   omega
 . rw[b,List.take_left,aaz,Qq]
   refine(Ff fun e a=>?_).uniq (Ff fun e a=>?_) fun e=>?_
   . obtain⟨i,hi,rfl⟩:=zz.1 a
     have:=l _ (ze (gE (d.lt (kZ.1 hi).1)))
     exact⟨this.1,this.2.1⟩
   . have:=l _ (kZ.1 a).1
     exact⟨this.1,this.2.1⟩
   . constructor
     . intro a
       obtain⟨i,hi,rfl⟩:=zz.1 a
       obtain⟨v,x⟩:=kZ.1 hi
       exact kZ.2 ⟨ze (gE (d.lt v)),x⟩
     . intro a
       obtain⟨t,u⟩:=kZ.1 a
       obtain⟨i,hi⟩:=List.getElem?_of_mem t
       have e1:=iD hi
       refine zz.2 ⟨i,kZ.2 ⟨d.perm.mem_iff.2 (l7.2 (zj.1 hi).1),?_⟩,e1⟩
       rw[e1];exact u
def q8(es:List Ge)(n:Nat)(f:List Nat)(i y:Nat):Nat:=fJ (gN es n f i).d (fJ (gW es n (f.take i)) y)
theorem gQ.CN(h:gQ es n f){i:Nat}(hi:i<=f.length):tv n (gW es n (f.take i)):=by
 rw[Qq]
 refine(Ff fun e a=>?_).ok
 obtain⟨k,b,rfl⟩:=zz.1 a
 have:=h.g _ (ze (gE (h.f.lt (List.take_subset _ _ b))))
 exact⟨this.1,this.2.1⟩
theorem gQ.afi(h:gQ es n f){i y:Nat}(hi:i<f.length)(a:y<n):q8 es n f (i+1) y=n+i/\(q8 es n f i y=nL es n f i\/q8 es n f i y=nR es n f i)\/q8 es n f (i+1) y=q8 es n f i y:=by
 obtain⟨s1,s2,s3,g,j,k,b⟩:=h.st hi
 have c:=(h.CN (i:=i) o_).len
 have hd:=(yX (es:=es) (n:=n) (f:=f) i).2.2.2.2.2
 have e:=(h.CN (i:=i) o_).low y a
 have e1:(gN es n f (i+1)).d=fO (gN es n f i).d (nA es n f i) (fun _=>n+i):=rfl
 unfold q8
 rw[e1,b,oI o_,DQ o_,uo o_]
 by_cases h1:fJ (gW es n (f.take i)) y=nB es n f i
 . rw[if_pos h1,ji o_,if_pos rfl,h1]
   exact .inl ⟨rfl,.inr rfl⟩
 . rw[if_neg h1,ji o_]
   by_cases h2:nA es n f i=fJ (gW es n (f.take i)) y
   . rw[if_pos h2,<-h2]
     exact .inl ⟨rfl,.inl rfl⟩
   . rw[if_neg h2]
     exact .inr rfl
theorem gQ.NX(h:gQ es n f){y:Nat}(b:y<n):∀ i,i<=f.length->(∀ j,j<i->(fJ es (fJ f j)).w<=T)->jb (fU es n f).p (fU es n f).h T y=jb (fU es n f).p (fU es n f).h T (q8 es n f i y)
 | 0,_,_=>by
  have:q8 es n f 0 y=y:=by
   show fJ (List.range n) (fJ (List.range n) y)=y
   rw[lG b,lG b]
  rw[this]
 | i+1,hi,hw=>by
  rw[h.NX b i o_ fun j t=>hw j o_]
  rcases h.afi (show i<f.length by omega) b with ⟨c,a⟩|c
  . obtain⟨b1,b2,b3,k,l,o,q,r,s,m⟩:=h.inner (show i<f.length by omega)
    have u:=(kX (es:=es) (n:=n) (f:=f)).2.2.1
    have d:=iD b3
    rw[c]
    rcases a with a|a
    . have e:=iD k
      rw[a,xL h.mj o_ o_ (by rw[e];show fJ (fU es n f).h ((n+i:Nat):Int).toNat<=T;rw[show ((n+i:Nat):Int).toNat=n+i by omega,d];exact hw i o_),e,show ((n+i:Nat):Int).toNat=n+i by omega]
    . have g:=iD l
      rw[a,xL h.mj o_ o_ (by rw[g];show fJ (fU es n f).h ((n+i:Nat):Int).toNat<=T;rw[show ((n+i:Nat):Int).toNat=n+i by omega,d];exact hw i o_),g,show ((n+i:Nat):Int).toNat=n+i by omega]
  . rw[c]
theorem gQ.top(h:gQ es n f){y m:Nat}(c:y<n)(hm:m<=f.length)(h1:∀ j,j<m->(fJ es (fJ f j)).w<=T)(o:∀ j,m<=j->j<f.length->T<(fJ es (fJ f j)).w):jb (fU es n f).p (fU es n f).h T y=q8 es n f m y:=by
 rw[h.NX c m hm h1]
 have ok:=h.CN hm
 have x:=ok.low y c
 have v:=h.vK m hm
 have t:=v.d (fJ (gW es n (f.take m)) y) o_ (ok.mV y c)
 refine Cp fun g=>?_
 obtain⟨us,s⟩:=h.GD m hm
 have r:q8 es n f m y<n+f.length:=by have:=s.nd (fJ (gW es n (f.take m)) y) o_;unfold q8;omega
 rcases h.par r with q|⟨j,e,q,a⟩
 . rw[iD q]at g
   omega
 . rw[iD q,show ((n+j:Nat):Int).toNat=n+j by omega,iD (h.inner e).2.2.1]at g
   by_cases hjm:j<m
   . obtain⟨b1,b2,b3,u,k,l⟩:=v.b j hjm
     have i:fJ (gN es n f m).p (q8 es n f m y) = -1:=t.1
     rcases a with a|a
     . rw[a,k]at i;omega
     . rw[a,l]at i;omega
   . have:=o j o_ e
     omega
theorem gQ.Jz(h:gQ es n f){y m:Nat}(a:y<n)(hm:m<=f.length)(h1:∀ j,j<m->(fJ es (fJ f j)).w<=T)(b:∀ j,m<=j->j<f.length->T<(fJ es (fJ f j)).w):gM es n f (jb (fU es n f).p (fU es n f).h T y)=fJ (gW es n (f.take m)) y:=by
 have ok:=h.CN hm
 have c:=ok.low y a
 rw[h.top a hm h1 b]
 exact((h.vK m hm).d (fJ (gW es n (f.take m)) y) o_ (ok.mV y a)).2
theorem gQ.aas(h:gQ es n f):pQ es n f T=sO (es.filter fun e=>decide (e.w<=T)) n:=by
 obtain⟨m,hm,a,b,c⟩:=h.cut T
 rw[<-c]
 have ok:=h.CN hm
 refine ow fun y=>?_
 by_cases hy:y<n
 . rw[gE (xs:=gW es n (f.take m)) (by rw[ok.len];exact hy),<-h.Jz hy hm a b]
   unfold pQ
   rw[lZ,pY hy]
   rfl
 . rw[nk (by rw[aat];omega),nk (by rw[ok.len];omega)]
theorem Fs{y:Nat}(a:y<n):fJ (pQ es n f T) y=gM es n f (jb (fU es n f).p (fU es n f).h T y) :=
 iD (by unfold pQ;rw[lZ,pY a];rfl)
end
theorem Nt{ys:List Int}(hs:ys.Pairwise fun a b=>a<b){i j:Nat}(hi:i<ys.length)(c:j<ys.length)(h:fJ ys i=fJ ys j):i=j:=by
 have hp:=vm.1 hs
 rw[iD (zk hi),iD (zk c)]at h
 rcases Hq i j with q|q|q
 . have:=hp i j hi c q;omega
 . exact q
 . have:=hp j i c hi q;omega
end Go.Sx
namespace Go.Sx
open Go
def Ee(es:List Ge)(u v:Nat):Prop:=∃ e∈es,(u=e.u/\v=e.v)\/(u=e.v/\v=e.u)
theorem Ee.symm{es:List Ge}{u v:Nat}:Ee es u v->Ee es v u:=fun⟨e,c,h⟩=>⟨e,c,h.elim (fun⟨a,b⟩=>.inr ⟨b,a⟩) fun⟨a,b⟩=>.inl ⟨b,a⟩⟩
theorem JI{P:Nat->Prop}:∀ n,P n->∃ m,P m/\∀ k,P k->m<=k:=by
 intro n
 induction n using Nat.strongRecOn with
 | _ n a =>
  grind
noncomputable def yB(A:Nat->Nat->Prop)(i:Nat):Nat:=Classical.choose (JI (P:=Cn A i) i (.refl i))
theorem CV(A:Nat->Nat->Prop)(i:Nat):Cn A i (yB A i):=(Classical.choose_spec (JI (P:=Cn A i) i (.refl i))).1
theorem Fy{A:Nat->Nat->Prop}{i k:Nat}(h:Cn A i k):yB A i<=k:=(Classical.choose_spec (JI (P:=Cn A i) i (.refl i))).2 k h
theorem QI{A:Nat->Nat->Prop}(hs:∀ i j,A i j->A j i){i j:Nat}(h:Cn A i j):yB A i=yB A j :=
 Nat.le_antisymm (Fy (h.trans (CV A j))) (Fy ((h.symm hs).trans (CV A i)))
theorem Y3{es:List Ge}{n:Nat}(h:∀ e∈es,e.u<n/\e.v<n){i j:Nat}(hi:i<n)(d:j<n):fJ (sO es n) i=fJ (sO es n) j↔Cn (Ee es) i j:=by
 have F:=Ff h
 have sy:∀ i j,Ee es i j->Ee es j i:=fun i j=>Ee.symm
 constructor
 . intro e
   have nd:∀ k,k<n->fJ ((List.range n).map (yB (Ee es))) k=yB (Ee es) k:=fun k c=>iD (by rw[lZ,pY c];rfl)
   have ok:tv n ((List.range n).map (yB (Ee es))):=by
    refine⟨s_,fun k c=>?_,fun k c=>?_⟩
    . rw[nd k c];exact Fy (.refl k)
    . have f:=Fy (A:=Ee es) (.refl k)
      rw[nd k c,nd _ o_]
      exact(QI sy (CV (Ee es) k)).symm
   have:=F.r8 _ ok (fun e b=>by
    rw[nd _ (h e b).1,nd _ (h e b).2]
    exact QI sy (.one ⟨e,b,.inl ⟨rfl,rfl⟩⟩)) i j hi d e
   rw[nd i hi,nd j d]at this
   exact(CV (Ee es) i).trans (by rw[this];exact(CV (Ee es) j).symm sy)
 . intro t
   clear hi
   induction t with
   | refl=>rfl
   | step a _ g =>
    obtain⟨e,b,f⟩:=a
    rw[<-g d]
    rcases f with ⟨rfl,rfl⟩|⟨rfl,rfl⟩
    . exact F.Gf e b
    . exact(F.Gf e b).symm
theorem Cn.map{A B:Nat->Nat->Prop}{φ:Nat->Nat}(h:∀ i j,A i j->B (φ i) (φ j)){i j:Nat}(t:Cn A i j):Cn B (φ i) (φ j):=by
 induction t with
 | refl=>exact .refl _
 | step a _ b=>exact .step (h _ _ a) b
noncomputable def DX(t:TW)(id:Int):Nat:=by
 classical
 exact if h:∃ z,t.At z id then Classical.choose h else 0
theorem Ht{t:TW}(a:t.ok){z:Nat}{id:Int}(h:t.At z id):DX t id=z:=by
 unfold DX
 have b:∃ z,t.At z id:=⟨z,h⟩
 grind [TW.At.uniq]
section
variable {fN fL:Nat} {u:fV} {g:GW} {K:List Int} {L:List Lv} {es:List Ge}
theorem nV.conn(h:nV u g)(f:u.ok fN fL)(o:u.p8 K)(E:u.mQ L)(w:oP K L es L.length){a b:Nat}{x y:Int}(A:u.t.At a x)(hb:u.t.At b y) :
 Cn (vC (gF g.m)) a b↔Cn (Ee es) (gH K x) (gH K y):=by
 have C:∀ {id:Int},u.t.mem id->id∈K:=fun hm=>(o.mem _).2 hm
 have pl:∀ {e:Nat} {id:Int},e<K.length->fJ K e=id->u.t.mem id->e=gH K id:=fun r l hm=>by
  have d:=o6 o.j4 (C hm)
  exact Nt o.j4 r d.1 (l.trans d.2.symm)
 have tG:∀ {x:Lv},u.has x->∃ e∈es,e.u=gH K x.u/\e.v=gH K x.v:=fun {x} s=>by
  obtain⟨q,n,e⟩:=ue ((E.mem x).2 s)
  have e1:fJ L q=x:=iD (by rw[zk n,e])
  have hp:=w.fst q n
  rw[e1]at hp
  have hm:=f.yC s
  exact⟨fJ es q,ze (gE (by rw[w.len];exact n)),pl hp.ul hp.u hm.1,pl hp.vl hp.v hm.2⟩
 constructor
 . intro t
   have:=t.map (B:=Ee es) (φ:=fun z=>gH K (fJ u.t.ids z)) fun i j ⟨k,e,r,D⟩=>by
    obtain⟨P,O,_,l,d,_⟩:=h.live r
    obtain⟨e', F, e1,c⟩:=tG O
    rcases D with ⟨rfl,rfl⟩|⟨rfl,rfl⟩
    . exact⟨e', F, .inl ⟨by show gH K (fJ u.t.ids e.a)=_;rw[l.2,e1],by show gH K (fJ u.t.ids e.b)=_;rw[d.2,c]⟩⟩
    . exact⟨e', F, .inr ⟨by show gH K (fJ u.t.ids e.b)=_;rw[d.2,c],by show gH K (fJ u.t.ids e.a)=_;rw[l.2,e1]⟩⟩
   rw[A.2,hb.2]at this
   exact this
 . intro t
   have:=t.map (B:=vC (gF g.m)) (φ:=fun p=>DX u.t (fJ K p)) fun i j ⟨e,r,D⟩=>by
    obtain⟨q,n,M⟩:=ue r
    have e1:fJ es q=e:=iD (by rw[zk n,M])
    have H:q<L.length:=by rw[<-w.len];exact n
    have hp:=w.fst q H
    rw[e1]at hp
    have s:u.has (fJ L q):=(E.mem _).1 (ze (gE H))
    obtain⟨k,N,_,_,_⟩:=f.xU s
    obtain⟨c,G,_,l,d⟩:=h.tG f s N
    have I:DX u.t (fJ K e.u)=c.a:=Ht f.tok (by rw[hp.u];exact l)
    have J:DX u.t (fJ K e.v)=c.b:=Ht f.tok (by rw[hp.v];exact d)
    rcases D with ⟨rfl,rfl⟩|⟨rfl,rfl⟩
    . exact⟨k,c,G,.inl ⟨I,J⟩⟩
    . exact⟨k,c,G,.inr ⟨J,I⟩⟩
   rw[(o6 o.j4 (C ⟨a,A.1,A.2⟩)).2,(o6 o.j4 (C ⟨b,hb.1,hb.2⟩)).2,Ht f.tok A,Ht f.tok hb]at this
   exact this
end
end Go.Sx
namespace Go.Sx
open Go
theorem fV.ok.copy{fN fL:Nat}{s:fV}(h:s.ok fN fL){d:AW}(e:∃ g,d.A={ s.A with ps:=g })(k:d.A.ok){t2:TW}(q:t2.ok)(o:∀ x,t2.mem x↔s.t.mem x)(p:t2.A.n=s.t.A.n){im2:IM}(hk:(im2.map Prod.fst).Nodup)
 (f:∀ a,(gU im2 a=none↔gU s.im a=none)/\(fT im2 a).2=(fT s.im a).2) (je tb ab mb:Nat) (lv:Value) :
 fV.ok fN fL ⟨je,tb,ab,mb,lv,s.last,d,t2,s.live,im2⟩/\∀ x,fV.has ⟨je,tb,ab,mb,lv,s.last,d,t2,s.live,im2⟩ x↔s.has x:=by
 obtain⟨g,e⟩:=e
 have c:∀ j,d.A.gX j↔s.A.gX j:=fun j=>by rw[e];exact Iff.rfl
 have m:d.A.n=s.A.n:=by rw[e]
 have hb:d.A.begun=s.A.begun:=by rw[e]
 refine⟨⟨m.trans h.n,p.trans h.tn,h.en,h.vn,k,q,h.ll.trans hb.symm,fun i hi=>h.slot i ((c i).1 hi),h.Fx,fun i hi=>h.ne i ((c i).1 hi),fun id=>?_,hk,fun id i=>?_,fun id=>?_,fun id=>?_,
  fun i hi=>h.seq i ((c i).1 hi),fun i j hi l=>h.Gk i j ((c i).1 hi) ((c j).1 l),h.sP⟩,fun x=>?_⟩
 . show t2.mem id↔∃ i,d.A.gX i/\_
   rw[o,h.mem]
   exact⟨fun⟨i,a,b⟩=>⟨i,(c i).2 a,b⟩,fun⟨i,a,b⟩=>⟨i,(c i).1 a,b⟩⟩
 . show i∈(fT im2 id).2↔d.A.gX i/\_
   rw[(f id).2,c]
   exact h.inc id i
 . show ((fT im2 id).2).Nodup
   rw[(f id).2]
   exact h.nd id
 . show gU im2 id=none↔(fT im2 id).2=[]
   rw[(f id).1,(f id).2]
   exact h.empty id
 . exact⟨fun⟨i,a,b⟩=>⟨i,(c i).1 a,b⟩,fun⟨i,a,b⟩=>⟨i,(c i).2 a,b⟩⟩
end Go.Sx
